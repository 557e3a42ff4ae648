import PyProof.Rows.All
import Wide.All
import OpenK.AllK
import Wide.FinOn
import HandS.ForMost
import HandS.ForExc
import HandS.TupLen
import HandS.Lambda
import HandS.Walk
import HandS.Dict
import HandS.TupAny
import HandS.TupMul
import HandS.IsInst
import HandS.Deep
import KE.DataCmp
import HandS.Flow
import HandS.Zip
import HandS.Zip0
import PyProof.Draws
import HandS.Style
import HandS.ExcCtx
import HandS.Hot
import HandS.HotCalls
import HandS.ExcIs
import KE.SortData
import PyProof.TupleOfSeq
import HandS.ExcValue
import HandS.WideBits
import HandS.SetFor
import HandS.Conv
import HandS.CallLocal
import HandS.Ends
import HandS.EndBits
import HandS.EndTab
import HandS.EndOwn
import HandS.ExcInit
import HandS.Strs
import HandS.TupSets
import PySem.Challenge.RW_squaresact_k23_whole_powers_of_one_lette
set_option Elab.async false
set_option linter.all false
set_option maxRecDepth 100000
set_option maxHeartbeats 4000000
/-! Vi, the core: pure values, a small core language, what it computes. -/
namespace Vi
open PySem

/-! ### values -/
inductive P where
  | non | bl (b : Bool) | int (i : Int) | str (s : Str)
  | tup (xs : List P) | lst (xs : List P)
  | dct (t : Bool) (ks vs : List P) | set (xs : List P)
  | fn (i : Nat) | cls (i : Nat) | ref (i : Nat) | exc (c : Nat) (a : P)
  /-- a list that is only copied (what the law is handed) -/
  | scr (xs : List P)
instance : Inhabited P := ⟨.non⟩

/-- what may be changed: a list that is handed about -/
inductive RObj where
  | cell (xs : List P)
instance : Inhabited RObj := ⟨.cell []⟩
abbrev Sto := List RObj

/-- an exception: its class, its field's value -/
structure Ex where
  c : Nat
  a : P

inductive Rs (α : Type) where
  | ok (a : α) (S : Sto)
  | err (e : Ex) (S : Sto)
  | no

def M (α : Type) := Sto → Rs α
namespace M
variable {α β : Type}
def pure (a : α) : M α := fun S => .ok a S
def bind (m : M α) (f : α → M β) : M β := fun S => match m S with
  | .ok a S' => f a S'
  | .err e S' => .err e S'
  | .no => .no
def no : M α := fun _ => .no
def ofO : Option α → M α
  | some a => pure a
  | none => no
/-- no exception may leave -/
def calm (m : M α) : M α := fun S => match m S with
  | .ok a S' => .ok a S'
  | .err _ _ => .no
  | .no => .no
end M

/-! ### data -/
mutual
def eqv : P → P → Bool
  | .non, .non => true
  | .bl a, .bl b => a == b
  | .bl a, .int j => (if a then 1 else 0) == j
  | .int i, .bl b => i == (if b then 1 else 0)
  | .int i, .int j => i == j
  | .str x, .str y => x == y
  | .lst xs, .lst ys => eqvs xs ys
  | .tup xs, .tup ys => eqvs xs ys
  | _, _ => false
def eqvs : List P → List P → Bool
  | [], [] => true
  | x :: xs, y :: ys => eqv x y && eqvs xs ys
  | _, _ => false
end
mutual
/-- data of at most so many levels -/
def shp : Nat → P → Bool
  | _, .non => true
  | _, .bl _ => true
  | _, .int _ => true
  | _, .str s => PyData.strOk s
  | 0, _ => false
  | n + 1, .lst xs => shps n xs
  | n + 1, .tup xs => shps n xs
  | _ + 1, _ => false
def shps : Nat → List P → Bool
  | _, [] => true
  | n, x :: xs => shp n x && shps n xs
end

abbrev lim : Nat := 16777216

def asInts : List P → Option (List Int)
  | [] => some []
  | .int i :: r => match asInts r with
    | some l => some (i :: l)
    | none => none
  | _ :: _ => none
def asBools : List P → Option (List Bool)
  | [] => some []
  | .bl i :: r => match asBools r with
    | some l => some (i :: l)
    | none => none
  | _ :: _ => none
def asStrs : List P → Option (List Str)
  | [] => some []
  | .str i :: r => match asStrs r with
    | some l => some (i :: l)
    | none => none
  | _ :: _ => none

/-! ### dicts: keys that are ints and texts, or (t) tuples of such -/
def keyOk : P → Bool
  | .int _ => true
  | .str _ => true
  | _ => false
def keysOk : List P → Bool
  | [] => true
  | x :: r => keyOk x && keysOk r
def dkey (t : Bool) (k : P) : Bool := if t then (match k with
  | .tup xs => keysOk xs
  | _ => false) else keyOk k
def dget (k : P) : List P → List P → Option P
  | q :: ks, v :: vs => if eqv q k then some v else dget k ks vs
  | _, _ => none
def dhas (k : P) (ks : List P) : Bool := ks.any fun q => eqv q k
def drepl (k v : P) : List P → List P → List P
  | q :: ks, u :: vs => (if eqv q k then v else u) :: drepl k v ks vs
  | _, _ => []
def dputK (k : P) (ks : List P) : List P := if dhas k ks then ks else ks ++ [k]
def dputV (k v : P) (ks vs : List P) : List P := if dhas k ks then drepl k v ks vs else vs ++ [v]
/-! ### the order of data -/
def ltNs : List Nat → List Nat → Bool
  | [], [] => false
  | [], _ :: _ => true
  | _ :: _, [] => false
  | x :: r, y :: t => Nat.blt x y || (Nat.beq x y && ltNs r t)
mutual
/-- the two can be compared, place by place -/
def alk : P → P → Bool
  | .bl _, .bl _ => true
  | .int _, .int _ => true
  | .str _, .str _ => true
  | .lst xs, .lst ys => alks xs ys
  | .tup xs, .tup ys => alks xs ys
  | _, _ => false
def alks : List P → List P → Bool
  | x :: xs, y :: ys => alk x y && alks xs ys
  | [], _ => true
  | _ :: _, [] => true
end
mutual
/-- less than, of such -/
def ltp : P → P → Bool
  | .bl a, .bl b => !a && b
  | .int i, .int j => decide (i < j)
  | .str x, .str y => ltNs x.cps.toList y.cps.toList
  | .lst xs, .lst ys => ltps xs ys
  | .tup xs, .tup ys => ltps xs ys
  | _, _ => false
def ltps : List P → List P → Bool
  | [], [] => false
  | [], _ :: _ => true
  | _ :: _, [] => false
  | x :: xs, y :: ys => if eqv x y then ltps xs ys else ltp x y
end
/-- put to its place, behind its equals -/
def ins (x : P) : List P → List P
  | [] => [x]
  | y :: r => if ltp x y then x :: y :: r else y :: ins x r
def isort : List P → List P → List P
  | acc, [] => acc
  | acc, x :: r => isort (ins x acc) r
def alkAll : List P → Bool
  | [] => true
  | x :: r => alk x x && r.all (fun y => alk x y && alk y x) && alkAll r
def isTupC : P → Bool
  | .tup (_ :: _) => true
  | _ => false
def isTupP : P → Bool
  | .tup _ => true
  | _ => false
/-- what sorted can be asked of -/
def srtOk (xs : List P) : Bool := shps 62 xs && alkAll xs && (xs.all isTupC || xs.all (fun x => !isTupP x) || decide (xs.length ≤ 1))

/-- the place of an index -/
def ixN (n : Nat) (i : Int) : Option Nat :=
  if 0 ≤ i then (if i < n then some i.toNat else none) else if -(n : Int) ≤ i then some (i + n).toNat else none
def atI (xs : List P) (i : Int) : Option P := (ixN xs.length i).bind fun j => xs[j]?
/-- the place of a slice's end -/
def sIx (n d : Nat) : Option Int → Nat
  | none => d
  | some v => if v < 0 then (v + (n : Int)).toNat else min v.toNat n
def cut {α : Type} (xs : List α) (lo hi : Option Int) : List α := (xs.drop (sIx xs.length 0 lo)).take (sIx xs.length xs.length hi - sIx xs.length 0 lo)

/-! ### operators -/
inductive Bop where
  | add | sub | mul | fdiv | mod | pow | shl | shr | band | bor | bxor
inductive Cop where
  | eq | ne | lt | le | gt | ge | is | isnot | isin | notin
inductive Ty where
  | int | bool | str | tuple | list | cls (c : Nat)
inductive Blt where
  | len | sum | all | any | abs | min | max | int | str | tuple | list | isi (t : Ty)
/-- a method without change of its object -/
inductive Mth where
  | join

/-- a ≤ b, by cases (the kernel must never count to a great number) -/
def lei : Int → Int → Bool
  | .ofNat a, .ofNat b => Nat.ble a b
  | .negSucc _, .ofNat _ => true
  | .ofNat _, .negSucc _ => false
  | .negSucc a, .negSucc b => Nat.ble b a
theorem lei_eq : ∀ a b : Int, lei a b = decide (a ≤ b)
  | .ofNat a, .ofNat b => by
    show Nat.ble a b = _
    rw [Bool.eq_iff_iff, Nat.ble_eq, decide_eq_true_eq]
    exact Int.ofNat_le.symm
  | .negSucc a, .ofNat b => by
    show true = _
    exact (decide_eq_true (by have := Int.negSucc_lt_zero a; have : (0 : Int) ≤ Int.ofNat b := Int.natCast_nonneg b; omega)).symm
  | .ofNat a, .negSucc b => by
    show false = _
    exact (decide_eq_false (by have := Int.negSucc_lt_zero b; have : (0 : Int) ≤ Int.ofNat a := Int.natCast_nonneg a; omega)).symm
  | .negSucc a, .negSucc b => by
    show Nat.ble b a = _
    rw [Bool.eq_iff_iff, Nat.ble_eq, decide_eq_true_eq]
    omega
def mulOk (i j : Int) : Bool := (lei (-18446744073709551615) i && lei i 18446744073709551615) || (lei (-18446744073709551615) j && lei j 18446744073709551615)
theorem mulOk_eq (i j : Int) : mulOk i j = ((decide (-(2 ^ 64) < i) && decide (i < 2 ^ 64)) || (decide (-(2 ^ 64) < j) && decide (j < 2 ^ 64))) := by
  unfold mulOk
  simp only [lei_eq]
  congr 2 <;> exact decide_eq_decide.mpr (by omega)
/-- -2^63 ≤ k < 2^63 -/
def in63 (k : Int) : Bool := lei (-9223372036854775808) k && lei k 9223372036854775807
theorem in63_eq (k : Int) : in63 k = (decide (-(2 ^ 63) ≤ k) && decide (k < 2 ^ 63)) := by
  unfold in63
  simp only [lei_eq]
  congr 1 <;> exact decide_eq_decide.mpr (by omega)
def rep {α : Type} (k : Nat) (xs : List α) : List α := (List.replicate k xs).flatten

def bop : Bop → P → P → Option P
  | .add, .int i, .int j => some (.int (i + j))
  | .add, .str x, .str y => if x.length + y.length ≤ lim then some (.str (x ++ y)) else none
  | .add, .lst xs, .lst ys => if xs.length + ys.length ≤ lim then some (.lst (xs ++ ys)) else none
  | .add, .tup xs, .tup ys => if xs.length + ys.length ≤ lim then some (.tup (xs ++ ys)) else none
  | .sub, .int i, .int j => some (.int (i - j))
  | .mul, .int i, .int j => if mulOk i j then some (.int (i * j)) else none
  | .mul, .lst xs, .int k => if xs.length * k.toNat ≤ lim && in63 k then some (.lst (rep k.toNat xs)) else none
  | .mul, .tup xs, .int k => if decide (xs.length * k.toNat ≤ lim) && in63 k then some (.tup (rep k.toNat xs)) else none
  | .fdiv, .int i, .int j => if decide (0 < j) && lei j 1073741823 then some (.int (i / j)) else none
  | .mod, .int i, .int j => if decide (0 < j) then some (.int (i % j)) else none
  | .pow, .int i, .int j => if decide (0 ≤ j) && lei j 1000000 && decide (i.natAbs < 2 ^ 64) then some (.int (i ^ j.toNat)) else none
  | .shl, .int i, .int j => if decide (0 ≤ j) && lei j 1000000 && decide (i.natAbs < 2 ^ 64) then some (.int (i * 2 ^ j.toNat)) else none
  | .shr, .int i, .int j => if decide (0 ≤ j) then some (.int (i / 2 ^ j.toNat)) else none
  | .band, .int i, .int j => some (.int (Builtin.bitAnd i j))
  | .bor, .int i, .int j => some (.int (Builtin.bitOr i j))
  | .bxor, .int i, .int j => some (.int (Builtin.bitXor i j))
  | _, _, _ => none

def isNon : P → Bool
  | .non => true
  | _ => false
def cmpG (p q : P) : Bool := shp 62 p && shp 62 q && alk p q
def cop : Cop → P → P → Option Bool
  | .eq, a, b => if shp 64 a && shp 64 b then some (eqv a b) else none
  | .ne, a, b => if shp 64 a && shp 64 b then some (!eqv a b) else none
  | .lt, .int i, .int j => some (decide (i < j))
  | .lt, p, q => if cmpG p q then some (ltp p q) else none
  | .le, .int i, .int j => some (decide (i ≤ j))
  | .le, p, q => if cmpG p q then some (!ltp q p) else none
  | .gt, .int i, .int j => some (decide (j < i))
  | .gt, p, q => if cmpG p q then some (ltp q p) else none
  | .ge, .int i, .int j => some (decide (j ≤ i))
  | .ge, p, q => if cmpG p q then some (!ltp p q) else none
  | .is, a, .non => some (isNon a)
  | .isnot, a, .non => some (!isNon a)
  | .isin, a, .lst xs => if shp 64 a && shps 63 xs then some (xs.any fun z => eqv z a) else none
  | .isin, a, .tup xs => if shp 64 a && shps 63 xs then some (xs.any fun z => eqv z a) else none
  | .notin, a, .lst xs => if shp 64 a && shps 63 xs then some (!xs.any fun z => eqv z a) else none
  | .notin, a, .tup xs => if shp 64 a && shps 63 xs then some (!xs.any fun z => eqv z a) else none
  | _, _, _ => none

def truth : P → Option Bool
  | .non => some false
  | .bl b => some b
  | .int i => some (i != 0)
  | .str s => if s.length ≤ lim then some ((s.length : Int) != 0) else none
  | .tup xs => some !xs.isEmpty
  | .lst xs => some !xs.isEmpty
  | _ => none

def isi (sub : Nat → Nat → Bool) : P → Ty → Option Bool
  | .non, .cls _ => none
  | .non, _ => some false
  | .bl _, .int => some true
  | .bl _, .bool => some true
  | .bl _, .cls _ => none
  | .bl _, _ => some false
  | .int _, .int => some true
  | .int _, .cls _ => none
  | .int _, _ => some false
  | .str _, .str => some true
  | .str _, .cls _ => none
  | .str _, _ => some false
  | .tup _, .tuple => some true
  | .tup _, .cls _ => none
  | .tup _, _ => some false
  | .lst _, .list => some true
  | .lst _, .cls _ => none
  | .lst _, _ => some false
  | .exc c _, .cls d => some (sub c d)
  | _, _ => none

def minI (a b : Int) : Int := if b < a then b else a
def maxI (a b : Int) : Int := if b > a then b else a

def blt (sub : Nat → Nat → Bool) : Blt → List P → Option P
  | .len, [.str s] => if s.length ≤ lim then some (.int s.length) else none
  | .len, [.lst xs] => some (.int xs.length)
  | .len, [.tup xs] => some (.int xs.length)
  | .sum, [.lst xs] => (asInts xs).map fun l => .int l.sum
  | .sum, [.tup xs] => (asInts xs).map fun l => .int l.sum
  | .all, [.lst xs] => (asBools xs).map fun l => .bl (l.all id)
  | .any, [.lst xs] => (asBools xs).map fun l => .bl (l.any id)
  | .abs, [.int i] => some (.int (if i < 0 then -i else i))
  | .min, [.int i, .int j] => some (.int (minI i j))
  | .max, [.int i, .int j] => some (.int (maxI i j))
  | .int, [.int i] => some (.int i)
  | .int, [.bl k] => some (.int (if k then 1 else 0))
  | .str, [.int i] => if i.natAbs.log2 < 1920 then some (.str (toString i)) else none
  | .tuple, [.lst xs] => some (.tup xs)
  | .tuple, [.tup xs] => some (.tup xs)
  | .list, [.lst xs] => some (.lst xs)
  | .list, [.tup xs] => some (.lst xs)
  | .list, [.scr xs] => some (.lst xs)
  | .isi t, [v] => (isi sub v t).map .bl
  | _, _ => none

/-- what else an expression does with values -/
inductive Xop where
  | sorted | maxL | minL | dget | dgetd | dget1 | din | dnotin | dlen | dlist | bitlen | index | count | sortset | lenset | lrng
def maxIs : List Int → Option Int
  | [] => none
  | x :: r => some (r.foldl (fun a b => if b > a then b else a) x)
def minIs : List Int → Option Int
  | [] => none
  | x :: r => some (r.foldl (fun a b => if b < a then b else a) x)
/-- ints in order, each once -/
def insU (x : Int) : List Int → List Int
  | [] => [x]
  | y :: r => if x < y then x :: y :: r else if x = y then y :: r else y :: insU x r
def setU (xs : List Int) : List Int := xs.foldl (fun a x => insU x a) []
def findP (x : P) : List P → Nat → Option Nat
  | [], _ => none
  | y :: r, i => if eqv y x then some i else findP x r (i + 1)
def xop : Xop → List P → Option P
  | .sorted, [.lst xs] => if srtOk xs then some (.lst (isort [] xs)) else none
  | .sorted, [.tup xs] => if srtOk xs then some (.lst (isort [] xs)) else none
  | .maxL, [.lst xs] => match asInts xs with
    | some l => (maxIs l).map .int
    | none => none
  | .minL, [.lst xs] => match asInts xs with
    | some l => (minIs l).map .int
    | none => none
  | .dget, [.dct t ks vs, k] => if dkey t k then Vi.dget k ks vs else none
  | .dgetd, [.dct t ks vs, k, d] => if dkey t k then some ((Vi.dget k ks vs).getD d) else none
  | .dget1, [.dct t ks vs, k] => if dkey t k then some ((Vi.dget k ks vs).getD .non) else none
  | .din, [k, .dct t ks vs] => if dkey t k then some (.bl (Vi.dget k ks vs).isSome) else none
  | .dnotin, [k, .dct t ks vs] => if dkey t k then some (.bl !(Vi.dget k ks vs).isSome) else none
  | .dlen, [.dct _ ks _] => some (.int ks.length)
  | .dlist, [.dct _ ks _] => some (.lst ks)
  | .bitlen, [.int i] => some (.int (Builtin.Int.intBits i : Nat))
  | .index, [.lst xs, x] => if shps 63 xs && shp 63 x then (findP x xs 0).map fun i => .int i else none
  | .count, [.lst xs, .int k] => match asInts xs with
    | some l => some (.int (l.count k : Nat))
    | none => none
  | .sortset, [.lst xs] => match asInts xs with
    | some l => if decide ((setU l).length < 64) && decide (l.length ≤ 4000) then some (.lst ((setU l).map .int)) else none
    | none => none
  | .lrng, [.int i] => if lei (-4611686018427387904) i && lei i 16777216 then some (.lst ((List.range i.toNat).map fun k => .int (k : Nat))) else none
  | .lenset, [.lst xs] => match asInts xs with
    | some l => if decide (l.length ≤ 4000) then some (.int (setU l).length) else none
    | none => none
  | _, _ => none
/-- a method's object -/
def xmOk : Xop → P → Bool
  | .dgetd, .dct _ _ _ => true
  | .dget1, .dct _ _ _ => true
  | .index, .lst _ => true
  | .count, .lst _ => true
  | .bitlen, .int _ => true
  | _, _ => false
/-- what else is walked -/
inductive Xi where
  | keys | items | values | enum | rng3

def mthOk : Mth → P → Bool
  | .join, .str _ => true
  | _, _ => false
def mth : Mth → P → List P → Option P
  | .join, .str a, [.lst xs] => match asStrs xs with
    | some ys => if (ys.map (·.length)).sum + ys.length * a.length ≤ lim then some (.str (Txt.join a ys)) else none
    | none => none
  | _, _, _ => none

/-! ### the core language -/
/-- what is stored to: a name, a tuple of names -/
inductive Tg where
  | n (i : Nat) | t (is : List Nat)
  /-- a name, and a tuple of names -/
  | p (i : Nat) (js : List Nat)
mutual
inductive CE where
  | var (i : Nat)
  | con (v : P)
  | glob (v : P)
  | op (o : Bop) (a b : CP)
  | cmp (o : Cop) (a b : CP)
  | chn (o o' : Cop) (a b c : CE)
  | neg (a : CE)
  | not (a : CE)
  | and (a b : CE)
  | or (a b : CE)
  | ife (t : CT) (a b : CE)
  | tup (es : CEs)
  | lst (es : CEs)
  | newref (es : CEs)
  | call (f : Nat) (es : CEs)
  | blt (b : Blt) (es : CPs)
  | mth (m : Mth) (o : CE) (es : CPs)
  | ix (a : CP) (i : CE)
  | slc (a : CP) (lo hi : CO)
  | rev (a : CP)
  | x (o : Xop) (es : CPs)
  | xm (o : Xop) (a : CP) (es : CPs)
  | callv (a : CE) (es : CEs)
  | newd (t : Bool)
  | lc (own : List Nat) (tg : Tg) (it : CI) (ifs : CQ) (e : CE)
  | told (e : CE)
/-- an operand that is looked at, not kept: an owned object too -/
inductive CP where
  | look (i : Nat)
  | e (e : CE)
inductive CPs where
  | nil
  | cons (e : CP) (es : CPs)
inductive CO where
  | non
  | som (e : CE)
inductive CEs where
  | nil
  | cons (e : CE) (es : CEs)
inductive CI where
  | seq (e : CP)
  | rng1 (a : CE)
  | rng2 (a b : CE)
  | zip (a b : CE)
  | x (o : Xi) (es : CPs)
inductive CQ where
  | yes
  | one (t : CT)
inductive CT where
  | val (e : CP)
  | not (a : CT)
  | and (a b : CT)
  | or (a b : CT)
end
inductive CS where
  | set (i : Nat) (e : CE)
  | own (i : Nat) (e : CE)
  | frz (i : Nat)
  | par (is : List Nat) (es : CEs)
  /-- two names, the first a def's own list, the second too if k -/
  | par2 (i : Nat) (a : CE) (k : Bool) (j : Nat) (b : CE)
  | unp (is : List Nat) (e : CE)
  | app (i : Nat) (e : CE)
  | seti (i : Nat) (k e : CE)
  | rseti (i : Nat) (k e : CE)
  | drop (e : CE)
  | ife (t : CT) (a b : CS)
  | forr (tg : Tg) (it : CI) (body : CS)
  | whil (t : CT) (body : CS)
  | ret (e : CE)
  | rais (c : Nat)
  | raisv (c : Nat) (e : CE)
  | dput (i : Nat) (k e : CE)
  /-- own lists made longer -/
  | ext (i : Nat) (e : CP)
  /-- two or three names at once; the marked ones become the def's own -/
  | pars (ks : List (Bool × Nat)) (es : CEs)
  | frzd (i : Nat)
  | brk | cnt | pas
  | aug (i : Nat) (o : Bop) (e : CE)
  | seq (a b : CS)

/-! ### slots -/
inductive Sl where
  | un | val (v : P) | own (v : P)
instance : Inhabited Sl := ⟨.un⟩
abbrev Env := List Sl
def get (ρ : Env) (i : Nat) : Option P := match ρ[i]? with
  | some (.val v) => some v
  | _ => none
/-- an operand that is looked at, not kept -/
def getT (ρ : Env) (i : Nat) : Option P := match ρ[i]? with
  | some (.val v) => some v
  | some (.own v) => some v
  | _ => none
def isOwn (ρ : Env) (i : Nat) : Bool := match ρ[i]? with
  | some (.own _) => true
  | _ => false
def put (ρ : Env) (i : Nat) (v : P) : Env := ρ.set i (.val v)
def unown (ρ : Env) : Env := ρ.map fun
  | .own _ => .un
  | s => s
def wipes (ρ : Env) : List Nat → Env
  | [] => ρ
  | i :: r => wipes (ρ.set i .un) r
def puts (ρ : Env) : List Nat → List P → Option Env
  | [], [] => some ρ
  | i :: is, v :: vs => puts (put ρ i v) is vs
  | _, _ => none
def store (ρ : Env) : Tg → P → Option Env
  | .n i, v => some (put ρ i v)
  | .t is, .tup vs => puts ρ is vs
  | .t _, _ => none
  | .p i js, .tup [a, .tup vs] => puts (put ρ i a) js vs
  | .p _ _, _ => none

/-! ### what it computes -/
structure Dn where
  F : Nat → List P → M P
  F2 : Nat → List P → M P
  FC : M P → M P
  sub : Nat → Nat → Bool

def atRef (r : Nat) (i : Int) : M P := fun S => match S[r]? with
  | some (.cell xs) => match atI xs i with
    | some v => .ok v S
    | none => .no
  | none => .no
def index : P → P → M P
  | .lst xs, .int i => M.ofO (atI xs i)
  | .tup xs, .int i => M.ofO (atI xs i)
  | .str s, .int i => if s.length ≤ lim then M.ofO ((ixN s.cps.toList.length i).bind fun j => (s.cps.toList[j]?).map fun c => .str ⟨#[c]⟩) else M.no
  | .ref r, .int i => atRef r i
  | _, _ => M.no
def slice (v : P) (l h : Option Int) : Option P := match v with
  | .lst xs => some (.lst (cut xs l h))
  | .tup xs => some (.tup (cut xs l h))
  | .str s => if s.length ≤ lim then some (.str ⟨(cut s.cps.toList l h).toArray⟩) else none
  | _ => none
def revP : P → Option P
  | .lst xs => some (.lst xs.reverse)
  | .tup xs => some (.tup xs.reverse)
  | _ => none
def newRef (xs : List P) : M P := fun S => .ok (.ref S.length) (S ++ [.cell xs])
def compL (f : P → M (Option P)) : List P → M (List P)
  | [] => M.pure []
  | x :: r => (f x).bind fun o => (compL f r).bind fun l => M.pure (match o with
    | some y => y :: l
    | none => l)
def rangeL (lo : Int) (n : Nat) : List P := (List.range n).map fun k => .int (lo + (k : Nat))
def bigI : Int := 4611686018427387904
def rng1 : P → Option (List P)
  | .int j => if lei (-bigI) j && lei j (lim : Int) then some (rangeL 0 j.toNat) else none
  | _ => none
def rng2 : P → P → Option (List P)
  | .int i, .int j => if lei (-(lim : Int)) i && lei i (lim : Int) && lei (-(lim : Int)) j && lei (j - i) (lim : Int) then some (rangeL i (j - i).toNat) else none
  | _, _ => none
def items : P → Option (List P)
  | .lst xs => some xs
  | .tup xs => some xs
  | .str s => if s.length ≤ lim then some (s.cps.toList.map fun c => .str ⟨#[c]⟩) else none
  | _ => none
def pairP (p : P × P) : P := .tup [p.1, p.2]
def zipP : P → P → Option (List P)
  | .lst xs, .lst ys => some ((xs.zip ys).map pairP)
  | .tup xs, .tup ys => some ((xs.zip ys).map pairP)
  | _, _ => none
def enumL : Nat → List P → List P
  | _, [] => []
  | n, x :: r => .tup [.int n, x] :: enumL (n + 1) r
def rngNeg (lo : Int) (n : Nat) : List P := (List.range n).map fun k => .int (lo - (k : Nat))
def zipPs : List P → List P → List P
  | k :: ks, v :: vs => .tup [k, v] :: zipPs ks vs
  | _, _ => []
def xi : Xi → List P → Option (List P)
  | .enum, [.lst xs] => some (enumL 0 xs)
  | .enum, [.tup xs] => some (enumL 0 xs)
  | .keys, [.dct _ ks _] => some ks
  | .values, [.dct false _ vs] => some vs
  | .items, [.dct false ks vs] => some (zipPs ks vs)
  | .rng3, [.int i, .int j, .int k] => if decide (k = -1) && lei (-(lim : Int)) i && lei (i + 1) (lim : Int) && lei (-1) j && lei j (lim : Int) then some (rngNeg i (i - j).toNat) else none
  | _, _ => none

mutual
def denE (d : Dn) (ρ : Env) : CE → M P
  | .var i => M.ofO (get ρ i)
  | .con v => M.pure v
  | .glob v => M.pure v
  | .op o a b => (denO d ρ a).bind fun x => (denO d ρ b).bind fun y => M.ofO (bop o x y)
  | .cmp o a b => (denO d ρ a).bind fun x => (denO d ρ b).bind fun y => M.ofO ((cop o x y).map .bl)
  | .chn o o' a b c => (denE d ρ a).bind fun x => (denE d ρ b).bind fun y => (M.ofO (cop o x y)).bind fun k =>
      if k then (denE d ρ c).bind fun z => M.ofO ((cop o' y z).map .bl) else M.pure (.bl false)
  | .neg a => (denE d ρ a).bind fun
      | .int i => M.pure (.int (-i))
      | _ => M.no
  | .not a => (denE d ρ a).bind fun x => M.ofO ((truth x).map fun k => .bl (!k))
  | .and a b => (denE d ρ a).bind fun
      | .bl true => denE d ρ b
      | .bl false => M.pure (.bl false)
      | _ => M.no
  | .or a b => (denE d ρ a).bind fun
      | .bl true => M.pure (.bl true)
      | .bl false => denE d ρ b
      | _ => M.no
  | .ife t a b => (denT d ρ t).bind fun k => if k then denE d ρ a else denE d ρ b
  | .tup es => (denEs d ρ es).bind fun xs => if xs.length ≤ lim then M.pure (.tup xs) else M.no
  | .lst es => (denEs d ρ es).bind fun xs => if xs.length ≤ lim then M.pure (.lst xs) else M.no
  | .newref es => (denEs d ρ es).bind fun xs => if xs.length ≤ lim then newRef xs else M.no
  | .call f es => (denEs d ρ es).bind fun xs => d.F f xs
  | .blt b es => (denOs d ρ es).bind fun xs => M.ofO (blt d.sub b xs)
  | .mth m o es => (denE d ρ o).bind fun x => if mthOk m x then (denOs d ρ es).bind fun xs => M.ofO (mth m x xs) else M.no
  | .ix a i => (denO d ρ a).bind fun x => (denE d ρ i).bind fun y => index x y
  | .rev a => (denO d ρ a).bind fun x => M.ofO (revP x)
  | .x o es => (denOs d ρ es).bind fun xs => M.ofO (xop o xs)
  | .xm o a es => (denO d ρ a).bind fun x => if xmOk o x then (denOs d ρ es).bind fun xs => M.ofO (xop o (x :: xs)) else M.no
  | .callv a es => (denE d ρ a).bind fun
      | .fn f => (denEs d ρ es).bind fun xs => d.F f xs
      | _ => M.no
  | .newd t => M.pure (.dct t [] [])
  | .slc a lo hi => (denO d ρ a).bind fun x => (denCO d ρ lo).bind fun l => (denCO d ρ hi).bind fun h => M.ofO (slice x l h)
  | .lc own tg it q e => if own.any (isOwn ρ) then M.no else (denI d ρ it).bind fun xs => ((compL (fun x => (M.ofO (store (wipes ρ own) tg x)).bind fun ρ' =>
      (denQ d ρ' q).bind fun k => if k then (denE d ρ' e).bind fun y => M.pure (some y) else M.pure none) xs).calm).bind fun l => M.pure (.lst l)
  | .told e => d.FC (denE { d with F := d.F2 } (unown ρ) e)
/-- an operand that is looked at -/
def denO (d : Dn) (ρ : Env) : CP → M P
  | .look i => M.ofO (getT ρ i)
  | .e e => denE d ρ e
def denCO (d : Dn) (ρ : Env) : CO → M (Option Int)
  | .non => M.pure none
  | .som e => (denE d ρ e).bind fun
      | .int i => M.pure (some i)
      | _ => M.no
def denEs (d : Dn) (ρ : Env) : CEs → M (List P)
  | .nil => M.pure []
  | .cons e es => (denE d ρ e).bind fun x => (denEs d ρ es).bind fun xs => M.pure (x :: xs)
def denOs (d : Dn) (ρ : Env) : CPs → M (List P)
  | .nil => M.pure []
  | .cons e es => (denO d ρ e).bind fun x => (denOs d ρ es).bind fun xs => M.pure (x :: xs)
def denI (d : Dn) (ρ : Env) : CI → M (List P)
  | .seq e => (denO d ρ e).bind fun x => M.ofO (items x)
  | .rng1 a => (denE d ρ a).bind fun x => M.ofO (rng1 x)
  | .rng2 a b => (denE d ρ a).bind fun x => (denE d ρ b).bind fun y => M.ofO (rng2 x y)
  | .zip a b => (denE d ρ a).bind fun x => (denE d ρ b).bind fun y => M.ofO (zipP x y)
  | .x o es => (denOs d ρ es).bind fun xs => M.ofO (xi o xs)
def denQ (d : Dn) (ρ : Env) : CQ → M Bool
  | .yes => M.pure true
  | .one t => denT d ρ t
def denT (d : Dn) (ρ : Env) : CT → M Bool
  | .val e => (denO d ρ e).bind fun x => M.ofO (truth x)
  | .not a => (denT d ρ a).bind fun k => M.pure !k
  | .and a b => (denT d ρ a).bind fun k => if k then denT d ρ b else M.pure false
  | .or a b => (denT d ρ a).bind fun k => if k then M.pure true else denT d ρ b
end
end Vi
namespace Vi
open PySem
inductive Fl where
  | nx (ρ : Env) | rt (v : P) | bk (ρ : Env) | ct (ρ : Env)
def whileF (t : Env → M Bool) (b : Env → M Fl) : Nat → Env → M Fl
  | 0, _ => M.no
  | n + 1, ρ => (t ρ).bind fun k => if k then (b ρ).bind fun
      | .nx ρ' => whileF t b n ρ'
      | .ct ρ' => whileF t b n ρ'
      | .bk ρ' => M.pure (.nx ρ')
      | .rt v => M.pure (.rt v)
    else M.pure (.nx ρ)
def forF (b : P → Env → M Fl) : List P → Env → M Fl
  | [], ρ => M.pure (.nx ρ)
  | x :: r, ρ => (b x ρ).bind fun
      | .nx ρ' => forF b r ρ'
      | .ct ρ' => forF b r ρ'
      | .bk ρ' => M.pure (.nx ρ')
      | .rt v => M.pure (.rt v)
def turnsMax : Nat := 100000000
def isBox : P → Bool
  | .lst _ => true
  | .dct _ _ _ => true
  | _ => false
/-- the values of names that are stored at once -/
def parM (d : Dn) (ρ : Env) : List (Bool × Nat) → CEs → M (List Sl)
  | [], .nil => M.pure []
  | (k, _) :: ks, .cons e es => (denE d ρ e).bind fun v =>
      if k then (if isBox v then (parM d ρ ks es).bind fun ss => M.pure (.own v :: ss) else M.no) else (parM d ρ ks es).bind fun ss => M.pure (.val v :: ss)
  | [], .cons _ _ => M.no
  | _ :: _, .nil => M.no
def setsS (ρ : Env) : List (Bool × Nat) → List Sl → Env
  | (_, i) :: is, s :: ss => setsS (ρ.set i s) is ss
  | _, _ => ρ
def setRef (r : Nat) (i : Int) (v : P) : M Unit := fun S => match S[r]? with
  | some (.cell xs) => match ixN xs.length i with
    | some j => .ok () (S.set r (.cell (xs.set j v)))
    | none => .no
  | none => .no
def denS (d : Dn) : CS → Env → M Fl
  | .set i e, ρ => (denE d ρ e).bind fun v => M.pure (.nx (put ρ i v))
  | .own i e, ρ => (denE d ρ e).bind fun v => if isBox v then M.pure (.nx (ρ.set i (.own v))) else M.no
  | .frz i, ρ => match ρ[i]? with
    | some (.own (.lst v)) => M.pure (.nx (put ρ i (.lst v)))
    | some (.own _) => M.no
    | _ => M.pure (.nx ρ)
  | .frzd i, ρ => match ρ[i]? with
    | some (.own (.dct t ks vs)) => M.pure (.nx (put ρ i (.dct t ks vs)))
    | some (.own _) => M.no
    | _ => M.pure (.nx ρ)
  | .dput i k e, ρ => match ρ[i]? with
    | some (.own (.dct t ks vs)) => (denE d ρ e).bind fun v => (denE d ρ k).bind fun k => if dkey t k && decide (ks.length < lim) then M.pure (.nx (ρ.set i (.own (.dct t (dputK k ks) (dputV k v ks vs))))) else M.no
    | _ => M.no
  | .ext i e, ρ => match ρ[i]? with
    | some (.own (.lst xs)) => (denO d ρ e).bind fun v => match v with
      | .lst ys => if xs.length + ys.length ≤ lim then M.pure (.nx (ρ.set i (.own (.lst (xs ++ ys))))) else M.no
      | _ => M.no
    | _ => M.no
  | .pars ks es, ρ => (parM d ρ ks es).bind fun ss => M.pure (.nx (setsS ρ ks ss))
  | .par is es, ρ => (denEs d ρ es).bind fun vs => (M.ofO (puts ρ is vs)).bind fun ρ' => M.pure (.nx ρ')
  | .par2 i a k j b, ρ => (denE d ρ a).bind fun v => if isBox v then (denE d ρ b).bind fun w => (if k then (if isBox w then M.pure (.nx ((ρ.set i (.own v)).set j (.own w))) else M.no) else M.pure (.nx (put (ρ.set i (.own v)) j w))) else M.no
  | .unp is e, ρ => (denE d ρ e).bind fun
    | .tup vs => (M.ofO (puts ρ is vs)).bind fun ρ' => M.pure (.nx ρ')
    | _ => M.no
  | .app i e, ρ => match ρ[i]? with
    | some (.own (.lst xs)) => (denE d ρ e).bind fun v => if xs.length < lim then M.pure (.nx (ρ.set i (.own (.lst (xs ++ [v]))))) else M.no
    | _ => M.no
  | .seti i k e, ρ => match ρ[i]? with
    | some (.own (.lst xs)) => (denE d ρ e).bind fun v => (denE d ρ k).bind fun j => match j with
      | .int j => match ixN xs.length j with
        | some n => M.pure (.nx (ρ.set i (.own (.lst (xs.set n v)))))
        | none => M.no
      | _ => M.no
    | _ => M.no
  | .rseti i k e, ρ => match get ρ i with
    | some (.ref r) => (denE d ρ e).bind fun v => (denE d ρ k).bind fun j => match j with
      | .int j => (setRef r j v).bind fun _ => M.pure (.nx ρ)
      | _ => M.no
    | _ => M.no
  | .drop e, ρ => (denE d ρ e).bind fun _ => M.pure (.nx ρ)
  | .ife t a b, ρ => (denT d ρ t).bind fun k => if k then denS d a ρ else denS d b ρ
  | .forr tg it body, ρ => (denI d ρ it).bind fun xs => forF (fun x ρ => (M.ofO (store ρ tg x)).bind fun ρ' => denS d body ρ') xs ρ
  | .whil t body, ρ => whileF (fun ρ => denT d ρ t) (fun ρ => denS d body ρ) turnsMax ρ
  | .ret e, ρ => (denE d ρ e).bind fun v => M.pure (.rt v)
  | .rais c, _ => fun S => .err ⟨c, .non⟩ S
  | .raisv c e, ρ => (denE d ρ e).bind fun v => fun S => .err ⟨c, v⟩ S
  | .brk, ρ => M.pure (.bk ρ)
  | .cnt, ρ => M.pure (.ct ρ)
  | .pas, ρ => M.pure (.nx ρ)
  | .aug i o e, ρ => match get ρ i with
    | some x => (denE d ρ e).bind fun y => (M.ofO (bop o x y)).bind fun z => M.pure (.nx (put ρ i z))
    | none => M.no
  | .seq a b, ρ => (denS d a ρ).bind fun
    | .nx ρ' => denS d b ρ'
    | .rt v => M.pure (.rt v)
    | .bk ρ' => M.pure (.bk ρ')
    | .ct ρ' => M.pure (.ct ρ')

/-! ### functions -/
structure Body where
  np : Nat
  n : Nat
  s : CS
def runB (d : Dn) (b : Body) (vs : List P) : M P :=
  if vs.length = b.np then (denS d b.s (vs.map .val ++ List.replicate (b.n - vs.length) .un)).bind fun
    | .rt v => M.pure v
    | .nx _ => M.pure .non
    | _ => M.no
  else M.no
/-- a program: its defs, its classes, what the def that tries makes of an exception -/
structure Pg where
  body : Nat → Option Body
  sub : Nat → Nat → Bool
  base : Nat
  hd : Nat → P → Option Str
  dflt : Str
/-- the def that tries, with what it is handed -/
def runC (p : Pg) (m : M P) : M P := fun S => match m S with
  | .ok _ S' => .ok (.str p.dflt) S'
  | .err e S' => if p.sub e.c p.base then (match p.hd e.c e.a with
    | some s => .ok (.str s) S'
    | none => .no) else .no
  | .no => .no
/-- what a body at the level n + 1 leans on, by the levels' answers -/
def dnB (p : Pg) (r : Nat → Nat → List P → M P) : Nat → Dn
  | 0 => ⟨r 0, fun _ _ => M.no, fun _ => M.no, p.sub⟩
  | 1 => ⟨r 1, fun _ _ => M.no, fun _ => M.no, p.sub⟩
  | n + 2 => ⟨r (n + 2), r n, runC p, p.sub⟩
/-- the levels below n -/
def runs (p : Pg) : Nat → Nat → Nat → List P → M P
  | 0, _, _, _ => M.no
  | n + 1, m, f, vs => if m ≤ n then runs p n m f vs else match p.body f with
    | some b => runB (dnB p (runs p n) n) b vs
    | none => M.no
def run (p : Pg) (n : Nat) : Nat → List P → M P := runs p n n
end Vi
/-! Dicts whose keys are tuples of ints and texts, each key by its own tuple (of the written part, too). -/
namespace ViDx
open PySem PySem.Spec PyProof.Rows L2
abbrev KX := List (List Key × Addr × V)
abbrev PX : KX → List (List Key × Addr × Value) → Prop := Paired fun p q => p.1 = q.1 ∧ p.2.1 = q.2.1 ∧ RelV p.2.2 q.2.2
def DXo (P : Program) (w : World) (a : Addr) (kvs : KX) (h : Heap) : Prop := (a == sysModules) = false ∧ kvs.length ≤ sizeLine ∧ ∃ xs, PX kvs xs ∧ ∃ o es ep, h.get? a = some o ∧ o.ExactDict ∧ o.data = .dict es ep ∧ es.toList = xs.map (entryOfKey (tupleKind (mixKind P w))) ∧ (xs.map (·.1)).Nodup
def DX (P : Program) (w : World) (a : Addr) (kvs : KX) : HO := .ext (DXo P w a kvs)
theorem dx_ok {P : Program} {w : World} {H : Hp} {h : Heap} {a : Addr} {kvs : KX} (x : DXo P w a kvs h) : ObjOk P w H h a (DX P w a kvs) := by
  refine ⟨x, ?_, fun h1 h2 y k => ?_⟩
  · obtain ⟨_, _, _, _, o, _, _, e, _⟩ := x
    exact ⟨o, e⟩
  · obtain ⟨z, l, xs, r, o, es, ep, e, c⟩ := y
    exact ⟨z, l, xs, r, o, es, ep, k o e, c⟩
def valX (kvs : KX) (k : List Key) : Option V := (kvs.find? fun e => decide (e.1 = k)).map (·.2.2)
def putX (kvs : KX) (k : List Key) (b : Addr) (v : V) : KX := if (kvs.any fun e => decide (e.1 = k)) = true then kvs.map (fun e => if e.1 = k then (e.1, e.2.1, v) else e) else kvs ++ [(k, b, v)]
theorem valX_pos {p : List Key × Addr × V} {r : KX} {k : List Key} (e : p.1 = k) : valX (p :: r) k = some p.2.2 := by
  simp [valX, List.find?_cons, e]
theorem valX_neg {p : List Key × Addr × V} {r : KX} {k : List Key} (e : ¬ p.1 = k) : valX (p :: r) k = valX r k := by
  simp [valX, List.find?_cons, e]
theorem valX_any (k : List Key) : ∀ kvs : KX, (kvs.any fun kv => decide (kv.1 = k)) = (valX kvs k).isSome
  | [] => rfl
  | p :: r => by
    rw [List.any_cons]
    by_cases e : p.1 = k
    · simp only [valX_pos e, decide_eq_true e, Bool.true_or, Option.isSome_some]
    · rw [valX_neg e, decide_eq_false e, Bool.false_or]; exact valX_any k r
theorem PX.val {kvs : KX} {xs : List (List Key × Addr × Value)} (r : PX kvs xs) (k : List Key) : RelO (valX kvs k) ((atKey xs k).map (·.2)) := by
  induction r with
  | nil => exact True.intro
  | @cons p q ps qs h t ih =>
    obtain ⟨h1, _, h2⟩ := h
    by_cases e : p.1 = k
    · have e' : q.1 = k := h1.symm.trans e
      have b : atKey (q :: qs) k = some q.2 := by simp [atKey, List.find?_cons, e']
      rw [valX_pos e, b]; exact h2
    · have e' : ¬ q.1 = k := fun z => e (h1.trans z)
      have b : atKey (q :: qs) k = atKey qs k := by simp [atKey, List.find?_cons, e']
      rw [valX_neg e, b]; exact ih
theorem PX.repl {kvs : KX} {xs : List (List Key × Addr × Value)} (r : PX kvs xs) (k : List Key) {y : V} {u : Value} (ry : RelV y u) :
    PX (kvs.map fun kv => if kv.1 = k then (kv.1, kv.2.1, y) else kv) (xs.map (putAt k u)) := by
  induction r with
  | nil => exact .nil
  | @cons p q ps qs h t ih =>
    rw [List.map_cons, List.map_cons]
    refine .cons ?_ ih
    obtain ⟨h1, h2, h3⟩ := h
    unfold putAt
    by_cases e : p.1 = k
    · rw [if_pos e, if_pos (h1.symm.trans e)]; exact ⟨h1, h2, ry⟩
    · rw [if_neg e, if_neg (fun z => e (h1.trans z))]; exact ⟨h1, h2, h3⟩
theorem PX.put {kvs : KX} {xs : List (List Key × Addr × Value)} (r : PX kvs xs) (k : List Key) {b : Addr} {y : V} {u : Value} (ry : RelV y u) :
    PX (putX kvs k b y) (storedH xs k b u) := by
  have e : (kvs.any fun kv => decide (kv.1 = k)) = (atKey xs k).isSome := by
    rw [valX_any, (r.val k).isSome_eq, Option.isSome_map]
  unfold putX storedH
  rw [e]
  by_cases q : (atKey xs k).isSome = true
  · rw [if_pos q, if_pos q]; exact r.repl k ry
  · rw [if_neg q, if_neg q]; exact Paired.snoc r ⟨rfl, rfl, ry⟩
theorem putX_len (kvs : KX) (k : List Key) (b : Addr) (v : V) : (putX kvs k b v).length ≤ kvs.length + 1 := by
  unfold putX
  split
  · rw [List.length_map]; omega
  · rw [List.length_append]; exact Nat.le_refl _
/-- each key is there -/
def Keyed (K : PySem.W.Frag) (H : Hp) (kvs : KX) : Prop := ∀ e ∈ kvs, SqT K H e.2.1 (e.1.map kV)
section
variable {X : Cx} {pins : List (Addr × Obj)} {σ : L2.St} {H : Hp} {s : Shared} {a : Addr} {kvs : KX}
theorem key_is {b : Addr} {k : List Key} (I : Inv X pins σ H s) (h : SqT X.K H b (k.map kV)) : (tupleKind (mixKind X.prog X.w)).is s.heap k b := by
  obtain ⟨its, r, ⟨o, h1, h2, n, h3⟩, _⟩ := I.tuple h
  exact ⟨o, its.toArray, n, h1, h2, h3, by simpa using items_are r⟩
theorem dx_at (I : Inv X pins σ H s) (e : Rd H a (DX X.prog X.w a kvs)) : DXo X.prog X.w a kvs s.heap := (e.ok I.hok).1
theorem dx_rd (I : Inv X pins σ H s) (e : Rd H a (DX X.prog X.w a kvs)) (hk : Keyed X.K H kvs) : kvs.length ≤ sizeLine ∧ (a == sysModules) = false ∧ ∃ xs, PX kvs xs ∧ s.heap.DictOfH (tupleKind (mixKind X.prog X.w)) a xs := by
  obtain ⟨z, l, xs, r, o, es, ep, h1, h2, h3, h4, h5⟩ := dx_at I e
  refine ⟨l, z, xs, r, o, es, ep, h1, h2, h3, h4, fun x hx => ?_, h5⟩
  have all : ∀ {l : KX} {m : List (List Key × Addr × Value)}, PX l m → (∀ e ∈ l, SqT X.K H e.2.1 (e.1.map kV)) → ∀ x ∈ m, (tupleKind (mixKind X.prog X.w)).is s.heap x.1 x.2.1 := by
    intro l m q
    induction q with
    | nil => exact fun _ x hx => absurd hx (by simp)
    | @cons p q ps qs h t ih =>
      intro hl x hx
      rcases List.mem_cons.mp hx with e | hx
      · rw [e, ← h.1, ← h.2.1]
        exact key_is I (hl p (by simp))
      · exact ih (fun e he => hl e (by simp [he])) x hx
  exact all r hk x hx
end
/-- what is read at a key -/
inductive DV (P : Program) (w : World) (K : PySem.W.Frag) (H : Hp) (a : Addr) (y : V) : Option V → Prop
  | k {kvs : List (Key × V)} {k : Key} : Rd H a (.dK kvs) → y = kV k → DV P w K H a y (valV kvs k)
  | x {kvs : KX} {k : List Key} {b : Addr} : Rd H a (DX P w a kvs) → Keyed K H kvs → y = .ref b → SqT K H b (k.map kV) → DV P w K H a y (valX kvs k)
/-- what is stored there -/
inductive DP (P : Program) (w : World) (K : PySem.W.Frag) (H : Hp) (a : Addr) (y v : V) : Hp → Prop
  | k {kvs : List (Key × V)} {k : Key} : H a = some (.dK kvs) → y = kV k → kvs.length < sizeLine → DP P w K H a y v (upd H a (.dK (putK kvs k v)))
  | x {kvs : KX} {k : List Key} {b : Addr} : H a = some (DX P w a kvs) → Keyed K H kvs → y = .ref b → SqT K H b (k.map kV) → kvs.length < sizeLine → DP P w K H a y v (upd H a (DX P w a (putX kvs k b v)))
/-- it is a dict -/
def IsDD (P : Program) (w : World) (H : Hp) (a : Addr) : Prop := (∃ kvs, Rd H a (.dK kvs)) ∨ ∃ kvs, Rd H a (DX P w a kvs)
section
variable {X : Cx} {pins : List (Addr × Obj)} {σ : L2.St} {H : Hp} {s : Shared} {a : Addr} {y v d : V} {u r : Value} {o : Option V} {A : Around} {E : Value → Shared → Prop}
theorem getItem_ {Q : Value → Shared → Prop} (hu : A.units + 1 < cLine) (I : Inv X pins σ H s) (g : DV X.prog X.w X.K H a y o) (eo : o = some v) (ry : RelV y u) (h : ∀ w' s', Inv X pins σ H s' → RelV v w' → Q w' s') :
    wpAny (model X.prog X.w) A (getItem (.ref a) u) Q E s := by
  cases g with
  | k e ey => exact d_getItem hu I (.inl ⟨_, _, e, ey, eo.symm⟩) ry h
  | @x kvs k b e hk ey eb =>
    subst ey
    cases (show u = Value.ref b from ry)
    obtain ⟨z, hd, xs, rel, dd⟩ := dx_rd I e hk
    obtain ⟨w', hw, rw'⟩ := RelO.some_of (v := v) (o := (atKey xs k).map (·.2)) (by rw [← eo]; exact rel.val k)
    obtain ⟨p, hp, hp2⟩ := Option.map_eq_some_iff.mp hw
    refine wpAny_getItem_heap (tupleKind_room_in1 hu) (key_is I eb) dd hp ?_
    rw [hp2]
    exact h w' _ (I.tok _) rw'
theorem in_ {Q : Value → Shared → Prop} (hu : A.units + 1 < cLine) (I : Inv X pins σ H s) (g : DV X.prog X.w X.K H a y o) (ry : RelV y u) (h : ∀ s', Inv X pins σ H s' → Q (.bool o.isSome) s') :
    wpAny (model X.prog X.w) A (compareOp .In u (.ref a)) Q E s := by
  cases g with
  | k e ey => exact d_in hu I (.inl ⟨_, _, e, ey, rfl⟩) ry h
  | @x kvs k b e hk ey eb =>
    subst ey
    cases (show u = Value.ref b from ry)
    obtain ⟨z, hd, xs, rel, dd⟩ := dx_rd I e hk
    refine wpAny_in_heap (tupleKind_room_in1 hu) (key_is I eb) hd dd ?_
    have q := (rel.val k).isSome_eq
    rw [Option.isSome_map] at q
    rw [← q]
    exact h _ (I.tok _)
theorem notIn_ {Q : Value → Shared → Prop} (hu : A.units + 1 < cLine) (I : Inv X pins σ H s) (g : DV X.prog X.w X.K H a y o) (ry : RelV y u) (h : ∀ s', Inv X pins σ H s' → Q (.bool (!o.isSome)) s') :
    wpAny (model X.prog X.w) A (compareOp .NotIn u (.ref a)) Q E s := by
  cases g with
  | k e ey => exact d_notIn hu I (.inl ⟨_, _, e, ey, rfl⟩) ry h
  | @x kvs k b e hk ey eb =>
    subst ey
    cases (show u = Value.ref b from ry)
    obtain ⟨z, hd, xs, rel, dd⟩ := dx_rd I e hk
    refine wpAny_notIn_heap (tupleKind_room_in1 hu) (key_is I eb) hd dd ?_
    have q := (rel.val k).isSome_eq
    rw [Option.isSome_map] at q
    rw [← q]
    exact h _ (I.tok _)
theorem setItem_ {H' : Hp} {Q : Unit → Shared → Prop} (hu : A.units + 1 < cLine) (I : Inv X pins σ H s) (g : DP X.prog X.w X.K H a y v H') (ry : RelV y u) (rv : RelV v r) (h : ∀ s', Inv X pins σ H' s' → Q () s') :
    wpAny (model X.prog X.w) A (setItem (.ref a) u r) Q E s := by
  cases g with
  | k e ey l => exact d_setItem hu I (.inl ⟨_, _, e, ey, l, rfl⟩) ry rv h
  | @x kvs k b e hk ey eb l =>
    subst ey
    cases (show u = Value.ref b from ry)
    obtain ⟨z, hd, xs, rel, dd⟩ := dx_rd I (.inl e) hk
    have hz : xs.length ≤ sizeLine := by rw [← Paired.length rel]; exact z
    have hl : (putX kvs k b v).length ≤ sizeLine := by have := putX_len kvs k b v; omega
    refine wpAny_setItem_heap (hsz := hz) (tupleKind_room_in1 hu) (key_is I eb) dd fun h' dd' hs => h _ ?_
    obtain ⟨q, es, ep, hq, h2, h3, h4, _, h5⟩ := dd'
    exact d_write I (by rw [e]; exact True.intro) hs ⟨q, hq⟩ (dx_ok ⟨hd, hl, _, rel.put k rv, q, es, ep, hq, h2, h3, h4, h5⟩)
theorem get1_ {Q : Value → Shared → Prop} (hu : A.units + 1 < cLine) (I : Inv X pins σ H s) (g : DV X.prog X.w X.K H a y o) (ry : RelV y u) (h : ∀ w' s', Inv X pins σ H s' → RelV (o.getD .non) w' → Q w' s') :
    wpAny (model X.prog X.w) A (call (.builtin "dict.get") [.ref a, u]) Q E s := by
  cases g with
  | k e ey => exact d_get1 hu I (.inl ⟨_, _, e, ey, rfl⟩) ry h
  | @x kvs k b e hk ey eb =>
    subst ey
    cases (show u = Value.ref b from ry)
    obtain ⟨z, hd, xs, rel, dd⟩ := dx_rd I e hk
    exact call_meetsIn PySem.F.slot_dict_get dd.typeIs PySem.F.entry_dict_get (PySem.F.args_dict_get_2 _ _) (meetsH_dict_get (tupleKind (mixKind X.prog X.w)) a b hd) ⟨tupleKind_room_in1 hu, k, xs, key_is I eb, dd, h _ _ (I.tok _) ((rel.val k).getD rfl)⟩
theorem get2_ {Q : Value → Shared → Prop} (hu : A.units + 1 < cLine) (I : Inv X pins σ H s) (g : DV X.prog X.w X.K H a y o) (ry : RelV y u) (rd : RelV d r) (h : ∀ w' s', Inv X pins σ H s' → RelV (o.getD d) w' → Q w' s') :
    wpAny (model X.prog X.w) A (call (.builtin "dict.get") [.ref a, u, r]) Q E s := by
  cases g with
  | k e ey => exact d_get2 hu I (.inl ⟨_, _, e, ey, rfl⟩) ry rd h
  | @x kvs k b e hk ey eb =>
    subst ey
    cases (show u = Value.ref b from ry)
    obtain ⟨z, hd, xs, rel, dd⟩ := dx_rd I e hk
    exact call_meetsIn PySem.F.slot_dict_get dd.typeIs PySem.F.entry_dict_get (PySem.F.args_dict_get_3 _ _ _) (meetsH_dict_get_default (tupleKind (mixKind X.prog X.w)) a b hd r) ⟨tupleKind_room_in1 hu, k, xs, key_is I eb, dd, h _ _ (I.tok _) ((rel.val k).getD rd)⟩
theorem isDD_at (I : Inv X pins σ H s) (d : IsDD X.prog X.w H a) : s.TypeIs (.ref a) "dict" ∧ (∀ b, Value.ref a = .ref b → ∃ ob, s.heap.get? b = some ob ∧ ob.dict = none) ∧ (a == sysModules) = false := by
  rcases d with ⟨kvs, e⟩ | ⟨kvs, e⟩
  · exact isD_at I (.inl ⟨kvs, e⟩)
  · obtain ⟨z, l, xs, r, o, es, ep, h1, h2, h3, h4, h5⟩ := dx_at I e
    exact ⟨⟨o, h1, h2.1⟩, fun b q => by cases q; exact ⟨o, h1, h2.2.1⟩, z⟩
theorem DV.isDD (g : DV X.prog X.w X.K H a y o) : IsDD X.prog X.w H a := by
  cases g with
  | k e _ => exact .inl ⟨_, e⟩
  | x e _ _ _ => exact .inr ⟨_, e⟩
end
/-! ### the rules -/
section
variable (P : Program) (w : World) (K : PySem.W.Frag)
def tDGet (td ty : TE) : TE := fun σ H Q => td σ H fun x H1 => ty σ H1 fun y H2 => ∃ a v, x = .ref a ∧ DV P w K H2 a y (some v) ∧ Q v H2
def tDIn (ty td : TE) : TE := fun σ H Q => ty σ H fun y H1 => td σ H1 fun x H2 => ∃ a o, x = .ref a ∧ DV P w K H2 a y o ∧ Q (.bl o.isSome) H2
def tDNotIn (ty td : TE) : TE := fun σ H Q => ty σ H fun y H1 => td σ H1 fun x H2 => ∃ a o, x = .ref a ∧ DV P w K H2 a y o ∧ Q (.bl (!o.isSome)) H2
def sDPut (td ty tv : TE) : TS := fun D σ H => tv σ H fun v H1 => td σ H1 fun x H2 => ty σ H2 fun y H3 => ∃ a H4, x = .ref a ∧ DP P w K H3 a y v H4 ∧ D.nx σ H4
def tDGet1 (td ty : TE) : TE := fun σ H Q => td σ H fun x H1 => ∃ a, x = .ref a ∧ IsDD P w H1 a ∧ ty σ H1 fun y H2 => ∃ o, DV P w K H2 a y o ∧ Q (o.getD .non) H2
def tDGet2 (td ty tx : TE) : TE := fun σ H Q => td σ H fun x H1 => ∃ a, x = .ref a ∧ IsDD P w H1 a ∧ ty σ H1 fun y H2 => tx σ H2 fun z H3 => ∃ o, DV P w K H3 a y o ∧ Q (o.getD z) H3
end
section
variable {X : Cx} {o i e f value : Expr} {pos pos' tpos apos cpos : Pos} {td ty tv tx : TE}
theorem pe_dget (hu : X.A.units + 1 < cLine) (ho : PE X o td) (hi : PE X i ty) (hs : NoSl i) : PE X (.Subscript o i pos) (tDGet X.prog X.w X.K td ty) := by
  refine ⟨fun pins s σ H Q I h => ?_⟩
  refine subD_of PySem.F.slot_dict_getitem.lookup hs (thn (ho.run pins s σ H _ I h) fun u s1 ⟨x, H1, I1, rx, q1⟩ => thn (hi.run pins s1 σ H1 _ I1 q1) fun iv s2 ⟨y, H2, I2, ry, a, v, ex, g, q2⟩ => ?_)
  subst ex
  obtain rfl : u = Value.ref a := rx
  exact ⟨(isDD_at I2 g.isDD).1, getItem_ hu I2 g rfl ry fun w' s3 I3 rw' => ⟨v, H2, I3, rw', q2⟩⟩
theorem pc_din (hu : X.A.units + 1 < cLine) (hi : PE X i ty) (ho : PE X o td) : PC X .In i o (tDIn X.prog X.w X.K ty td) := by
  refine ⟨fun pins s σ H Q I h => ?_⟩
  refine thn (hi.run pins s σ H _ I h) fun iv s1 ⟨y, H1, I1, ry, q1⟩ => thn (ho.run pins s1 σ H1 _ I1 q1) fun u s2 ⟨x, H2, I2, rx, a, ov, ex, g, q2⟩ => ?_
  subst ex
  obtain rfl : u = Value.ref a := rx
  exact in_ hu I2 g ry fun s3 I3 => ⟨.bl ov.isSome, H2, I3, rfl, q2⟩
theorem pc_dnotin (hu : X.A.units + 1 < cLine) (hi : PE X i ty) (ho : PE X o td) : PC X .NotIn i o (tDNotIn X.prog X.w X.K ty td) := by
  refine ⟨fun pins s σ H Q I h => ?_⟩
  refine thn (hi.run pins s σ H _ I h) fun iv s1 ⟨y, H1, I1, ry, q1⟩ => thn (ho.run pins s1 σ H1 _ I1 q1) fun u s2 ⟨x, H2, I2, rx, a, ov, ex, g, q2⟩ => ?_
  subst ex
  obtain rfl : u = Value.ref a := rx
  exact notIn_ hu I2 g ry fun s3 I3 => ⟨.bl (!ov.isSome), H2, I3, rfl, q2⟩
theorem ps_dput (hu : X.A.units + 1 < cLine) (ho : PE X o td) (hi : PE X i ty) (hv : PE X value tv) (hs : swapsWith value (some (.Subscript o i pos')) pos.line X.env = pure false) :
    PS X (.Assign [.Subscript o i pos'] value pos) (sDPut X.prog X.w X.K td ty tv) := by
  refine ⟨fun pins s σ H D I h => ?_⟩
  refine wpAny_Assign_Subscript (thn (hv.run pins s σ H _ I h) fun r s1 ⟨v, H1, I1, rv, q1⟩ => thn (ho.run pins s1 σ H1 _ I1 q1) fun u s2 ⟨x, H2, I2, rx, q2⟩ => thn (hi.run pins s2 σ H2 _ I2 q2) fun iv s3 ⟨y, H3, I3, ry, a, H4, ex, g, q3⟩ => ?_) hs
  subst ex
  obtain rfl : u = Value.ref a := rx
  exact setItem_ hu I3 g ry rv fun s4 I4 => ⟨σ, H4, I4, q3⟩
theorem pe_dget1 (hu : X.A.units + 1 < cLine) (ho : PE X o td) (he : PE X e ty) (m : M1 X o "get" apos e cpos) : PE X (.Call (.Attribute o "get" apos) [e] [] cpos) (tDGet1 X.prog X.w X.K td ty) := by
  refine ⟨fun pins s σ H Q I h => ?_⟩
  refine wpAny_Call_method m.base m.few m.line PySem.F.plainAttrs_dict PySem.F.slot_dict_get PySem.F.type_dict_get (thn (ho.run pins s σ H _ I h) fun u s1 ⟨x, H1, I1, rx, a, ex, d, q1⟩ => ?_)
  subst ex
  obtain rfl : u = Value.ref a := rx
  obtain ⟨t1, t2, _⟩ := isDD_at I1 d
  refine ⟨t1, t2, ?_⟩
  rw [m.trees]
  refine Calls.callWith_builtin rfl (Calls.evalArgs_plain (Calls.spliced_cons (thn (he.run pins s1 σ H1 _ I1 q1) fun iv s2 ⟨y, H2, I2, ry, ov, g, q2⟩ => Calls.spliced_nil ?_)))
  exact get1_ hu I2 g ry fun w' s3 I3 rw' => ⟨_, H2, I3, rw', q2⟩
theorem pe_dget2 (hu : X.A.units + 1 < cLine) (ho : PE X o td) (he : PE X e ty) (hf : PE X f tx) (m : M2 X o "get" apos e f cpos) : PE X (.Call (.Attribute o "get" apos) [e, f] [] cpos) (tDGet2 X.prog X.w X.K td ty tx) := by
  refine ⟨fun pins s σ H Q I h => ?_⟩
  refine wpAny_Call_method m.base m.few m.line PySem.F.plainAttrs_dict PySem.F.slot_dict_get PySem.F.type_dict_get (thn (ho.run pins s σ H _ I h) fun u s1 ⟨x, H1, I1, rx, a, ex, d, q1⟩ => ?_)
  subst ex
  obtain rfl : u = Value.ref a := rx
  obtain ⟨t1, t2, _⟩ := isDD_at I1 d
  refine ⟨t1, t2, ?_⟩
  rw [m.trees]
  refine Calls.callWith_builtin rfl (Calls.evalArgs_plain (Calls.spliced_cons (thn (he.run pins s1 σ H1 _ I1 q1) fun iv s2 ⟨y, H2, I2, ry, q2⟩ =>
    Calls.spliced_cons (thn (hf.run pins s2 σ H2 _ I2 q2) fun fv s3 ⟨z, H3, I3, rz, ov, g, q3⟩ => Calls.spliced_nil ?_))))
  exact get2_ hu I3 g ry rz fun w' s4 I4 rw' => ⟨_, H3, I4, rw', q3⟩
def tDNewX (P : Program) (w : World) : TE := fun _ H Q => ∀ p, H p = none → Q (.ref p) (upd H p (DX P w p []))
theorem dx_empty {P : Program} {w : World} {H : Hp} (h : Heap) (hb : sysModules < h.objs.size) : ObjOk P w H (h.push { cls := .type "dict", data := .dict #[] }) h.objs.size (DX P w h.objs.size []) :=
  dx_ok ⟨beq_eq_false_iff_ne.mpr (Ne.symm (Nat.ne_of_lt hb)), Nat.zero_le _, [], .nil, _, #[], 0, Heap.get?_push_size _ rfl, ⟨rfl, rfl, rfl⟩, rfl, rfl, List.nodup_nil⟩
end
/-! ### walked -/
def Itx (d : Addr) (o : Obj) (P : Program) (w : World) (kvs : KX) : It :=
  ⟨fun i H => H d = some (.frz o (DX P w d kvs)) ∧ i < kvs.length, fun i H x H' => H' = H ∧ ∃ (k : List Key) (q : Addr) (v : V), kvs[i]? = some (k, q, v) ∧ x = .ref q, fun i H => H d = some (.frz o (DX P w d kvs)) ∧ kvs.length ≤ i⟩
theorem frzX {X : Cx} {pins : List (Addr × Obj)} {σ : L2.St} {H : Hp} {s : Shared} {d : Addr} {o : Obj} {kvs : KX} (I : Inv X pins σ H s) (h : H d = some (.frz o (DX X.prog X.w d kvs))) :
    (d == sysModules) = false ∧ s.heap.get? d = some o ∧ o.ExactDict ∧ ∃ (es : Array DictEntry) (ep : Nat), o.data = .dict es ep ∧ es.size = kvs.length ∧
      ∀ (i : Nat) (k : List Key) (q : Addr) (v : V), kvs[i]? = some (k, q, v) → ∃ en : DictEntry, es[i]? = some en ∧ en.key = .ref q := by
  obtain ⟨hd, ⟨hs, _, xs, pr, o', es, ep, ho, hx, hdt, he, _⟩, _⟩ := I.hok d _ h
  rw [hd] at ho
  cases ho
  refine ⟨hs, hd, hx, es, ep, hdt, ?_, fun i k q v e => ?_⟩
  · have l1 : es.size = xs.length := size_of_entries he
    have l2 : kvs.length = xs.length := Paired.length pr
    omega
  · obtain ⟨b, hb, e1, e2, _⟩ := L2.paired_get pr e
    have z := entry_at he i
    rw [hb] at z
    exact ⟨_, z, by show Value.ref b.2.1 = _; rw [← e2]⟩
theorem turn_keysX {P : Program} {w : World} {K : PySem.W.Frag} {tg : Expr} {d : Addr} {o : Obj} {es : Array DictEntry} {ep : Nat} {kvs : KX} (it : Addr) (hod : o.data = .dict es ep) : Turn P w K tg (Itx d o P w kvs) [it] it (fun i h => h.IsKeyIter it d i kvs.length ep) where
  mem := by simp
  obj := fun i h st b hb => by
    have e : b = it := by simpa using hb
    subst e
    obtain ⟨oi, e, c, dd⟩ := st
    exact ⟨oi, e, fun v z => by rw [dd] at z; cases z⟩
  keep := fun i h h' st k => st.at fun oi e => k it (by simp) oi e
  item := by
    intro X hP hw hK hc i pins s σ H E I hf st hg
    subst hP hw hK
    obtain ⟨hd, hi⟩ := hg
    obtain ⟨f0, f1, f2, f3, f4, f5⟩ := hf it (by simp)
    obtain ⟨hs, hgd, hx, es', ep', hdt, hsz, ent⟩ := frzX I hd
    obtain ⟨rfl, rfl⟩ := dict_ep hod hdt
    obtain ⟨⟨k, q, v⟩, hkv⟩ : ∃ p, kvs[i]? = some p := ⟨kvs[i], List.getElem?_eq_getElem hi⟩
    obtain ⟨en, hen, hkey⟩ := ent i k q v hkv
    refine next_key_item st hgd hdt hsz hen fun h' st' sb => ?_
    have I1 : Inv X pins σ H { s with heap := h' } := I.turned (t' := s.toks) (fun b ob hb e => (sb.2 b hb).trans e) f0 f1 f3 f4 f5
    obtain ⟨oi, e, c, dd⟩ := id st'
    exact ⟨en.key, rfl, go_of (s := { s with heap := h' }) e c dd (by decide) ⟨.ref q, H, I1, hkey, ⟨rfl, k, q, v, hkv, rfl⟩, st', fun b hb => (hf b hb).1⟩⟩
  done := by
    intro X hP hw hK hc i pins s σ H E I hf st hg
    subst hP hw hK
    obtain ⟨hd, hi⟩ := hg
    obtain ⟨f0, f1, f2, f3, f4, f5⟩ := hf it (by simp)
    obtain ⟨hs, hgd, hx, es', ep', hdt, hsz, ent⟩ := frzX I hd
    obtain ⟨rfl, rfl⟩ := dict_ep hod hdt
    exact next_key_end (I.ok.hd hc) st hgd hdt hsz hi fun h' eb => ⟨rfl, I.turned (t' := s.toks) (fun b ob hb e => eb b ob hb e) f0 f1 f3 f4 f5⟩
  self := fun A i s Q E st h => wpAny_pyIter_keyiter st h
theorem walk_keysX {d : Addr} {o : Obj} {P : Program} {w : World} {kvs : KX} : Walk (Itx d o P w kvs) kvs.length (fun H => H d = some (.frz o (DX P w d kvs)))
    (fun i H x H' => H' = H ∧ ∃ (k : List Key) (q : Addr) (v : V), kvs[i]? = some (k, q, v) ∧ x = .ref q) :=
  ⟨fun _ _ hi q => ⟨q, hi⟩, fun _ q => ⟨q, Nat.le_refl _⟩, fun _ _ _ _ _ _ y => y⟩
def iKeys (P : Program) (w : World) (td : TE) : TI := fun σ H R => td σ H fun x H1 => ∃ d o, x = .ref d ∧ ((∃ kvs, H1 d = some (.frz o (.dK kvs)) ∧ R (Itk d o kvs) H1) ∨ ∃ kvs, H1 d = some (.frz o (DX P w d kvs)) ∧ R (Itx d o P w kvs) H1)
theorem pi_keys {X : Cx} {tg e : Expr} {td : TE} (he : PE X e td) : PI X tg e (iKeys X.prog X.w td) := by
  refine ⟨fun pins s σ H R I h => ?_⟩
  refine thn (he.run pins s σ H _ I h) fun u s1 ⟨x, H1, I1, rx, d, o, ex, q⟩ => ?_
  subst ex
  obtain rfl : u = Value.ref d := rx
  rcases q with ⟨kvs, hd, q⟩ | ⟨kvs, hd, q⟩
  · obtain ⟨hs, hgd, hx, es, ep, vs, hdt, hsz, kv, hm⟩ := I1.frzK hd
    refine iter_keys hs hgd hx hdt (pi_one (tk := s1.toks) I1 _ (turn_keys _ hdt) ⟨_, Heap.get?_push_size _ rfl, rfl, ?_⟩ q)
    rw [hsz] <;> rfl
  · obtain ⟨hs, hgd, hx, es, ep, hdt, hsz, ent⟩ := frzX I1 hd
    refine iter_keys hs hgd hx hdt (pi_one (tk := s1.toks) I1 _ (turn_keysX _ hdt) ⟨_, Heap.get?_push_size _ rfl, rfl, ?_⟩ q)
    rw [hsz] <;> rfl
end ViDx
namespace ViDx
open PySem PySem.Spec PyProof.Rows L2
theorem dx_ncode {P : Program} {w : World} {a : Addr} {kvs : KX} (c : Addr) (q : Str) : DX P w a kvs ≠ LamX.CodeO c q := fun z => by
  unfold DX LamX.CodeO at z
  injection z with z
  let ob : Obj := { cls := .none, data := .fields #[.none, .str q 0] }
  let h0 : Heap := { objs := Array.replicate (c + 1) ob }
  have at_ : ∀ b, h0.get? b = some ob ∨ h0.get? b = none := fun b => by
    by_cases hb : b < c + 1
    · left
      unfold Heap.get?
      simp [h0, hb, ob]
    · right
      unfold Heap.get?
      simp [h0, hb]
  have y : DXo P w a kvs h0 := by
    rw [z]
    refine ⟨ob, #[.none, .str q 0], 0, ?_, rfl, rfl⟩
    unfold Heap.get?
    simp [h0, ob]
  obtain ⟨_, _, xs, _, o, es, ep, e, _, e2, _⟩ := y
  rcases at_ a with k | k
  · rw [k] at e
    cases e
    cases e2
  · rw [k] at e; cases e
theorem pe_dnewX {X : Cx} {pos : Pos} : PE X (.Dict [] [] pos) (tDNewX X.prog X.w) := ⟨fun pins s σ H Q I h =>
  wpAny_Dict_empty ⟨.ref s.heap.objs.size, _, I.laid (a := s.heap.objs.size) (o := DX X.prog X.w s.heap.objs.size []) (t' := s.toks) (fun _ _ q => Heap.get?_push_of_some _ q) (Nat.le_refl _) (dx_empty s.heap I.big), rfl, h _ (I.hok.fresh (Nat.le_refl _))⟩⟩
end ViDx
/-! Vi, how pure values lie in the heap. -/
namespace Vi
open PySem PySem.Spec PyProof.Rows L2

/-- what a value's representation leans on: the written part, the defs' and the classes' addresses, the handled exception -/
structure Rc where
  K : PySem.W.Frag
  fad : Nat → Option Addr
  cad : Nat → Option Addr
  hx : Option (Addr × Nat × P)
  pr : Program
  w : World

/-- a tuple that is told, or one of the written part -/
def TpA (K : PySem.W.Frag) (D : Hp) (a : Addr) (xs : List V) : Prop :=
  D a = some (.tup xs) ∨
    ∃ (o : Obj) (its : Array Value) (n : Nat), K.lookup a = some o ∧ o.cls = .type "tuple" ∧ o.data = .seq its n ∧ its.size ≤ sizeLine ∧ Vals xs its.toList
theorem TpA.sqT {K : PySem.W.Frag} {D : Hp} {a : Addr} {xs : List V} (h : TpA K D a xs) : SqT K D a xs := h.imp .inl id
theorem TpA.of {K : PySem.W.Frag} {D : Hp} {a : Addr} {xs : List V} (h : D a = some (.tup xs)) : TpA K D a xs := .inl h
/-- a dict's key -/
def kP : Key → P
  | .inl i => .int i
  | .inr s => .str s
mutual
inductive Rp (R : Rc) (D : Hp) (ι : List Addr) : P → V → Prop
  | non : Rp R D ι .non .non
  | bl (b : Bool) : Rp R D ι (.bl b) (.bl b)
  | int (i : Int) : Rp R D ι (.int i) (.int i)
  | str (x : Str) : Rp R D ι (.str x) (.str x)
  | tup {a : Addr} {vs : List V} {xs : List P} : TpA R.K D a vs → RpL R D ι xs vs → xs.length ≤ lim → Rp R D ι (.tup xs) (.ref a)
  | lst {a : Addr} {vs : List V} {xs : List P} : Rd D a (.lst vs) → RpL R D ι xs vs → xs.length ≤ lim → Rp R D ι (.lst xs) (.ref a)
  | dctK {a : Addr} {o : Obj} {kvs : List (Key × V)} {vs : List P} : D a = some (.frz o (.dK kvs)) → RpL R D ι vs (kvs.map (·.2)) → kvs.length ≤ lim → Rp R D ι (.dct false (kvs.map fun p => kP p.1) vs) (.ref a)
  | dctT {a : Addr} {o : Obj} {kvs : ViDx.KX} {vs : List P} : D a = some (.frz o (ViDx.DX R.pr R.w a kvs)) → RpL R D ι vs (kvs.map (·.2.2)) → kvs.length ≤ lim → (∀ p ∈ kvs, TpA R.K D p.2.1 (p.1.map kV) ∧ p.1.length ≤ lim) → Rp R D ι (.dct true (kvs.map fun p => .tup (p.1.map kP)) vs) (.ref a)
  | scr {a : Addr} {vs : List V} {xs : List P} : SqL R.K D a vs → RpL R D ι xs vs → xs.length ≤ lim → Rp R D ι (.scr xs) (.ref a)
  | fn {i : Nat} {a : Addr} : R.fad i = some a → Rp R D ι (.fn i) (.ref a)
  | cls {i : Nat} {a : Addr} : R.cad i = some a → Rp R D ι (.cls i) (.ref a)
  | ref {i : Nat} {a : Addr} : ι[i]? = some a → Rp R D ι (.ref i) (.ref a)
  | exc {c : Nat} {v : P} {a : Addr} : R.hx = some (a, c, v) → Rp R D ι (.exc c v) (.ref a)
inductive RpL (R : Rc) (D : Hp) (ι : List Addr) : List P → List V → Prop
  | nil : RpL R D ι [] []
  | cons {p : P} {ps : List P} {v : V} {vs : List V} : Rp R D ι p v → RpL R D ι ps vs → RpL R D ι (p :: ps) (v :: vs)
end

/-- more is told -/
def Sub (D D' : Hp) : Prop := ∀ a o, D a = some o → D' a = some o
theorem Sub.refl (D : Hp) : Sub D D := fun _ _ h => h
theorem Sub.trans {D D1 D2 : Hp} (a : Sub D D1) (b : Sub D1 D2) : Sub D D2 := fun c o h => b c o (a c o h)
theorem Sub.rd {D D' : Hp} (h : Sub D D') {a : Addr} {u : HO} (r : Rd D a u) : Rd D' a u := by
  rcases r with r | ⟨o, r⟩
  · exact .inl (h _ _ r)
  · exact .inr ⟨o, h _ _ r⟩
theorem Sub.sqT {D D' : Hp} (h : Sub D D') {K : PySem.W.Frag} {a : Addr} {xs : List V} (r : SqT K D a xs) : SqT K D' a xs := r.imp h.rd id
theorem Sub.tpA {D D' : Hp} (h : Sub D D') {K : PySem.W.Frag} {a : Addr} {xs : List V} (r : TpA K D a xs) : TpA K D' a xs := r.imp (h a _) id
theorem Sub.sqL {D D' : Hp} (h : Sub D D') {K : PySem.W.Frag} {a : Addr} {xs : List V} (r : SqL K D a xs) : SqL K D' a xs := r.imp h.rd id
theorem Sub.up {D H : Hp} (h : Sub D H) {a : Addr} (o : HO) : Sub (L2.upd D a o) (L2.upd H a o) := fun b u e => by
  by_cases hb : b = a
  · subst hb; rw [upd_same] at e ⊢; exact e
  · rw [upd_ne hb] at e ⊢; exact h _ _ e
theorem Sub.new {D : Hp} {a : Addr} (o : HO) (h : D a = none) : Sub D (upd D a o) := fun b u e => by
  rw [upd_ne (ne_of_none e h)]; exact e
/-- more of the store -/
def Pre (ι ι' : List Addr) : Prop := ∃ l, ι' = ι ++ l
theorem Pre.refl (ι : List Addr) : Pre ι ι := ⟨[], by simp⟩
theorem Pre.trans {ι ι1 ι2 : List Addr} (a : Pre ι ι1) (b : Pre ι1 ι2) : Pre ι ι2 := by
  obtain ⟨l, rfl⟩ := a
  obtain ⟨m, rfl⟩ := b
  exact ⟨l ++ m, by simp⟩
theorem Pre.get {ι ι' : List Addr} (h : Pre ι ι') {i : Nat} {a : Addr} (e : ι[i]? = some a) : ι'[i]? = some a := by
  obtain ⟨l, rfl⟩ := h
  obtain ⟨hi, _⟩ := List.getElem?_eq_some_iff.mp e
  rw [List.getElem?_append_left hi]; exact e
theorem Pre.mem {ι ι' : List Addr} (h : Pre ι ι') {a : Addr} (e : a ∈ ι) : a ∈ ι' := by
  obtain ⟨l, rfl⟩ := h
  exact List.mem_append_left _ e

section
variable {R : Rc} {D D' H : Hp} {ι ι' : List Addr}
mutual
theorem Rp.mono (hD : Sub D D') (hι : Pre ι ι') : ∀ {p : P} {v : V}, Rp R D ι p v → Rp R D' ι' p v
  | _, _, .non => .non
  | _, _, .bl b => .bl b
  | _, _, .int i => .int i
  | _, _, .str x => .str x
  | _, _, .tup h r z => .tup (hD.tpA h) (RpL.mono hD hι r) z
  | _, _, .dctK h r z => .dctK (hD _ _ h) (RpL.mono hD hι r) z
  | _, _, .dctT h r z zk => .dctT (hD _ _ h) (RpL.mono hD hι r) z fun p hp => ⟨hD.tpA (zk p hp).1, (zk p hp).2⟩
  | _, _, .lst h r z => .lst (hD.rd h) (RpL.mono hD hι r) z
  | _, _, .scr h r z => .scr (hD.sqL h) (RpL.mono hD hι r) z
  | _, _, .fn e => .fn e
  | _, _, .cls e => .cls e
  | _, _, .ref e => .ref (hι.get e)
  | _, _, .exc e => .exc e
theorem RpL.mono (hD : Sub D D') (hι : Pre ι ι') : ∀ {p : List P} {v : List V}, RpL R D ι p v → RpL R D' ι' p v
  | _, _, .nil => .nil
  | _, _, .cons h r => .cons (Rp.mono hD hι h) (RpL.mono hD hι r)
end
theorem RpL.length : ∀ {ps : List P} {vs : List V}, RpL R D ι ps vs → vs.length = ps.length
  | _, _, .nil => rfl
  | _, _, .cons _ r => by rw [List.length_cons, List.length_cons, RpL.length r]
theorem RpL.get : ∀ {ps : List P} {vs : List V}, RpL R D ι ps vs → ∀ {i : Nat} {p : P}, ps[i]? = some p → ∃ v, vs[i]? = some v ∧ Rp R D ι p v
  | _, _, .nil, _, _, e => by simp at e
  | _, _, .cons h r, 0, p, e => by
    simp at e; subst e
    exact ⟨_, rfl, h⟩
  | _, _, .cons h r, i + 1, p, e => by
    obtain ⟨v, h1, h2⟩ := RpL.get r (i := i) (p := p) (by simpa using e)
    exact ⟨v, by simpa using h1, h2⟩
theorem RpL.app : ∀ {ps qs : List P} {vs ws : List V}, RpL R D ι ps vs → RpL R D ι qs ws → RpL R D ι (ps ++ qs) (vs ++ ws)
  | _, _, _, _, .nil, r => r
  | _, _, _, _, .cons h t, r => .cons h (RpL.app t r)
theorem RpL.take : ∀ {ps : List P} {vs : List V} (n : Nat), RpL R D ι ps vs → RpL R D ι (ps.take n) (vs.take n)
  | _, _, 0, _ => .nil
  | _, _, _ + 1, .nil => .nil
  | _, _, n + 1, .cons h r => .cons h (RpL.take n r)
theorem RpL.drop : ∀ {ps : List P} {vs : List V} (n : Nat), RpL R D ι ps vs → RpL R D ι (ps.drop n) (vs.drop n)
  | _, _, 0, r => r
  | _, _, _ + 1, .nil => .nil
  | _, _, n + 1, .cons _ r => RpL.drop n r
theorem RpL.set {p : P} {v : V} (h : Rp R D ι p v) : ∀ {ps : List P} {vs : List V} (n : Nat), RpL R D ι ps vs → RpL R D ι (ps.set n p) (vs.set n v)
  | _, _, _, .nil => .nil
  | _, _, 0, .cons _ r => .cons h r
  | _, _, n + 1, .cons q r => .cons q (RpL.set h n r)
theorem RpL.rep {ps : List P} {vs : List V} (r : RpL R D ι ps vs) : ∀ n, RpL R D ι (Vi.rep n ps) (List.replicate n vs).flatten
  | 0 => .nil
  | n + 1 => by
    show RpL R D ι (List.replicate (n + 1) ps).flatten _
    rw [List.replicate_succ, List.replicate_succ, List.flatten_cons, List.flatten_cons]
    exact r.app (RpL.rep r n)
theorem RpL.ints : ∀ {ps : List P} {vs : List V}, RpL R D ι ps vs → ∀ {l : List Int}, asInts ps = some l → vs = l.map V.int
  | _, _, .nil, l, e => by
    simp only [asInts, Option.some.injEq] at e; subst e; rfl
  | p :: ps, _, .cons h r, l, e => by
    cases p with
    | int i =>
      simp only [asInts] at e
      cases q : asInts ps with
      | none => rw [q] at e; cases e
      | some m =>
        rw [q] at e; cases e
        cases h
        rw [RpL.ints r q]; rfl
    | _ => simp [asInts] at e
theorem RpL.bools : ∀ {ps : List P} {vs : List V}, RpL R D ι ps vs → ∀ {l : List Bool}, asBools ps = some l → vs = l.map V.bl
  | _, _, .nil, l, e => by
    simp only [asBools, Option.some.injEq] at e; subst e; rfl
  | p :: ps, _, .cons h r, l, e => by
    cases p with
    | bl i =>
      simp only [asBools] at e
      cases q : asBools ps with
      | none => rw [q] at e; cases e
      | some m =>
        rw [q] at e; cases e
        cases h
        rw [RpL.bools r q]; rfl
    | _ => simp [asBools] at e
theorem RpL.strs : ∀ {ps : List P} {vs : List V}, RpL R D ι ps vs → ∀ {l : List Str}, asStrs ps = some l → vs = l.map V.str
  | _, _, .nil, l, e => by
    simp only [asStrs, Option.some.injEq] at e; subst e; rfl
  | p :: ps, _, .cons h r, l, e => by
    cases p with
    | str i =>
      simp only [asStrs] at e
      cases q : asStrs ps with
      | none => rw [q] at e; cases e
      | some m =>
        rw [q] at e; cases e
        cases h
        rw [RpL.strs r q]; rfl
    | _ => simp [asStrs] at e

/-! ### as the library's data -/
mutual
def toD : P → PyData
  | .non => .none
  | .bl b => .bool b
  | .int i => .int i
  | .str x => .str x
  | .lst xs => .list (toDs xs)
  | .tup xs => .tuple (toDs xs)
  | .dct _ _ _ => .none
  | .set _ => .none
  | .fn _ => .none
  | .cls _ => .none
  | .ref _ => .none
  | .exc _ _ => .none
  | .scr _ => .none
def toDs : List P → List PyData
  | [] => []
  | x :: xs => toD x :: toDs xs
end
mutual
theorem shp_lay : ∀ (n : Nat) (p : P), shp n p = true → (toD p).canLay0 = true ∧ (toD p).depth ≤ n
  | n, .non, _ => by simp [toD, PyData.canLay0, PyData.depth]
  | n, .bl _, _ => by simp [toD, PyData.canLay0, PyData.depth]
  | n, .int _, _ => by simp [toD, PyData.canLay0, PyData.depth]
  | n, .str s, h => by
    have h' : PyData.strOk s = true := by simpa [shp] using h
    simp [toD, PyData.canLay0, PyData.depth, h']
  | 0, .lst _, h => by simp [shp] at h
  | 0, .tup _, h => by simp [shp] at h
  | n + 1, .lst xs, h => by
    obtain ⟨h1, h2⟩ := shps_lay n xs (by simpa [shp] using h)
    simp only [toD, PyData.canLay0, PyData.depth]
    exact ⟨h1, by omega⟩
  | n + 1, .tup xs, h => by
    obtain ⟨h1, h2⟩ := shps_lay n xs (by simpa [shp] using h)
    simp only [toD, PyData.canLay0, PyData.depth]
    exact ⟨h1, by omega⟩
  | n, .dct _ _ _, h => by cases n <;> simp [shp] at h
  | n, .set _, h => by cases n <;> simp [shp] at h
  | n, .fn _, h => by cases n <;> simp [shp] at h
  | n, .cls _, h => by cases n <;> simp [shp] at h
  | n, .ref _, h => by cases n <;> simp [shp] at h
  | n, .exc _ _, h => by cases n <;> simp [shp] at h
  | n, .scr _, h => by cases n <;> simp [shp] at h
theorem shps_lay : ∀ (n : Nat) (ps : List P), shps n ps = true → PyData.canLayAll0 (toDs ps) = true ∧ PyData.depthAll (toDs ps) ≤ n
  | n, [], _ => by simp [toDs, PyData.canLayAll0, PyData.depthAll]
  | n, p :: ps, h => by
    have h' : shp n p = true ∧ shps n ps = true := by simpa [shps] using h
    obtain ⟨a1, a2⟩ := shp_lay n p h'.1
    obtain ⟨b1, b2⟩ := shps_lay n ps h'.2
    simp only [toDs, PyData.canLayAll0, PyData.depthAll]
    exact ⟨by rw [a1, b1]; rfl, by omega⟩
end
theorem shp_shaped {p : P} (h : shp 64 p = true) : SeqAt.shaped (toD p) = true := by
  obtain ⟨h1, h2⟩ := shp_lay 64 p h
  show ((toD p).canLay0 && decide ((toD p).depth ≤ 64)) = true
  rw [Bool.and_eq_true]
  exact ⟨h1, decide_eq_true h2⟩
mutual
theorem Rp.dp (hD : Sub D H) : ∀ (n : Nat) (p : P) (v : V), shp n p = true → Rp R D ι p v → Dp R.K H v (toD p)
  | n, .non, _, _, .non => by simp only [toD]; exact .non
  | n, .bl _, _, _, .bl b => by simp only [toD]; exact .bl b
  | n, .int _, _, _, .int i => by simp only [toD]; exact .int i
  | n, .str _, _, _, .str i => by simp only [toD]; exact .str i
  | 0, .lst _, _, h, _ => by simp [shp] at h
  | 0, .tup _, _, h, _ => by simp [shp] at h
  | n + 1, .lst xs, _, h, .lst (vs := vs) q r _ => by
    simp only [toD]; exact .lst (.inl (hD.rd q)) (RpL.dp hD n xs vs (by simpa [shp] using h) r)
  | n + 1, .tup xs, _, h, .tup (vs := vs) q r _ => by
    simp only [toD]; exact .tup (hD.sqT q.sqT) (RpL.dp hD n xs vs (by simpa [shp] using h) r)
  | n, .dct _ _ _, _, h, _ => by cases n <;> simp [shp] at h
  | n, .fn _, _, h, _ => by cases n <;> simp [shp] at h
  | n, .cls _, _, h, _ => by cases n <;> simp [shp] at h
  | n, .ref _, _, h, _ => by cases n <;> simp [shp] at h
  | n, .exc _ _, _, h, _ => by cases n <;> simp [shp] at h
  | n, .scr _, _, h, _ => by cases n <;> simp [shp] at h
theorem RpL.dp (hD : Sub D H) : ∀ (n : Nat) (ps : List P) (vs : List V), shps n ps = true → RpL R D ι ps vs → DpAll R.K H vs (toDs ps)
  | n, [], _, _, .nil => by simp only [toDs]; exact .nil
  | n, p :: ps, _, h, .cons (v := v) (vs := vs) q r => by
    have h' : shp n p = true ∧ shps n ps = true := by simpa [shps] using h
    simp only [toDs]; exact .cons (Rp.dp hD n p v h'.1 q) (RpL.dp hD n ps vs h'.2 r)
end
mutual
theorem eqv_toD : ∀ (n : Nat) (p q : P), shp n p = true → shp n q = true → PyData.eqv (toD p) (toD q) = eqv p q
  | n, p, q, hp, hq => by
    cases p <;> cases q <;> first
      | (simp only [toD, PyData.eqv, eqv]; done)
      | (cases n <;> simp [shp] at hp; done)
      | (cases n <;> simp [shp] at hq; done)
      | skip
    · rename_i xs ys
      cases n with
      | zero => simp [shp] at hp
      | succ n =>
        simp only [toD, PyData.eqv, eqv]
        exact eqvs_toD n xs ys (by simpa [shp] using hp) (by simpa [shp] using hq)
    · rename_i xs ys
      cases n with
      | zero => simp [shp] at hp
      | succ n =>
        simp only [toD, PyData.eqv, eqv]
        exact eqvs_toD n xs ys (by simpa [shp] using hp) (by simpa [shp] using hq)
theorem eqvs_toD : ∀ (n : Nat) (p q : List P), shps n p = true → shps n q = true → PyData.eqvAll (toDs p) (toDs q) = eqvs p q
  | n, [], [], _, _ => by simp only [toDs, PyData.eqvAll, eqvs]
  | n, [], _ :: _, _, _ => by simp only [toDs, PyData.eqvAll, eqvs]
  | n, _ :: _, [], _, _ => by simp only [toDs, PyData.eqvAll, eqvs]
  | n, x :: xs, y :: ys, hp, hq => by
    have h1 : shp n x = true ∧ shps n xs = true := by simpa [shps] using hp
    have h2 : shp n y = true ∧ shps n ys = true := by simpa [shps] using hq
    simp only [toDs, PyData.eqvAll, eqvs]
    rw [eqv_toD n x y h1.1 h2.1, eqvs_toD n xs ys h1.2 h2.2]
end
end
end Vi
/-! Vi, states: what holds of the heap between two steps of a body. -/
namespace Vi
open PySem PySem.Spec PyProof.Rows L2

/-- the frozen part, the places of the store's objects, the store -/
structure Wd where
  D : Hp
  ι : List Addr
  S : Sto
def Wd.le (W W' : Wd) : Prop := Sub W.D W'.D ∧ Pre W.ι W'.ι
theorem Wd.le.refl (W : Wd) : W.le W := ⟨.refl _, .refl _⟩
theorem Wd.le.trans {W W1 W2 : Wd} (a : W.le W1) (b : W1.le W2) : W.le W2 := ⟨a.1.trans b.1, a.2.trans b.2⟩

/-- an object of the store -/
def RO (R : Rc) (D : Hp) (ι : List Addr) (H : Hp) (a : Addr) : RObj → Prop
  | .cell xs => ∃ vs, H a = some (.lst vs) ∧ RpL R D ι xs vs
theorem RO.mono {R : Rc} {D D' H H' : Hp} {ι ι' : List Addr} {a : Addr} {r : RObj} (h : RO R D ι H a r) (hD : Sub D D') (hι : Pre ι ι') (hH : ∀ o, H a = some o → H' a = some o) : RO R D' ι' H' a r := by
  cases r with
  | cell xs =>
    obtain ⟨vs, e, r⟩ := h
    exact ⟨vs, hH _ e, r.mono hD hι⟩
theorem RO.there {R : Rc} {D H : Hp} {ι : List Addr} {a : Addr} {r : RObj} (h : RO R D ι H a r) : ∃ o, H a = some o ∧ ∀ ps, o ≠ .tbl ps := by
  cases r with
  | cell xs =>
    obtain ⟨vs, e, r⟩ := h
    exact ⟨_, e, fun ps q => by cases q⟩
theorem RO.lst {R : Rc} {D H : Hp} {ι : List Addr} {a : Addr} {r : RObj} (h : RO R D ι H a r) : ∃ vs, H a = some (.lst vs) := by
  cases r with
  | cell xs =>
    obtain ⟨vs, e, r⟩ := h
    exact ⟨vs, e⟩
/-- an own dict -/
def DcAt (R : Rc) (D : Hp) (ι : List Addr) (H : Hp) (a : Addr) : Bool → List P → List P → Prop
  | false, ks, vs => ∃ kvs : List (Key × V), H a = some (.dK kvs) ∧ ks = kvs.map (fun p => kP p.1) ∧ RpL R D ι vs (kvs.map (·.2))
  | true, ks, vs => ∃ kvs : ViDx.KX, H a = some (ViDx.DX R.pr R.w a kvs) ∧ ks = kvs.map (fun p => P.tup (p.1.map kP)) ∧ RpL R D ι vs (kvs.map (·.2.2)) ∧ ∀ p ∈ kvs, TpA R.K D p.2.1 (p.1.map kV) ∧ p.1.length ≤ lim
theorem DcAt.mono {R : Rc} {D D' H H' : Hp} {ι ι' : List Addr} {a : Addr} : ∀ {t : Bool} {ks vs : List P}, DcAt R D ι H a t ks vs → Sub D D' → Pre ι ι' → (∀ o, H a = some o → H' a = some o) → DcAt R D' ι' H' a t ks vs
  | false, _, _, ⟨kvs, e, k, r⟩, hD, hι, hH => ⟨kvs, hH _ e, k, r.mono hD hι⟩
  | true, _, _, ⟨kvs, e, k, r, zk⟩, hD, hι, hH => ⟨kvs, hH _ e, k, r.mono hD hι, fun p hp => ⟨hD.tpA (zk p hp).1, (zk p hp).2⟩⟩
theorem DcAt.there {R : Rc} {D H : Hp} {ι : List Addr} {a : Addr} : ∀ {t : Bool} {ks vs : List P}, DcAt R D ι H a t ks vs → ∃ o, H a = some o ∧ (∀ ps, o ≠ .tbl ps) ∧ (∀ xs, o ≠ .tup xs) ∧ Mut (some o) ∧ ∀ c q, o ≠ LamX.CodeO c q
  | false, _, _, ⟨kvs, e, _⟩ => ⟨_, e, fun ps q => (by cases q), fun ps q => (by cases q), trivial, fun _ _ q => (by cases q)⟩
  | true, _, _, ⟨kvs, e, _⟩ => ⟨_, e, fun ps q => (by cases q), fun ps q => (by cases q), trivial, fun _ _ => ViDx.dx_ncode _ _⟩
/-- what an owned name holds -/
def OwnC (R : Rc) (D : Hp) (ι : List Addr) (H : Hp) (a : Addr) : P → Prop
  | .lst xs => xs.length ≤ lim ∧ ∃ vs, H a = some (.lst vs) ∧ RpL R D ι xs vs
  | .dct t ks vs => ks.length ≤ lim ∧ DcAt R D ι H a t ks vs
  | _ => False
theorem OwnC.mono {R : Rc} {D D' H H' : Hp} {ι ι' : List Addr} {a : Addr} {p : P} (h : OwnC R D ι H a p) (hD : Sub D D') (hι : Pre ι ι') (hH : ∀ o, H a = some o → H' a = some o) : OwnC R D' ι' H' a p := by
  cases p with
  | lst xs =>
    obtain ⟨z, vs, e, r⟩ := h
    exact ⟨z, vs, hH _ e, r.mono hD hι⟩
  | dct t ks vs => exact ⟨h.1, h.2.mono hD hι hH⟩
  | _ => exact (show False from h).elim
theorem OwnC.there2 {R : Rc} {D H : Hp} {ι : List Addr} {a : Addr} {p : P} (h : OwnC R D ι H a p) : ∃ o, H a = some o ∧ (∀ ps, o ≠ .tbl ps) ∧ ∀ xs, o ≠ .tup xs := by
  cases p with
  | lst xs =>
    obtain ⟨_, vs, e, r⟩ := h
    exact ⟨_, e, fun ps q => (by cases q), fun ps q => (by cases q)⟩
  | dct t ks vs =>
    obtain ⟨o, e, h1, h2, _⟩ := h.2.there
    exact ⟨o, e, h1, h2⟩
  | _ => exact (show False from h).elim
theorem OwnC.there {R : Rc} {D H : Hp} {ι : List Addr} {a : Addr} {p : P} (h : OwnC R D ι H a p) : ∃ o, H a = some o ∧ ∀ ps, o ≠ .tbl ps := by
  obtain ⟨o, e, h1, _⟩ := h.there2
  exact ⟨o, e, h1⟩

/-- the state lies so -/
structure WOk (R : Rc) (T : List (Addr × Str)) (W : Wd) (H : Hp) : Prop where
  sub : Sub W.D H
  ntb : ∀ a ps, W.D a ≠ some (.tbl ps)
  len : W.ι.length = W.S.length
  rob : ∀ (i : Nat) (a : Addr) (r : RObj), W.ι[i]? = some a → W.S[i]? = some r → RO R W.D W.ι H a r
  nod : W.ι.Nodup
  off : ∀ a ∈ W.ι, W.D a = none
  tabs : LamX.Tabs T H

/-- where a body began -/
structure En where
  W : Wd
  H : Hp
  /-- objects that are being made (a comprehension's list) -/
  os : List (Addr × P) := []
/-- new since then -/
def Nw (N : En) (a : Addr) : Prop := ∀ o, N.H a = some o → ∃ ps, o = HO.tbl ps
theorem Nw.not {N : En} {a : Addr} {o : HO} (h : Nw N a) (e : N.H a = some o) (nt : ∀ ps, o ≠ .tbl ps) : False := by
  obtain ⟨ps, z⟩ := h o e
  exact nt ps z
/-- from there to here -/
structure B (R : Rc) (T : List (Addr × Str)) (N : En) (W : Wd) (H : Hp) : Prop where
  ok : WOk R T W H
  ge : N.W.le W
  frm : ∀ a o, N.H a = some o → a ∉ N.W.ι → (∀ ps, o ≠ .tbl ps) → H a = some o
  newD : ∀ a o, W.D a = some o → N.W.D a = some o ∨ Nw N a ∨ ∃ vs, o = HO.tup vs ∧ N.H a = some o
  newι : ∀ a ∈ W.ι, a ∈ N.W.ι ∨ Nw N a
theorem B.refl {R : Rc} {T : List (Addr × Str)} {W : Wd} {H : Hp} (h : WOk R T W H) : B R T { W := W, H := H } W H :=
  ⟨h, .refl _, fun _ _ e _ _ => e, fun _ _ e => .inl e, fun _ e => .inl e⟩
theorem B.iota {R : Rc} {T : List (Addr × Str)} {N : En} {W : Wd} {H : Hp} (b : B R T N W H) {a : Addr} {o : HO} (e : N.H a = some o) (nt : ∀ ps, o ≠ .tbl ps) (n : a ∉ N.W.ι) : a ∉ W.ι := fun m => by
  rcases b.newι a m with h | h
  · exact n h
  · exact h.not e nt
theorem B.at_iota {R : Rc} {T : List (Addr × Str)} {N : En} {W : Wd} {H : Hp} (b : B R T N W H) {a : Addr} (h : H a = none) : a ∉ W.ι := fun m => by
  obtain ⟨i, hi, e⟩ := List.getElem_of_mem m
  have hs : i < W.S.length := by rw [← b.ok.len]; exact hi
  have r := b.ok.rob i a W.S[i] (by rw [List.getElem?_eq_getElem hi, e]) (List.getElem?_eq_getElem hs)
  obtain ⟨u, hu, _⟩ := r.there
  rw [h] at hu; cases hu
theorem B.fresh {R : Rc} {T : List (Addr × Str)} {N : En} {W : Wd} {H : Hp} (b : B R T N W H) {a : Addr} (e : H a = none) : Nw N a := fun o q => by
  by_cases nt : ∃ ps, o = HO.tbl ps
  · exact nt
  · have h := b.frm a o q (fun m => b.at_iota e (b.ge.2.mem m)) fun ps z => nt ⟨ps, z⟩
    rw [e] at h; cases h
theorem B.trans {R : Rc} {T : List (Addr × Str)} {N : En} {W W' : Wd} {H H' : Hp} (b : B R T N W H) (c : B R T { W := W, H := H } W' H') : B R T N W' H' where
  ok := c.ok
  ge := b.ge.trans c.ge
  frm := fun a o e n nt => c.frm a o (b.frm a o e n nt) (b.iota e nt n) nt
  newD := fun a o e => by
    rcases c.newD a o e with h | h | ⟨vs, rfl, h⟩
    · exact b.newD a o h
    rotate_left
    · have h : H a = some (.tup vs) := h
      cases e0 : N.H a with
      | none => exact .inr (.inl fun o q => by rw [e0] at q; cases q)
      | some u =>
        by_cases nt : ∃ ps, u = HO.tbl ps
        · exact .inr (.inl fun o q => by rw [e0] at q; cases q; exact nt)
        · by_cases m : a ∈ N.W.ι
          · have m' := b.ge.2.mem m
            obtain ⟨i, hi, e⟩ := List.getElem_of_mem m'
            have hs : i < W.S.length := by rw [← b.ok.len]; exact hi
            obtain ⟨us, hu⟩ := (b.ok.rob i a W.S[i] (by rw [List.getElem?_eq_getElem hi, e]) (List.getElem?_eq_getElem hs)).lst
            rw [h] at hu; cases hu
          · have q := b.frm a u e0 m fun ps z => nt ⟨ps, z⟩
            rw [h] at q
            cases q
            exact .inr (.inr ⟨vs, rfl, rfl⟩)
    · refine .inr (.inl fun u q => ?_)
      by_cases nt : ∃ ps, u = HO.tbl ps
      · exact nt
      · by_cases m : a ∈ N.W.ι
        · have m' := b.ge.2.mem m
          obtain ⟨i, hi, e⟩ := List.getElem_of_mem m'
          have hs : i < W.S.length := by rw [← b.ok.len]; exact hi
          obtain ⟨u', hu, nt'⟩ := (b.ok.rob i a W.S[i] (by rw [List.getElem?_eq_getElem hi, e]) (List.getElem?_eq_getElem hs)).there
          exact (h.not hu nt').elim
        · exact (h.not (b.frm a u q m fun ps z => nt ⟨ps, z⟩) fun ps z => nt ⟨ps, z⟩).elim
  newι := fun a m => by
    rcases c.newι a m with h | h
    · exact b.newι a h
    · refine .inr fun u q => ?_
      by_cases nt : ∃ ps, u = HO.tbl ps
      · exact nt
      · by_cases m : a ∈ N.W.ι
        · have m' := b.ge.2.mem m
          obtain ⟨i, hi, e⟩ := List.getElem_of_mem m'
          have hs : i < W.S.length := by rw [← b.ok.len]; exact hi
          obtain ⟨u', hu, nt'⟩ := (b.ok.rob i a W.S[i] (by rw [List.getElem?_eq_getElem hi, e]) (List.getElem?_eq_getElem hs)).there
          exact (h.not hu nt').elim
        · exact (h.not (b.frm a u q m fun ps z => nt ⟨ps, z⟩) fun ps z => nt ⟨ps, z⟩).elim

/-- an owned object stays -/
theorem B.owned {R : Rc} {T : List (Addr × Str)} {W W' : Wd} {H H' : Hp} (c : B R T { W := W, H := H } W' H') {a : Addr} {p : P} (h3 : W.D a = none) (h4 : a ∉ W.ι) (h5 : OwnC R W.D W.ι H a p) : W'.D a = none ∧ a ∉ W'.ι ∧ OwnC R W'.D W'.ι H' a p := by
  obtain ⟨o, ho, nt, nu⟩ := h5.there2
  refine ⟨?_, c.iota ho nt h4, h5.mono c.ge.1 c.ge.2 fun o' e' => ?_⟩
  · cases q : W'.D a with
    | none => rfl
    | some u =>
      rcases c.newD a u q with z | z | ⟨vs, z1, z2⟩
      · rw [h3] at z; cases z
      · exact (z.not (show (En.mk W H []).H a = some o from ho) nt).elim
      · subst z1
        have z2 : H a = some (.tup vs) := z2
        rw [ho] at z2
        cases z2
        exact (nu vs rfl).elim
  · rw [ho] at e'; cases e'
    exact c.frm a o ho h4 nt
/-- .. with the names -/
structure J (R : Rc) (T : List (Addr × Str)) (N : En) (ρ : Env) (W : Wd) (σ : L2.St) (H : Hp) : Prop where
  b : B R T N W H
  len : σ.length = ρ.length
  val : ∀ (i : Nat) (p : P), ρ[i]? = some (Sl.val p) → ∃ v, σ[i]? = some (some v) ∧ Rp R W.D W.ι p v
  own : ∀ (i : Nat) (p : P), ρ[i]? = some (Sl.own p) → ∃ a, σ[i]? = some (some (.ref a)) ∧ Nw N a ∧ W.D a = none ∧ a ∉ W.ι ∧ OwnC R W.D W.ι H a p
  ext : ∀ q ∈ N.os, Nw N q.1 ∧ W.D q.1 = none ∧ q.1 ∉ W.ι ∧ OwnC R W.D W.ι H q.1 q.2
  sepx : ∀ q ∈ N.os, ∀ (i : Nat) (p : P), ρ[i]? = some (Sl.own p) → σ[i]? ≠ some (some (.ref q.1))
  nodx : (N.os.map (·.1)).Nodup
  sep : ∀ (i j : Nat) (p q : P) (a : Addr), ρ[i]? = some (Sl.own p) → ρ[j]? = some (Sl.own q) → σ[i]? = some (some (.ref a)) → σ[j]? = some (some (.ref a)) → i = j
section
variable {R : Rc} {T : List (Addr × Str)} {N : En} {ρ : Env} {W W' : Wd} {σ : L2.St} {H H' : Hp}
/-- behind a step that leaves the owned objects as they are -/
theorem J.step (j : J R T N ρ W σ H) (c : B R T { W := W, H := H } W' H') : J R T N ρ W' σ H' where
  b := j.b.trans c
  len := j.len
  val := fun i p e => by
    obtain ⟨v, h1, h2⟩ := j.val i p e
    exact ⟨v, h1, h2.mono c.ge.1 c.ge.2⟩
  own := fun i p e => by
    obtain ⟨a, h1, h2, h3, h4, h5⟩ := j.own i p e
    obtain ⟨g1, g2, g3⟩ := c.owned h3 h4 h5
    exact ⟨a, h1, h2, g1, g2, g3⟩
  ext := fun q hq => by
    obtain ⟨h2, h3, h4, h5⟩ := j.ext q hq
    exact ⟨h2, c.owned h3 h4 h5⟩
  sepx := j.sepx
  nodx := j.nodx
  sep := j.sep
/-- a new object that is never changed -/
theorem B.laid {a : Addr} {o : HO} (b : B R T N W H) (h : H a = none) (nt : ∀ ps, o ≠ .tbl ps) : B R T N ⟨upd W.D a o, W.ι, W.S⟩ (upd H a o) := by
  have hD : W.D a = none := by
    cases q : W.D a with
    | none => rfl
    | some u => rw [b.ok.sub a u q] at h; cases h
  have hι : a ∉ W.ι := fun m => by
    obtain ⟨i, hi, e⟩ := List.getElem_of_mem m
    have hs : i < W.S.length := by rw [← b.ok.len]; exact hi
    have r := b.ok.rob i a W.S[i] (by rw [List.getElem?_eq_getElem hi, e]) (List.getElem?_eq_getElem hs)
    obtain ⟨u, hu, _⟩ := r.there
    rw [h] at hu; cases hu
  refine b.trans ⟨⟨b.ok.sub.up o, fun c ps e => ?_, b.ok.len, fun i c r e1 e2 => (b.ok.rob i c r e1 e2).mono (Sub.new o hD) (.refl _) fun u e => Sub.new o h c u e, b.ok.nod, fun c m => ?_, ?_⟩, ⟨Sub.new o hD, .refl _⟩, fun c u e _ _ => Sub.new o h c u e, fun c u e => ?_, fun c m => .inl m⟩
  · by_cases hc : c = a
    · subst hc
      rw [show (Wd.mk (upd W.D c o) W.ι W.S).D c = upd W.D c o c from rfl, upd_same] at e
      exact nt ps (Option.some.inj e)
    · rw [show (Wd.mk (upd W.D a o) W.ι W.S).D c = upd W.D a o c from rfl, upd_ne hc] at e
      exact b.ok.ntb c ps e
  · have hc : c ≠ a := fun z => hι (z ▸ m)
    show upd W.D a o c = none
    rw [upd_ne hc]
    exact b.ok.off c m
  · exact b.ok.tabs.ext fun c u e => Sub.new o h c u e
  · by_cases hc : c = a
    · subst hc
      exact .inr (.inl fun u q => by rw [show (En.mk W H []).H c = H c from rfl, h] at q; cases q)
    · rw [show (Wd.mk (upd W.D a o) W.ι W.S).D c = upd W.D a o c from rfl, upd_ne hc] at e
      exact .inl e
theorem J.laid {a : Addr} {o : HO} (j : J R T N ρ W σ H) (h : H a = none) (nt : ∀ ps, o ≠ .tbl ps) : J R T N ρ ⟨upd W.D a o, W.ι, W.S⟩ σ (upd H a o) := j.step ((B.refl j.b.ok).laid h nt)
/-- a tuple that stands may be told -/
theorem B.know {a : Addr} {us : List V} (b : B R T N W H) (h : H a = some (.tup us)) : B R T N ⟨upd W.D a (.tup us), W.ι, W.S⟩ H ∧ W.le ⟨upd W.D a (.tup us), W.ι, W.S⟩ := by
  have hι : a ∉ W.ι := fun m => by
    obtain ⟨i, hi, e⟩ := List.getElem_of_mem m
    have hs : i < W.S.length := by rw [← b.ok.len]; exact hi
    obtain ⟨us, hu⟩ := (b.ok.rob i a W.S[i] (by rw [List.getElem?_eq_getElem hi, e]) (List.getElem?_eq_getElem hs)).lst
    rw [h] at hu; cases hu
  have sb : Sub W.D (upd W.D a (.tup us)) := fun c u e => by
    by_cases hc : c = a
    · subst hc
      have q := b.ok.sub c u e
      rw [h] at q
      rw [upd_same]; exact q
    · rw [upd_ne hc]; exact e
  have le : W.le ⟨upd W.D a (.tup us), W.ι, W.S⟩ := ⟨sb, .refl _⟩
  refine ⟨b.trans ⟨⟨fun c u e => ?_, fun c ps e => ?_, b.ok.len, fun i c r e1 e2 => (b.ok.rob i c r e1 e2).mono sb (.refl _) fun u e => e, b.ok.nod, fun c m => ?_, b.ok.tabs⟩, le, fun c u e _ _ => e, fun c u e => ?_, fun c m => .inl m⟩, le⟩
  · by_cases hc : c = a
    · subst hc
      rw [show (Wd.mk (upd W.D c (.tup us)) W.ι W.S).D c = upd W.D c (.tup us) c from rfl, upd_same] at e
      rw [← e]; exact h
    · rw [show (Wd.mk (upd W.D a (.tup us)) W.ι W.S).D c = upd W.D a (.tup us) c from rfl, upd_ne hc] at e
      exact b.ok.sub c u e
  · by_cases hc : c = a
    · subst hc
      rw [show (Wd.mk (upd W.D c (.tup us)) W.ι W.S).D c = upd W.D c (.tup us) c from rfl, upd_same] at e
      cases e
    · rw [show (Wd.mk (upd W.D a (.tup us)) W.ι W.S).D c = upd W.D a (.tup us) c from rfl, upd_ne hc] at e
      exact b.ok.ntb c ps e
  · have hc : c ≠ a := fun z => hι (z ▸ m)
    show upd W.D a (.tup us) c = none
    rw [upd_ne hc]
    exact b.ok.off c m
  · by_cases hc : c = a
    · subst hc
      rw [show (Wd.mk (upd W.D c (.tup us)) W.ι W.S).D c = upd W.D c (.tup us) c from rfl, upd_same] at e
      cases e
      exact .inr (.inr ⟨us, rfl, h⟩)
    · rw [show (Wd.mk (upd W.D a (.tup us)) W.ι W.S).D c = upd W.D a (.tup us) c from rfl, upd_ne hc] at e
      exact .inl e
theorem J.know {a : Addr} {us : List V} (j : J R T N ρ W σ H) (h : H a = some (.tup us)) : J R T N ρ ⟨upd W.D a (.tup us), W.ι, W.S⟩ σ H := j.step ((B.refl j.b.ok).know h).1
theorem laid_le {a : Addr} {o : HO} (b : B R T N W H) (h : H a = none) : W.le ⟨upd W.D a o, W.ι, W.S⟩ := by
  have hD : W.D a = none := by
    cases q : W.D a with
    | none => rfl
    | some u => rw [b.ok.sub a u q] at h; cases h
  exact ⟨Sub.new o hD, .refl _⟩
end

/-! ### operands, what comes out -/
/-- a value that is looked at: frozen, or an owned object's -/
def OpV (R : Rc) (ρ : Env) (σ : L2.St) (W : Wd) (p : P) (x : V) : Prop := Rp R W.D W.ι p x ∨ ∃ i : Nat, ρ[i]? = some (Sl.own p) ∧ σ[i]? = some (some x)
theorem OpV.mono {R : Rc} {ρ : Env} {σ : L2.St} {W W' : Wd} {p : P} {x : V} (h : OpV R ρ σ W p x) (l : W.le W') : OpV R ρ σ W' p x := h.imp (fun r => r.mono l.1 l.2) id
/-- .. as it lies now -/
def Vw (R : Rc) (D : Hp) (ι : List Addr) (H : Hp) (p : P) (x : V) : Prop := Rp R D ι p x ∨ ∃ a, x = .ref a ∧ OwnC R D ι H a p
theorem OpV.vw {R : Rc} {T : List (Addr × Str)} {N : En} {ρ : Env} {W : Wd} {σ : L2.St} {H : Hp} {p : P} {x : V} (h : OpV R ρ σ W p x) (j : J R T N ρ W σ H) : Vw R W.D W.ι H p x := by
  rcases h with h | ⟨i, h1, h2⟩
  · exact .inl h
  · obtain ⟨a, e, _, _, _, c⟩ := j.own i p h1
    rw [h2] at e
    cases e
    exact .inr ⟨a, rfl, c⟩
inductive VwL (R : Rc) (D : Hp) (ι : List Addr) (H : Hp) : List P → List V → Prop
  | nil : VwL R D ι H [] []
  | cons {p : P} {ps : List P} {v : V} {vs : List V} : Vw R D ι H p v → VwL R D ι H ps vs → VwL R D ι H (p :: ps) (v :: vs)
inductive OpL (R : Rc) (ρ : Env) (σ : L2.St) (W : Wd) : List P → List V → Prop
  | nil : OpL R ρ σ W [] []
  | cons {p : P} {ps : List P} {v : V} {vs : List V} : OpV R ρ σ W p v → OpL R ρ σ W ps vs → OpL R ρ σ W (p :: ps) (v :: vs)
theorem OpL.vw {R : Rc} {T : List (Addr × Str)} {N : En} {ρ : Env} {W : Wd} {σ : L2.St} {H : Hp} (j : J R T N ρ W σ H) : ∀ {ps : List P} {vs : List V}, OpL R ρ σ W ps vs → VwL R W.D W.ι H ps vs
  | _, _, .nil => .nil
  | _, _, .cons h r => .cons (h.vw j) (OpL.vw j r)

/-- a list that is looked at -/
theorem Vw.lst {R : Rc} {D H : Hp} {ι : List Addr} {xs : List P} {x : V} (hD : Sub D H) (h : Vw R D ι H (.lst xs) x) : ∃ a vs, x = .ref a ∧ Rd H a (.lst vs) ∧ RpL R D ι xs vs ∧ xs.length ≤ lim := by
  rcases h with h | ⟨a, e, h⟩
  · cases h with
    | lst q r z => exact ⟨_, _, rfl, hD.rd q, r, z⟩
  · obtain ⟨z, vs, e2, r⟩ := h
    exact ⟨a, vs, e, .inl e2, r, z⟩
theorem Vw.tup {R : Rc} {D H : Hp} {ι : List Addr} {xs : List P} {x : V} (hD : Sub D H) (h : Vw R D ι H (.tup xs) x) : ∃ a vs, x = .ref a ∧ SqT R.K H a vs ∧ RpL R D ι xs vs ∧ Rp R D ι (.tup xs) x ∧ xs.length ≤ lim := by
  rcases h with h | ⟨a, e, h⟩
  · cases h with
    | tup q r z => exact ⟨_, _, rfl, hD.sqT q.sqT, r, .tup q r z, z⟩
  · exact (show False from h).elim
theorem Vw.flat {R : Rc} {D H : Hp} {ι : List Addr} {p : P} {x : V} (h : Vw R D ι H p x) (n : ∀ xs, p ≠ .lst xs) (n2 : ∀ t ks vs, p ≠ .dct t ks vs := by intro _ _ _ z; cases z) : Rp R D ι p x := by
  rcases h with h | ⟨a, e, h⟩
  · exact h
  · cases p with
    | lst xs => exact absurd rfl (n xs)
    | dct t ks vs => exact absurd rfl (n2 t ks vs)
    | _ => exact (show False from h).elim
theorem Vw.dp {R : Rc} {D H : Hp} {ι : List Addr} {p : P} {x : V} (hD : Sub D H) (h : Vw R D ι H p x) (s : shp 64 p = true) : Dp R.K H x (toD p) := by
  rcases h with h | ⟨a, e, h⟩
  · exact h.dp hD 64 p x s
  · cases p with
    | lst xs =>
      obtain ⟨_, vs, e2, r⟩ := h
      subst e
      simp only [toD]
      exact .lst (SqL.of e2) (r.dp hD 63 xs vs (by simpa [shp] using s))
    | dct t ks vs => simp [shp] at s
    | _ => exact (show False from h).elim

/-- a dict that is looked at -/
theorem Vw.dK {R : Rc} {D H : Hp} {ι : List Addr} {ks vs : List P} {x : V} (hD : Sub D H) (h : Vw R D ι H (.dct false ks vs) x) : ∃ a kvs, x = .ref a ∧ Rd H a (.dK kvs) ∧ ks = kvs.map (fun p => kP p.1) ∧ RpL R D ι vs (kvs.map (·.2)) ∧ kvs.length ≤ lim := by
  rcases h with h | ⟨a, e, z, kvs, h1, h2, h3⟩
  · cases h with
    | dctK q r z => exact ⟨_, _, rfl, .inr ⟨_, hD _ _ q⟩, rfl, r, z⟩
  · exact ⟨a, kvs, e, .inl h1, h2, h3, by rw [h2, List.length_map] at z; exact z⟩
theorem Vw.dT {R : Rc} {D H : Hp} {ι : List Addr} {ks vs : List P} {x : V} (hD : Sub D H) (h : Vw R D ι H (.dct true ks vs) x) : ∃ a kvs, x = .ref a ∧ Rd H a (ViDx.DX R.pr R.w a kvs) ∧ ks = kvs.map (fun p => P.tup (p.1.map kP)) ∧ RpL R D ι vs (kvs.map (·.2.2)) ∧ kvs.length ≤ lim ∧ ∀ p ∈ kvs, TpA R.K D p.2.1 (p.1.map kV) ∧ p.1.length ≤ lim := by
  rcases h with h | ⟨a, e, z, kvs, h1, h2, h3, h4⟩
  · cases h with
    | dctT q r z zk => exact ⟨_, _, rfl, .inr ⟨_, hD _ _ q⟩, rfl, r, z, zk⟩
  · exact ⟨a, kvs, e, .inl h1, h2, h3, by rw [h2, List.length_map] at z; exact z, h4⟩

/-- v comes out: as it lies, or as one new object -/
def Out (R : Rc) (D : Hp) (ι : List Addr) (H : Hp) (v : P) (Q : VK) : Prop :=
  (∀ x, Rp R D ι v x → Q x H) ∧ ∀ a o, H a = none → (∀ ps, o ≠ .tbl ps) → Rp R (upd D a o) ι v (.ref a) → Q (.ref a) (upd H a o)
theorem Out.at {R : Rc} {D H : Hp} {ι : List Addr} {v : P} {Q : VK} (h : Out R D ι H v Q) {x : V} (r : Rp R D ι v x) : Q x H := h.1 x r
theorem Sub.none {D H : Hp} (h : Sub D H) {a : Addr} (e : H a = none) : D a = none := by
  cases q : D a with
  | none => rfl
  | some u => rw [h a u q] at e; cases e
theorem Out.newL {R : Rc} {D H : Hp} {ι : List Addr} {xs : List P} {Q : VK} (hD : Sub D H) (h : Out R D ι H (.lst xs) Q) {a : Addr} {vs : List V} (r : RpL R D ι xs vs) (n : H a = none) (z : xs.length ≤ lim) : Q (.ref a) (upd H a (.lst vs)) :=
  h.2 a _ n (fun ps z => by cases z) (.lst (.inl upd_same) (r.mono (Sub.new _ (hD.none n)) (.refl _)) z)
theorem Out.newT {R : Rc} {D H : Hp} {ι : List Addr} {xs : List P} {Q : VK} (hD : Sub D H) (h : Out R D ι H (.tup xs) Q) {a : Addr} {vs : List V} (r : RpL R D ι xs vs) (n : H a = none) (z : xs.length ≤ lim) : Q (.ref a) (upd H a (.tup vs)) :=
  h.2 a _ n (fun ps z => by cases z) (.tup (TpA.of upd_same) (r.mono (Sub.new _ (hD.none n)) (.refl _)) z)
end Vi
/-! Vi, the operators on values. -/
namespace Vi
open PySem PySem.Spec PyProof.Rows L2

def opOf : Bop → Operator
  | .add => .Add | .sub => .Sub | .mul => .Mult | .fdiv => .FloorDiv | .mod => .Mod | .pow => .Pow
  | .shl => .LShift | .shr => .RShift | .band => .BitAnd | .bor => .BitOr | .bxor => .BitXor
def cmpOf : Cop → CmpOp
  | .eq => .Eq | .ne => .NotEq | .lt => .Lt | .le => .LtE | .gt => .Gt | .ge => .GtE | .is => .Is | .isnot => .IsNot | .isin => .In | .notin => .NotIn

section
variable {X : Cx} {R : Rc} {D H : Hp} {ι : List Addr}
theorem Vw.toInt {i : Int} {x : V} (h : Vw R D ι H (.int i) x) : x = .int i := by
  cases h.flat (fun _ z => by cases z); rfl
theorem Vw.toBl {i : Bool} {x : V} (h : Vw R D ι H (.bl i) x) : x = .bl i := by
  cases h.flat (fun _ z => by cases z); rfl
theorem Vw.toStr {i : Str} {x : V} (h : Vw R D ι H (.str i) x) : x = .str i := by
  cases h.flat (fun _ z => by cases z); rfl
theorem Vw.toNon {x : V} (h : Vw R D ι H .non x) : x = .non := by
  cases h.flat (fun _ z => by cases z); rfl
/-- a list that is there, as an object -/
theorem Inv.rdL {pins : List (Addr × Obj)} {σ : L2.St} {s : Shared} {a : Addr} {xs : List V} (I : Inv X pins σ H s) (h : Rd H a (.lst xs)) :
    xs.length ≤ sizeLine ∧ ∃ (its : List Value) (n : Nat), Vals xs its ∧ xs.length = its.length ∧ s.heap.get? a = some { cls := .type "list", data := .seq its.toArray n } := by
  obtain ⟨z, its, n, r, e⟩ := h.ok I.hok
  exact ⟨z, its, n, r, r.length, e⟩

/-! list + list, list * int, of any lists -/
theorem op_catR : OpR X (binaryOp .Add) (fun x y H Q => ∃ l b xs zs, x = .ref l ∧ y = .ref b ∧ Rd H l (.lst xs) ∧ Rd H b (.lst zs) ∧ xs.length + zs.length ≤ sizeLine ∧ ∀ p, H p = none → Q (.ref p) (upd H p (.lst (xs ++ zs)))) := by
  intro pins s σ H x y v u Q I rx ry h
  obtain ⟨l, b, xs, zs, rfl, rfl, hH, hB, hz, q⟩ := h
  cases rx
  cases ry
  obtain ⟨z, its, n, r, hl, e⟩ := Inv.rdL I hH
  obtain ⟨z2, its2, n2, r2, hl2, e2⟩ := Inv.rdL I hB
  refine PySem.P.add_list e e2 ?_ (by rw [List.size_toArray, List.size_toArray]; omega)
  have ea : its.toArray ++ its2.toArray = (its ++ its2).toArray := by simp
  rw [ea]
  exact ⟨.ref _, _, I.lnew (t' := s.toks) (r.append r2) (by rw [List.length_append]; omega), rfl, q _ I.fresh⟩
theorem op_repR : OpR X (binaryOp .Mult) (fun x y H Q => ∃ l k xs, x = .ref l ∧ y = .int k ∧ Rd H l (.lst xs) ∧ -(2 ^ 63) ≤ k ∧ k < 2 ^ 63 ∧ xs.length * k.toNat ≤ sizeLine ∧
    ∀ p, H p = none → Q (.ref p) (upd H p (.lst (List.replicate k.toNat xs).flatten))) := by
  intro pins s σ H x y v u Q I rx ry h
  obtain ⟨l, k, xs, rfl, rfl, hH, h1, h2, hz, q⟩ := h
  cases rx
  obtain ⟨t, rfl⟩ := ry
  obtain ⟨z, its, n, r, hl, e⟩ := Inv.rdL I hH
  have hlen : its.toArray.size * k.toNat ≤ sizeLine := by rw [List.size_toArray, ← hl]; exact hz
  have hcap : ¬ its.toArray.size * k.toNat > (2 ^ 63 - 1) / 8 := by
    have : (sizeLine : Nat) ≤ (2 ^ 63 - 1) / 8 := by decide
    omega
  have hfit : ¬ (!Builtin.List.listFitsIndex k) = true := by
    rw [fitsIndex_both h1 h2]
    exact Bool.false_ne_true
  have hlong : ¬ Builtin.List.listTooLong (its.toArray.size * k.toNat) = true := by
    rw [notLongL hlen]
    exact Bool.false_ne_true
  have hnew : List.foldl (fun x1 x2 => x1 ++ x2) #[] (List.replicate (if its.toArray.isEmpty = true then 0 else k.toNat) its.toArray) = (List.replicate k.toNat its).flatten.toArray := by
    have f0 : ∀ m : Nat, List.foldl (fun x1 x2 => x1 ++ x2) #[] (List.replicate m its.toArray) = (List.replicate m its).flatten.toArray := fun m => by
      have := foldl_rep its m []
      rw [List.nil_append] at this
      exact this
    rw [f0]
    cases its with
    | nil => simp
    | cons a r' => rw [if_neg (by simp)]
  refine wpAny_binaryOp_repeat_ref (T := "list") (U := "int") (by decide) ⟨_, e, rfl⟩ (fun s' => typeIs_int s' k t) noFill_list_mul F.fills_int_mul F.slot_int_rmul repeat_list F.slot_int_index.lookup
    (call_meets F.slot_int_rmul (typeIs_int s k t) F.entry_int_rmul (F.args_int_rmul_2 _ _) (int___rmul___int_list k t l its.toArray n)
      ⟨e, rfl, ⟨_, e, rfl⟩, call_meets F.slot_list_mul ⟨_, e, rfl⟩ F.entry_list_mul (F.args_list_mul_2 _ _) (AutoListH.list___mul___list_int_3 l its.toArray n k t hfit hcap hlong) ⟨e, ?_⟩⟩)
  rw [hnew]
  exact ⟨.ref _, _, I.lnew (t' := s.toks) (r.rep k.toNat) (by rw [PyProof.Rows.lm_len_rep_flat, Nat.mul_comm]; exact hz), rfl, q _ I.fresh⟩

/-! tuple * int, of any tuple and any int -/
theorem tuple_mulSame (l : Addr) (items : Array Value) (n : Nat) (sl : Array (Option Value)) (dd : Option Addr) (x : Int) (u : Tok) (c0 : (decide (x < -(2 ^ 63)) || decide (x ≥ 2 ^ 63)) = false) (c1 : (items.isEmpty || x == 1) = true) :
    Meets (Builtin.«tuple.__mul__» ⟨[.ref l, .int x u], []⟩) (fun _ R s => s.heap.get? l = some { cls := .type "tuple", dict := dd, data := .seq items n, slots := sl } ∧ R (.ok (.ret (Value.ref l))) s) :=
  .of_wp fun prog w A R s h => by
    obtain ⟨hp, g, d, tk, os⟩ := s
    obtain ⟨hl, h⟩ := h
    have f1 := AutoSeq1.idx_int
    wp_walk using wpAny_loadPart' hl
    repeat (first
      | (refine wpAny_ite_false (decide_eq_false (by rw [c0]; exact Bool.false_ne_true)) ?_; wp_walk using wpAny_loadPart' hl)
      | (refine wpAny_ite_true (decide_eq_true (by rw [c1])) ?_; wp_walk using wpAny_loadPart' hl))
    exact ⟨_, rfl, h⟩
theorem tuple_mulNone (l : Addr) (items : Array Value) (n : Nat) (dd : Option Addr) (sl : Array (Option Value)) (x : Int) (u : Tok) (c0 : (decide (x < -(2 ^ 63)) || decide (x ≥ 2 ^ 63)) = false) (c1 : (items.isEmpty || x == 1) = false) (c2 : (decide (x ≤ 0) || items.isEmpty) = true) :
    Meets (Builtin.«tuple.__mul__» ⟨[.ref l, .int x u], []⟩) (fun _ R s => s.heap.get? l = some { cls := .type "tuple", dict := dd, data := .seq items n, slots := sl } ∧
      R (.ok (.ret (Value.ref s.heap.objs.size))) { s with heap := s.heap.push { cls := Value.type "tuple", data := Data.seq #[] }, toks := s.toks }) :=
  .of_wp fun prog w A R s h => by
    obtain ⟨hp, g, d, tk, os⟩ := s
    obtain ⟨hl, h⟩ := h
    have f1 := AutoSeq1.idx_int
    wp_walk using wpAny_loadPart' hl
    repeat (first
      | (refine wpAny_ite_false (decide_eq_false (by rw [c0]; exact Bool.false_ne_true)) ?_; wp_walk using wpAny_loadPart' hl)
      | (refine wpAny_ite_false (decide_eq_false (by rw [c1]; exact Bool.false_ne_true)) ?_; wp_walk using wpAny_loadPart' hl)
      | (refine wpAny_ite_true (decide_eq_true (by rw [c2])) ?_; wp_walk using wpAny_loadPart' hl))
    exact ⟨_, rfl, h⟩
theorem op_repA : OpR X (binaryOp .Mult) (fun x y H Q => ∃ l k xs, x = .ref l ∧ y = .int k ∧ SqT X.K H l xs ∧ -(2 ^ 63) ≤ k ∧ k < 2 ^ 63 ∧ xs.length * k.toNat ≤ sizeLine ∧
    (xs = [] ∨ k = 1 → Q (.ref l) H) ∧ ∀ p, H p = none → Q (.ref p) (upd H p (.tup (List.replicate k.toNat xs).flatten))) := by
  intro pins s σ H x y v u Q I rx ry h
  obtain ⟨l, k, xs, rfl, rfl, hT, h1, h2, hz, q0, q⟩ := h
  cases rx
  obtain ⟨t, rfl⟩ := ry
  obtain ⟨its, r, ⟨⟨cls, dd, data, sl⟩, ho, hc, n, hd⟩, hs⟩ := I.tuple hT
  simp only at hc hd
  subst hc hd
  have hle : its.length = xs.length := r.length.symm
  have c0 : (decide (k < -(2 ^ 63)) || decide (k ≥ 2 ^ 63)) = false := by
    rw [decide_eq_false (by omega), decide_eq_false (by omega)] <;> rfl
  have go : ∀ {Rt : Result → Shared → Prop} {M : Builtin}, M = Builtin.«tuple.__mul__» → True := fun _ => trivial
  refine wpAny_binaryOp_repeat_ref (T := "tuple") (U := "int") (by decide) ⟨_, ho, rfl⟩ (fun s' => typeIs_int s' k t) noFill_tuple_mul F.fills_int_mul F.slot_int_rmul repeat_tuple F.slot_int_index.lookup
    (call_meets F.slot_int_rmul (typeIs_int s k t) F.entry_int_rmul (F.args_int_rmul_2 _ _) (int_rmul_tuple k t l its.toArray n dd sl)
      ⟨ho, rfl, ⟨_, ho, rfl⟩, ?_⟩)
  by_cases c1 : (its.toArray.isEmpty || k == 1) = true
  · refine call_meets F.slot_tuple_mul ⟨_, ho, rfl⟩ F.entry_tuple_mul (F.args_tuple_mul_2 _ _) (tuple_mulSame l its.toArray n sl dd k t c0 c1) ⟨ho, ?_⟩
    refine ⟨.ref l, H, I, rfl, q0 ?_⟩
    rw [Bool.or_eq_true] at c1
    rcases c1 with c1 | c1
    · refine .inl (List.eq_nil_of_length_eq_zero ?_)
      rw [← hle]
      simpa using c1
    · exact .inr (by simpa using c1)
  · have c1' : (its.toArray.isEmpty || k == 1) = false := by simpa using c1
    have hi : its.toArray.isEmpty = false := (Bool.or_eq_false_iff.mp c1').1
    by_cases c2 : k ≤ 0
    · refine call_meets F.slot_tuple_mul ⟨_, ho, rfl⟩ F.entry_tuple_mul (F.args_tuple_mul_2 _ _) (tuple_mulNone l its.toArray n dd sl k t c0 c1' (by rw [decide_eq_true c2]; rfl)) ⟨ho, ?_⟩
      have e : (List.replicate k.toNat xs).flatten = [] := by rw [show k.toNat = 0 by omega]; rfl
      have q' := q s.heap.objs.size (I.hok.fresh (Nat.le_refl _))
      rw [e] at q'
      refine ⟨.ref s.heap.objs.size, _, I.laid (t' := s.toks) (o := .tup []) (fun b ob q => Heap.get?_push_of_some _ q) (Nat.le_refl _) ⟨Nat.zero_le _, [], .nil, IsTup.new _ _⟩, rfl, q'⟩
    · have hsz0 : its.toArray.size = xs.length := by rw [List.size_toArray, hle]
      have hm : ((its.toArray.size : Nat) : Int) * k ≤ sizeLine := by
        rw [hsz0]
        have e : k = (k.toNat : Int) := by omega
        rw [e]
        exact_mod_cast hz
      have flen : (List.replicate k.toNat its).flatten.length ≤ sizeLine := by
        rw [PyProof.Rows.lm_len_rep_flat, hle, Nat.mul_comm]
        exact hz
      have hln : (sizeLine : Int) = 16777216 := by rw [sizeLine_eq]; rfl
      have c4 : Builtin.Tuple.tupleTooMany (((its.toArray.size : Nat) : Int) * k) = false := by
        unfold Builtin.Tuple.tupleTooMany
        exact decide_eq_false (by omega)
      refine call_meets F.slot_tuple_mul ⟨_, ho, rfl⟩ F.entry_tuple_mul (F.args_tuple_mul_2 _ _) (tuple_mulW l its.toArray n dd sl k t c0 c1' (by rw [hi, decide_eq_false (by omega)]; rfl) (by omega) c4 (by rw [size_rep, List.size_toArray]; exact flen)) ⟨ho, ?_⟩
      rw [size_rep]
      refine ⟨.ref s.heap.objs.size, _, I.laid (t' := s.toks) (o := .tup (List.replicate k.toNat xs).flatten) (fun b ob q => Heap.get?_push_of_some _ q) (Nat.le_refl _) ?_, rfl, q _ (I.hok.fresh (Nat.le_refl _))⟩
      exact ⟨by rw [PyProof.Rows.lm_len_rep_flat, Nat.mul_comm]; exact hz, _, r.rep k.toNat, IsTup.new _ _⟩

/-! the rule -/
def rB (R : Rc) (o : Bop) : R2 := fun x y H Q => ∃ D ι p q v, Sub D H ∧ Vw R D ι H p x ∧ Vw R D ι H q y ∧ bop o p q = some v ∧ Out R D ι H v Q
theorem rep_length {α : Type} (k : Nat) (xs : List α) : (rep k xs).length = xs.length * k := by
  unfold rep
  induction k with
  | zero => simp
  | succ k ih => rw [List.replicate_succ, List.flatten_cons, List.length_append, ih, Nat.mul_succ, Nat.add_comm]
theorem lim_eq : (lim : Nat) = sizeLine := sizeLine_eq.symm
theorem op_bop (hK : R.K = X.K) (o : Bop) : OpR X (binaryOp (opOf o)) (rB R o) := by
  intro pins s σ H x y v u Q I rx ry h
  obtain ⟨D, ι, p, q, z, hD, vx, vy, hb, out⟩ := h
  have hl := lim_eq
  unfold bop at hb
  split at hb
  · -- int + int
    cases hb
    exact op_add pins s σ H x y v u Q I rx ry ⟨_, _, vx.toInt, vy.toInt, out.at (.int _)⟩
  · split at hb
    · cases hb
      rename_i hz
      exact op_add_str pins s σ H x y v u Q I rx ry ⟨_, _, vx.toStr, vy.toStr, hl ▸ hz, out.at (.str _)⟩
    · cases hb
  · split at hb
    · cases hb
      rename_i hz
      obtain ⟨a, vs, ea, ra, la, zvx⟩ := vx.lst hD
      obtain ⟨b, ws, eb, rb, lb, zvy⟩ := vy.lst hD
      refine op_catR pins s σ H x y v u Q I rx ry ⟨a, b, vs, ws, ea, eb, ra, rb, by rw [la.length, lb.length]; exact hl ▸ hz, fun p hp => out.newL hD (la.app lb) hp (by rw [List.length_append]; exact hz)⟩
    · cases hb
  · split at hb
    · cases hb
      rename_i xs ys hz
      obtain ⟨a, vs, ea, ra, la, wa, zvx⟩ := vx.tup hD
      obtain ⟨b, ws, eb, rb, lb, wb, zvy⟩ := vy.tup hD
      refine op_catA pins s σ H x y v u Q I rx ry ⟨a, b, vs, ws, ea, eb, hK ▸ ra, hK ▸ rb, by rw [la.length, lb.length]; exact hl ▸ hz, fun e => ?_, fun _ e => ?_, fun _ _ p hp => out.newT hD (la.app lb) hp (by rw [List.length_append]; exact hz)⟩
      · subst e
        cases la
        exact out.at (eb ▸ wb)
      · subst e
        cases lb
        rw [List.append_nil] at out
        exact out.at (ea ▸ wa)
    · cases hb
  · cases hb
    exact op_sub pins s σ H x y v u Q I rx ry ⟨_, _, vx.toInt, vy.toInt, out.at (.int _)⟩
  · split at hb
    · cases hb
      rename_i hz
      refine op_mul pins s σ H x y v u Q I rx ry ⟨_, _, vx.toInt, vy.toInt, ?_, out.at (.int _)⟩
      rw [mulOk_eq] at hz
      simpa [CMul] using hz
    · cases hb
  · split at hb
    · cases hb
      rename_i hz
      obtain ⟨a, vs, ea, ra, la, zvx⟩ := vx.lst hD
      rw [in63_eq] at hz
      simp only [Bool.and_eq_true, decide_eq_true_eq] at hz
      refine op_repR pins s σ H x y v u Q I rx ry ⟨a, _, vs, ea, vy.toInt, ra, hz.2.1, hz.2.2, by rw [la.length]; exact hl ▸ hz.1, fun p hp => out.newL hD (la.rep _) hp (by rw [rep_length]; exact hz.1)⟩
    · cases hb
  · split at hb
    · cases hb
      rename_i xs k hz
      obtain ⟨a, vs, ea, ra, la, wa, zvx⟩ := vx.tup hD
      rw [in63_eq] at hz
      simp only [Bool.and_eq_true, decide_eq_true_eq] at hz
      refine op_repA pins s σ H x y v u Q I rx ry ⟨a, _, vs, ea, vy.toInt, hK ▸ ra, hz.2.1, hz.2.2, by rw [la.length]; exact hl ▸ hz.1, fun e => ?_, fun p hp => out.newT hD (la.rep _) hp (by rw [rep_length]; exact hz.1)⟩
      have ex : rep k.toNat xs = xs := by
        rcases e with e | e
        · subst e
          cases la
          unfold rep
          simp
        · subst e
          show (List.replicate 1 xs).flatten = xs
          simp
      rw [ex] at out
      exact out.at (ea ▸ wa)
    · cases hb
  · split at hb
    · cases hb
      rename_i hz
      simp only [Bool.and_eq_true, lei_eq, decide_eq_true_eq] at hz
      exact op_fdiv pins s σ H x y v u Q I rx ry ⟨_, _, vx.toInt, vy.toInt, ⟨hz.1, by have := hz.2; omega⟩, out.at (.int _)⟩
    · cases hb
  · split at hb
    · cases hb
      rename_i hz
      simp only [decide_eq_true_eq] at hz
      exact op_mod pins s σ H x y v u Q I rx ry ⟨_, _, vx.toInt, vy.toInt, hz, out.at (.int _)⟩
    · cases hb
  · split at hb
    · cases hb
      rename_i hz
      simp only [Bool.and_eq_true, lei_eq, decide_eq_true_eq] at hz
      exact op_pow pins s σ H x y v u Q I rx ry ⟨_, _, vx.toInt, vy.toInt, ⟨hz.1.1, hz.1.2, hz.2⟩, out.at (.int _)⟩
    · cases hb
  · split at hb
    · cases hb
      rename_i hz
      simp only [Bool.and_eq_true, lei_eq, decide_eq_true_eq] at hz
      exact op_shl pins s σ H x y v u Q I rx ry ⟨_, _, vx.toInt, vy.toInt, ⟨hz.1.1, hz.1.2, hz.2⟩, out.at (.int _)⟩
    · cases hb
  · split at hb
    · cases hb
      rename_i hz
      simp only [decide_eq_true_eq] at hz
      exact op_shr pins s σ H x y v u Q I rx ry ⟨_, _, vx.toInt, vy.toInt, hz, out.at (.int _)⟩
    · cases hb
  · cases hb
    exact op_and pins s σ H x y v u Q I rx ry ⟨_, _, vx.toInt, vy.toInt, out.at (.int _)⟩
  · cases hb
    exact op_or pins s σ H x y v u Q I rx ry ⟨_, _, vx.toInt, vy.toInt, out.at (.int _)⟩
  · cases hb
    exact op_xor pins s σ H x y v u Q I rx ry ⟨_, _, vx.toInt, vy.toInt, out.at (.int _)⟩
  · cases hb
end
end Vi
/-! Vi, comparisons, built-ins. -/
namespace Vi
open PySem PySem.Spec PyProof.Rows L2
section
variable {X : Cx} {R : Rc} {D H : Hp} {ι : List Addr}
theorem isNon_V {p : P} {x : V} (h : Vw R D ι H p x) : decide (x = .non) = isNon p := by
  rcases h with h | ⟨a, e, h⟩
  · cases h <;> rfl
  · subst e
    cases p <;> first
      | rfl
      | exact (show False from h).elim
theorem any_toD : ∀ (xs : List P) (p : P), shps 63 xs = true → shp 64 p = true → ((toDs xs).any fun z => PyData.eqv z (toD p)) = xs.any fun z => eqv z p
  | [], _, _, _ => rfl
  | x :: xs, p, h, hp => by
    have h' : shp 63 x = true ∧ shps 63 xs = true := by simpa [shps] using h
    have up : ∀ (n : Nat) (p : P), shp n p = true → shp (n + 1) p = true := by
      intro n p
      exact (shpUp n p)
    simp only [toDs, List.any_cons]
    rw [eqv_toD 64 x p (up 63 x h'.1) hp, any_toD xs p h'.2 hp]
where
  shpUp : ∀ (n : Nat) (p : P), shp n p = true → shp (n + 1) p = true
    | _, .non, _ => by simp [shp]
    | _, .bl _, _ => by simp [shp]
    | _, .int _, _ => by simp [shp]
    | n, .str s, h => by
      have h' : PyData.strOk s = true := by simpa [shp] using h
      simpa [shp] using h'
    | 0, .lst _, h => by simp [shp] at h
    | 0, .tup _, h => by simp [shp] at h
    | n + 1, .lst xs, h => by
      have := shpsUp n xs (by simpa [shp] using h)
      simpa [shp] using this
    | n + 1, .tup xs, h => by
      have := shpsUp n xs (by simpa [shp] using h)
      simpa [shp] using this
    | n, .dct _ _ _, h => by cases n <;> simp [shp] at h
    | n, .set _, h => by cases n <;> simp [shp] at h
    | n, .fn _, h => by cases n <;> simp [shp] at h
    | n, .cls _, h => by cases n <;> simp [shp] at h
    | n, .ref _, h => by cases n <;> simp [shp] at h
    | n, .exc _ _, h => by cases n <;> simp [shp] at h
    | n, .scr _, h => by cases n <;> simp [shp] at h
  shpsUp : ∀ (n : Nat) (ps : List P), shps n ps = true → shps (n + 1) ps = true
    | _, [], _ => by simp [shps]
    | n, p :: ps, h => by
      have h' : shp n p = true ∧ shps n ps = true := by simpa [shps] using h
      simp only [shps, Bool.and_eq_true]
      exact ⟨shpUp n p h'.1, shpsUp n ps h'.2⟩

theorem op_inT (hu : X.A.units + 65 < cLine) : OpR X (compareOp .In) (fun x y H Q => ∃ d ds, Dp X.K H x d ∧ Dp X.K H y (.tuple ds) ∧ SeqAt.shaped d = true ∧ SeqAt.shaped (.tuple ds) = true ∧ Q (.bl (ds.any fun z => PyData.eqv z d)) H) := by
  intro pins s σ H x y v u Q I rx ry h
  obtain ⟨d, ds, hd, he, sd, se, q⟩ := h
  obtain ⟨as, r1⟩ := Dp.reads I d x v hd rx
  obtain ⟨bs, r2⟩ := Dp.reads I (.tuple ds) y u he ry
  have e1 : PyData.canLayAll0 ds = true := by simpa [PyData.canLay0] using SeqAt.canLay_of_shaped se
  exact SeqAt.in_tuple_reads r2 r1 e1 (SeqAt.canLay_of_shaped sd) (room_in_shaped sd hu) ⟨.bl _, H, I, rfl, q⟩
theorem op_notInT (hu : X.A.units + 65 < cLine) : OpR X (compareOp .NotIn) (fun x y H Q => ∃ d ds, Dp X.K H x d ∧ Dp X.K H y (.tuple ds) ∧ SeqAt.shaped d = true ∧ SeqAt.shaped (.tuple ds) = true ∧ Q (.bl (!ds.any fun z => PyData.eqv z d)) H) := by
  intro pins s σ H x y v u Q I rx ry h
  obtain ⟨d, ds, hd, he, sd, se, q⟩ := h
  obtain ⟨as, r1⟩ := Dp.reads I d x v hd rx
  obtain ⟨bs, r2⟩ := Dp.reads I (.tuple ds) y u he ry
  have e1 : PyData.canLayAll0 ds = true := by simpa [PyData.canLay0] using SeqAt.canLay_of_shaped se
  exact SeqAt.notIn_tuple_reads r2 r1 e1 (SeqAt.canLay_of_shaped sd) (room_in_shaped sd hu) ⟨.bl _, H, I, rfl, q⟩

theorem shpLst {xs : List P} (h : shps 63 xs = true) : shp 64 (.lst xs) = true := by simpa [shp] using h
theorem shpTup {xs : List P} (h : shps 63 xs = true) : shp 64 (.tup xs) = true := by simpa [shp] using h
/-! order -/
section
open PySem.W PySem.SeqAt
theorem ltNs_eq : ∀ l m : List Nat, ltNs l m = decide (l < m)
  | [], [] => by simp [ltNs]
  | [], _ :: _ => by simp [ltNs]
  | _ :: _, [] => by simp [ltNs]
  | x :: r, y :: t => by
    rw [ltNs, ltNs_eq r t]
    have e : (x :: r < y :: t) ↔ (x < y ∨ x = y ∧ r < t) := List.cons_lt_cons_iff
    by_cases h1 : x < y
    · simp [h1, e, Nat.blt_eq]
    · by_cases h2 : x = y
      · subst h2
        simp [e, Nat.blt_eq]
      · have hb : Nat.blt x y = false := by
          rw [Bool.eq_false_iff]
          intro q
          exact h1 (by simpa [Nat.blt_eq] using q)
        have h3 : ¬ (x :: r < y :: t) := fun q => by
          rcases e.mp q with q | q
          · exact h1 q
          · exact h2 q.1
        simp [h1, h2, h3, hb]
mutual
theorem alk_toD : ∀ p q : P, alk p q = true → alike (toD p) (toD q) = true
  | p, q, h => by
    cases p <;> cases q <;> first
      | (simp [alk] at h; done)
      | (simp only [toD, alike]; done)
      | skip
    · rename_i xs ys
      simp only [toD, alike]
      exact alks_toD xs ys (by simpa [alk] using h)
    · rename_i xs ys
      simp only [toD, alike]
      exact alks_toD xs ys (by simpa [alk] using h)
theorem alks_toD : ∀ p q : List P, alks p q = true → alikeAll (toDs p) (toDs q) = true
  | [], _, _ => by simp only [toDs, alikeAll]
  | _ :: _, [], _ => by simp only [toDs, alikeAll]
  | x :: xs, y :: ys, h => by
    have h' : alk x y = true ∧ alks xs ys = true := by simpa [alks] using h
    simp only [toDs, alikeAll]
    rw [alk_toD x y h'.1, alks_toD xs ys h'.2]
    rfl
end
mutual
theorem ltp_toD : ∀ (n : Nat) (p q : P), shp n p = true → shp n q = true → alk p q = true → dataLt (toD p) (toD q) = ltp p q
  | n, p, q, hp, hq, h => by
    cases p <;> cases q <;> first
      | (simp [alk] at h; done)
      | skip
    · rename_i a b
      simp only [toD, ltp, dataLt_bool]
      cases a <;> cases b <;> rfl
    · simp only [toD, ltp, dataLt_int]
    · simp only [toD, ltp, dataLt_str, ltNs_eq]
    · rename_i xs ys
      cases n with
      | zero => simp [shp] at hp
      | succ n =>
        simp only [toD, ltp, dataLt_tuple]
        exact ltps_toD n xs ys (by simpa [shp] using hp) (by simpa [shp] using hq) (by simpa [alk] using h)
    · rename_i xs ys
      cases n with
      | zero => simp [shp] at hp
      | succ n =>
        simp only [toD, ltp, dataLt_list]
        exact ltps_toD n xs ys (by simpa [shp] using hp) (by simpa [shp] using hq) (by simpa [alk] using h)
theorem ltps_toD : ∀ (n : Nat) (p q : List P), shps n p = true → shps n q = true → alks p q = true → PyProof.Rows.lexLt itemOrd (keyToksAll (toDs p)) (keyToksAll (toDs q)) = ltps p q
  | _, [], [], _, _, _ => by
    simp only [toDs, ltps]
    exact lex_irrefl (O := itemOrd) _
  | _, [], y :: ys, _, _, _ => by
    simp only [toDs, ltps, keyToksAll]
    rw [lex_atom (by simp)]
    decide
  | _, x :: xs, [], _, _, _ => by
    simp only [toDs, ltps, keyToksAll]
    rw [lex_atom (by simp)]
    decide
  | n, x :: xs, y :: ys, hp, hq, h => by
    have h' : alk x y = true ∧ alks xs ys = true := by simpa [alks] using h
    have hp' : shp n x = true ∧ shps n xs = true := by simpa [shps] using hp
    have hq' : shp n y = true ∧ shps n ys = true := by simpa [shps] using hq
    have al := alk_toD x y h'.1
    have ee := eqv_toD n x y hp'.1 hq'.1
    simp only [toDs, ltps]
    cases e : eqv x y with
    | true =>
      rw [dataLt_all_yes al (by rw [ee, e])]
      exact ltps_toD n xs ys hp'.2 hq'.2 h'.2
    | false =>
      rw [dataLt_all_no al (by rw [ee, e])]
      exact ltp_toD n x y hp'.1 hq'.1 h'.1
end
mutual
theorem shpUp : ∀ (n : Nat) (p : P), shp n p = true → shp (n + 1) p = true
  | n, .non, h => by simp [shp]
  | n, .bl _, h => by simp [shp]
  | n, .int _, h => by simp [shp]
  | n, .str _, h => by simpa [shp] using h
  | 0, .lst _, h => by simp [shp] at h
  | 0, .tup _, h => by simp [shp] at h
  | n + 1, .lst xs, h => by
    have := shpsUp n xs (by simpa [shp] using h)
    simpa [shp] using this
  | n + 1, .tup xs, h => by
    have := shpsUp n xs (by simpa [shp] using h)
    simpa [shp] using this
  | n, .dct _ _ _, h => by cases n <;> simp [shp] at h
  | n, .set _, h => by cases n <;> simp [shp] at h
  | n, .fn _, h => by cases n <;> simp [shp] at h
  | n, .cls _, h => by cases n <;> simp [shp] at h
  | n, .ref _, h => by cases n <;> simp [shp] at h
  | n, .exc _ _, h => by cases n <;> simp [shp] at h
  | n, .scr _, h => by cases n <;> simp [shp] at h
theorem shpsUp : ∀ (n : Nat) (ps : List P), shps n ps = true → shps (n + 1) ps = true
  | n, [], _ => by simp [shps]
  | n, p :: ps, h => by
    have h' : shp n p = true ∧ shps n ps = true := by simpa [shps] using h
    simp only [shps, Bool.and_eq_true]
    exact ⟨shpUp n p h'.1, shpsUp n ps h'.2⟩
end
theorem shpUp2 {p : P} (h : shp 62 p = true) : shp 64 p = true := shpUp 63 p (shpUp 62 p h)
theorem cmpG_lt {p q : P} (h : cmpG p q = true) : shp 64 p = true ∧ shp 64 q = true ∧ alike (toD p) (toD q) = true ∧ dataLt (toD p) (toD q) = ltp p q ∧ min (toD p).depth (toD q).depth ≤ 62 := by
  unfold cmpG at h
  simp only [Bool.and_eq_true] at h
  exact ⟨shpUp2 h.1.1, shpUp2 h.1.2, alk_toD p q h.2, ltp_toD 62 p q h.1.1 h.1.2 h.2, Nat.le_trans (Nat.min_le_left _ _) (shp_lay 62 p h.1.1).2⟩
mutual
theorem alk_comm : ∀ p q : P, alk p q = alk q p
  | p, q => by
    cases p <;> cases q <;> first
      | (simp only [alk]; done)
      | skip
    · rename_i xs ys
      simp only [alk]
      exact alks_comm xs ys
    · rename_i xs ys
      simp only [alk]
      exact alks_comm xs ys
theorem alks_comm : ∀ p q : List P, alks p q = alks q p
  | [], [] => rfl
  | [], _ :: _ => by simp only [alks]
  | _ :: _, [] => by simp only [alks]
  | x :: xs, y :: ys => by
    simp only [alks]
    rw [alk_comm x y, alks_comm xs ys]
end
theorem cmpG_gt {p q : P} (h : cmpG p q = true) : dataLt (toD q) (toD p) = ltp q p := by
  unfold cmpG at h
  simp only [Bool.and_eq_true] at h
  exact ltp_toD 62 q p h.1.2 h.1.1 (by rw [alk_comm]; exact h.2)
theorem alk_ne {p q : P} (h : cmpG p q = true) : toD p ≠ .none := by
  unfold cmpG at h
  simp only [Bool.and_eq_true] at h
  intro z
  cases p <;> simp [toD] at z <;> simp [alk] at h
end
def rC (R : Rc) (o : Cop) : R2 := fun x y H Q => ∃ D ι p q k, Sub D H ∧ Vw R D ι H p x ∧ Vw R D ι H q y ∧ cop o p q = some k ∧ Q (.bl k) H
theorem op_cop (hK : R.K = X.K) (hu : X.A.units + 65 < cLine) (o : Cop) : OpR X (compareOp (cmpOf o)) (rC R o) := by
  intro pins s σ H x y v u Q I rx ry h
  obtain ⟨D, ι, p, q, k, hD, vx, vy, hb, out⟩ := h
  unfold cop at hb
  split at hb
  · split at hb
    · cases hb
      rename_i hz
      simp only [Bool.and_eq_true] at hz
      refine op_eqD (by omega) pins s σ H x y v u Q I rx ry ⟨toD _, toD _, hK ▸ vx.dp hD hz.1, hK ▸ vy.dp hD hz.2, shp_shaped hz.1, shp_shaped hz.2, ?_⟩
      rw [eqv_toD 64 _ _ hz.1 hz.2]
      exact out
    · cases hb
  · split at hb
    · cases hb
      rename_i hz
      simp only [Bool.and_eq_true] at hz
      refine op_neD (by omega) pins s σ H x y v u Q I rx ry ⟨toD _, toD _, hK ▸ vx.dp hD hz.1, hK ▸ vy.dp hD hz.2, shp_shaped hz.1, shp_shaped hz.2, ?_⟩
      rw [eqv_toD 64 _ _ hz.1 hz.2]
      exact out
    · cases hb
  · cases hb
    exact op_lt pins s σ H x y v u Q I rx ry ⟨_, _, vx.toInt, vy.toInt, out⟩
  · split at hb
    · cases hb
      rename_i hz
      obtain ⟨d1, d2, al, e, dep⟩ := cmpG_lt hz
      obtain ⟨as, r1⟩ := Dp.reads I _ _ _ (hK ▸ vx.dp hD d1) rx
      obtain ⟨bs, r2⟩ := Dp.reads I _ _ _ (hK ▸ vy.dp hD d2) ry
      exact PySem.W.lt_data r1 r2 al (alk_ne hz) (by omega) (by rw [e]; exact ⟨.bl _, H, I, rfl, out⟩)
    · cases hb
  · cases hb
    exact op_le pins s σ H x y v u Q I rx ry ⟨_, _, vx.toInt, vy.toInt, out⟩
  · split at hb
    · cases hb
      rename_i hz
      obtain ⟨d1, d2, al, e, dep⟩ := cmpG_lt hz
      obtain ⟨as, r1⟩ := Dp.reads I _ _ _ (hK ▸ vx.dp hD d1) rx
      obtain ⟨bs, r2⟩ := Dp.reads I _ _ _ (hK ▸ vy.dp hD d2) ry
      exact PySem.W.le_data r1 r2 al (alk_ne hz) (by omega) (by rw [cmpG_gt hz]; exact ⟨.bl _, H, I, rfl, out⟩)
    · cases hb
  · cases hb
    exact op_gt pins s σ H x y v u Q I rx ry ⟨_, _, vx.toInt, vy.toInt, out⟩
  · split at hb
    · cases hb
      rename_i hz
      obtain ⟨d1, d2, al, e, dep⟩ := cmpG_lt hz
      obtain ⟨as, r1⟩ := Dp.reads I _ _ _ (hK ▸ vx.dp hD d1) rx
      obtain ⟨bs, r2⟩ := Dp.reads I _ _ _ (hK ▸ vy.dp hD d2) ry
      exact PySem.W.gt_data r1 r2 al (alk_ne hz) (by omega) (by rw [cmpG_gt hz]; exact ⟨.bl _, H, I, rfl, out⟩)
    · cases hb
  · cases hb
    exact op_ge pins s σ H x y v u Q I rx ry ⟨_, _, vx.toInt, vy.toInt, out⟩
  · split at hb
    · cases hb
      rename_i hz
      obtain ⟨d1, d2, al, e, dep⟩ := cmpG_lt hz
      obtain ⟨as, r1⟩ := Dp.reads I _ _ _ (hK ▸ vx.dp hD d1) rx
      obtain ⟨bs, r2⟩ := Dp.reads I _ _ _ (hK ▸ vy.dp hD d2) ry
      exact PySem.W.ge_data r1 r2 al (alk_ne hz) (by omega) (by rw [e]; exact ⟨.bl _, H, I, rfl, out⟩)
    · cases hb
  · cases hb
    exact op_isN pins s σ H x y v u Q I rx ry ⟨vy.toNon, by rw [isNon_V vx]; exact out⟩
  · cases hb
    exact op_notN pins s σ H x y v u Q I rx ry ⟨vy.toNon, by rw [isNon_V vx]; exact out⟩
  · split at hb
    · cases hb
      rename_i hz
      simp only [Bool.and_eq_true] at hz
      have hy := shpLst hz.2
      have d := vy.dp hD hy
      have sh := shp_shaped hy
      simp only [toD] at d sh
      refine op_inD hu pins s σ H x y v u Q I rx ry ⟨toD _, toDs _, hK ▸ vx.dp hD hz.1, hK ▸ d, shp_shaped hz.1, sh, ?_⟩
      rw [any_toD _ _ hz.2 hz.1]
      exact out
    · cases hb
  · split at hb
    · cases hb
      rename_i hz
      simp only [Bool.and_eq_true] at hz
      have hy := shpTup hz.2
      have d := vy.dp hD hy
      have sh := shp_shaped hy
      simp only [toD] at d sh
      refine op_inT hu pins s σ H x y v u Q I rx ry ⟨toD _, toDs _, hK ▸ vx.dp hD hz.1, hK ▸ d, shp_shaped hz.1, sh, ?_⟩
      rw [any_toD _ _ hz.2 hz.1]
      exact out
    · cases hb
  · split at hb
    · cases hb
      rename_i hz
      simp only [Bool.and_eq_true] at hz
      have hy := shpLst hz.2
      have d := vy.dp hD hy
      have sh := shp_shaped hy
      simp only [toD] at d sh
      refine op_notInD hu pins s σ H x y v u Q I rx ry ⟨toD _, toDs _, hK ▸ vx.dp hD hz.1, hK ▸ d, shp_shaped hz.1, sh, ?_⟩
      rw [any_toD _ _ hz.2 hz.1]
      exact out
    · cases hb
  · split at hb
    · cases hb
      rename_i hz
      simp only [Bool.and_eq_true] at hz
      have hy := shpTup hz.2
      have d := vy.dp hD hy
      have sh := shp_shaped hy
      simp only [toD] at d sh
      refine op_notInT hu pins s σ H x y v u Q I rx ry ⟨toD _, toDs _, hK ▸ vx.dp hD hz.1, hK ▸ d, shp_shaped hz.1, sh, ?_⟩
      rw [any_toD _ _ hz.2 hz.1]
      exact out
    · cases hb
  · cases hb

/-! truth -/
theorem TruV_of (hK : R.K = X.K) (hD : Sub D H) {p : P} {x : V} {k : Bool} (h : Vw R D ι H p x) (e : truth p = some k) : TruV X.K x H k := by
  unfold truth at e
  split at e
  · cases e
    rw [h.toNon]
    rfl
  · cases e
    rw [h.toBl]
    rfl
  · cases e
    rw [h.toInt]
    rfl
  · split at e
    · cases e
      rename_i hz
      rw [h.toStr]
      exact ⟨lim_eq ▸ hz, rfl⟩
    · cases e
  · cases e
    obtain ⟨a, vs, ea, ra, la, _, _⟩ := h.tup hD
    subst ea
    refine .inr (.inl ⟨vs, hK ▸ ra, ?_⟩)
    cases la <;> rfl
  · cases e
    obtain ⟨a, vs, ea, ra, la, _⟩ := h.lst hD
    subst ea
    refine .inl ⟨vs, .inl ra, ?_⟩
    cases la <;> rfl
  · cases e
end

/-! ### sum of a tuple -/
section
variable {prog : Program} {w : World} {A : Around} {E : Value → Shared → Prop} {s : Shared} {l : Addr}
theorem sum_tupRaw {its : List Value} {ns : List Int} {Q : Value → Shared → Prop} (hh : A.handled = none) (hl : s.heap.IsTuple l its.toArray) (hi : IntsAre its ns)
    (h : ∀ h' tk t', (∀ b o, s.heap.get? b = some o → h'.get? b = some o) → Q (.int ns.sum t') { s with heap := h', toks := tk }) : wpAny (model prog w) A (call (.builtin "sum") [.ref l]) Q E s := by
  obtain ⟨xs, e⟩ := hi.allInts.items
  have hn : numsOf (intItems xs).toList = ns := by rw [← e]; exact hi.numsOf
  rw [nums_intItems] at hn
  rw [e] at hl
  have hlt : l < s.heap.objs.size := by obtain ⟨_, e, _⟩ := hl; exact Heap.lt_size e
  have hne : l ≠ s.heap.objs.size := Nat.ne_of_lt hlt
  refine call_sum_walkG (wpAny_pyIter_tuple hl ?_)
  refine ⟨_, _, _, _, _, _, numAt xs, rfl, Walks.tuple (A := A.in1) hh _ l hne (intItems xs), ⟨⟨_, Heap.get?_push_size _ rfl, rfl, rfl⟩, hl.push _⟩, fun b hb => ?_, (fun _ _ => intItems_at), fun h' tk t' hk => ?_⟩
  · show b < (s.heap.push _).objs.size
    rw [Heap.size_push]
    rcases List.mem_cons.mp hb with rfl | hb
    · exact Nat.lt_succ_self _
    · rcases List.mem_cons.mp hb with rfl | hb
      · exact Nat.lt_succ_of_lt hlt
      · cases hb
  · have := h h' tk t' fun b o e => hk b o (fun z => by
      rcases List.mem_cons.mp z with rfl | z
      · exact Nat.lt_irrefl _ (Heap.lt_size e)
      · cases z) (Heap.get?_push_of_some _ e)
    have e2 : preSum (numAt xs) (intItems xs).size = ns.sum := by
      rw [show (intItems xs).size = xs.size by simp [intItems], preSum_eq, List.take_of_length_le (by simp), hn]
    rw [e2]
    exact this
end
theorem cr_sumT {X : Cx} (hc : X.calm = true) : CallR X (.builtin "sum") (fun vs H Q => ∃ (a : Addr) (ns : List Int), vs = [V.ref a] ∧ SqT X.K H a (ns.map V.int) ∧ Q (.int ns.sum) H) := by
  intro pins s σ H vs us Q I r h
  obtain ⟨a, ns, rfl, hs, q⟩ := h
  obtain ⟨its, rv, hl, _⟩ := I.tuple hs
  rw [Vals.ref1 r]
  exact sum_tupRaw (I.ok.hd hc) hl rv.ints fun h' tk t' hk => ⟨.int _, H, I.kept hk, ⟨_, rfl⟩, q⟩
end Vi
/-! Vi, built-ins. -/
namespace Vi
open PySem PySem.Spec PyProof.Rows L2

def tyNm : Ty → String
  | .int => "int" | .bool => "bool" | .str => "str" | .tuple => "tuple" | .list => "list" | .cls _ => "object"
/-- the built-in's value, the built-in's name -/
def bltV : Blt → Value
  | .len => .builtin "len" | .sum => .builtin "sum" | .all => .builtin "all" | .any => .builtin "any" | .abs => .builtin "abs"
  | .min => .builtin "min" | .max => .builtin "max" | .int => .type "int" | .str => .type "str" | .tuple => .type "tuple" | .list => .type "list"
  | .isi _ => .builtin "isinstance"
def isIsi : Blt → Bool
  | .isi _ => true
  | _ => false

section
variable {X : Cx} {R : Rc} {D H : Hp} {ι : List Addr}
theorem VwL.one {p : P} {vs : List V} (h : VwL R D ι H [p] vs) : ∃ v, vs = [v] ∧ Vw R D ι H p v := by
  cases h with
  | cons a b => cases b; exact ⟨_, rfl, a⟩
theorem VwL.two {p q : P} {vs : List V} (h : VwL R D ι H [p, q] vs) : ∃ v w, vs = [v, w] ∧ Vw R D ι H p v ∧ Vw R D ι H q w := by
  cases h with
  | cons a b =>
    cases b with
    | cons c d => cases d; exact ⟨_, _, rfl, a, c⟩

def rBl (R : Rc) (sub : Nat → Nat → Bool) (b : Blt) : List V → Hp → VK → Prop := fun vs H Q => ∃ D ι ps v, Sub D H ∧ VwL R D ι H ps vs ∧ blt sub b ps = some v ∧ Out R D ι H v Q
theorem call_blt (hK : R.K = X.K) (hc : X.calm = true) (sub : Nat → Nat → Bool) (b : Blt) (nb : isIsi b = false) : CallR X (bltV b) (rBl R sub b) := by
  intro pins s σ H xs us Q I rx h
  obtain ⟨D, ι, ps, v, hD, vl, hb, out⟩ := h
  unfold blt at hb
  split at hb
  · split at hb
    · cases hb
      rename_i hz
      obtain ⟨x, rfl, vx⟩ := vl.one
      cases vx.toStr
      exact call_len_str pins s σ H _ us Q I rx ⟨_, rfl, lim_eq ▸ hz, out.at (.int _)⟩
    · cases hb
  · cases hb
    obtain ⟨x, rfl, vx⟩ := vl.one
    obtain ⟨a, ws, rfl, ra, la, zvx⟩ := vx.lst hD
    have := out.at (.int _)
    rw [← la.length] at this
    exact call_len_seq pins s σ H _ us Q I rx ⟨a, ws, rfl, .inl (.inl ra), this⟩
  · cases hb
    obtain ⟨x, rfl, vx⟩ := vl.one
    obtain ⟨a, ws, rfl, ra, la, _, zvx⟩ := vx.tup hD
    have := out.at (.int _)
    rw [← la.length] at this
    exact call_len_seq pins s σ H _ us Q I rx ⟨a, ws, rfl, .inr (hK ▸ ra), this⟩
  · obtain ⟨x, rfl, vx⟩ := vl.one
    obtain ⟨a, ws, rfl, ra, la, zvx⟩ := vx.lst hD
    obtain ⟨l, el, ev⟩ := Option.map_eq_some_iff.mp hb
    subst ev
    rw [la.ints el] at ra
    exact cr_sum hc pins s σ H _ us Q I rx ⟨a, l, rfl, .inl ra, out.at (.int _)⟩
  · obtain ⟨x, rfl, vx⟩ := vl.one
    obtain ⟨a, ws, rfl, ra, la, _, zvx⟩ := vx.tup hD
    obtain ⟨l, el, ev⟩ := Option.map_eq_some_iff.mp hb
    subst ev
    rw [la.ints el] at ra
    exact cr_sumT hc pins s σ H _ us Q I rx ⟨a, l, rfl, hK ▸ ra, out.at (.int _)⟩
  · obtain ⟨x, rfl, vx⟩ := vl.one
    obtain ⟨a, ws, rfl, ra, la, zvx⟩ := vx.lst hD
    obtain ⟨l, el, ev⟩ := Option.map_eq_some_iff.mp hb
    subst ev
    rw [la.bools el] at ra
    exact cr_all hc pins s σ H _ us Q I rx ⟨a, l, rfl, .inl ra, out.at (.bl _)⟩
  · obtain ⟨x, rfl, vx⟩ := vl.one
    obtain ⟨a, ws, rfl, ra, la, zvx⟩ := vx.lst hD
    obtain ⟨l, el, ev⟩ := Option.map_eq_some_iff.mp hb
    subst ev
    rw [la.bools el] at ra
    exact cr_any hc pins s σ H _ us Q I rx ⟨a, l, rfl, .inl ra, out.at (.bl _)⟩
  · cases hb
    obtain ⟨x, rfl, vx⟩ := vl.one
    cases vx.toInt
    exact call_abs pins s σ H _ us Q I rx ⟨_, rfl, out.at (.int _)⟩
  · cases hb
    obtain ⟨x, y, rfl, vx, vy⟩ := vl.two
    cases vx.toInt
    cases vy.toInt
    exact call_min2 hc pins s σ H _ us Q I rx ⟨_, _, rfl, out.at (.int _)⟩
  · cases hb
    obtain ⟨x, y, rfl, vx, vy⟩ := vl.two
    cases vx.toInt
    cases vy.toInt
    exact call_max2 hc pins s σ H _ us Q I rx ⟨_, _, rfl, out.at (.int _)⟩
  · cases hb
    obtain ⟨x, rfl, vx⟩ := vl.one
    cases vx.toInt
    exact call_int1 pins s σ H _ us Q I rx (.inl ⟨_, rfl, out.at (.int _)⟩)
  · cases hb
    obtain ⟨x, rfl, vx⟩ := vl.one
    cases vx.toBl
    exact call_int1 pins s σ H _ us Q I rx (.inr ⟨_, rfl, out.at (.int _)⟩)
  · split at hb
    · cases hb
      rename_i hz
      obtain ⟨x, rfl, vx⟩ := vl.one
      cases vx.toInt
      exact call_str_int pins s σ H _ us Q I rx ⟨_, rfl, hz, out.at (.str _)⟩
    · cases hb
  · cases hb
    obtain ⟨x, rfl, vx⟩ := vl.one
    obtain ⟨a, ws, rfl, ra, la, zvx⟩ := vx.lst hD
    exact call_tuple_of pins s σ H _ us Q I rx ⟨a, ws, rfl, .inl ⟨.inl ra, fun l hl => out.newT hD la hl zvx⟩⟩
  · cases hb
    obtain ⟨x, rfl, vx⟩ := vl.one
    obtain ⟨a, ws, rfl, ra, la, wa, zvx⟩ := vx.tup hD
    exact call_tuple_of pins s σ H _ us Q I rx ⟨a, ws, rfl, .inr ⟨hK ▸ ra, out.at wa⟩⟩
  · cases hb
    obtain ⟨x, rfl, vx⟩ := vl.one
    obtain ⟨a, ws, rfl, ra, la, zvx⟩ := vx.lst hD
    exact call_list_of pins s σ H _ us Q I rx ⟨a, ws, rfl, .inl (.inl ra), fun l hl => out.newL hD la hl zvx⟩
  · cases hb
    obtain ⟨x, rfl, vx⟩ := vl.one
    obtain ⟨a, ws, rfl, ra, la, wa, zvx⟩ := vx.tup hD
    exact call_list_of pins s σ H _ us Q I rx ⟨a, ws, rfl, .inr (hK ▸ ra), fun l hl => out.newL hD la hl zvx⟩
  · cases hb
    obtain ⟨x, rfl, vx⟩ := vl.one
    cases vx.flat (fun _ z => by cases z) with
    | scr ra la z => exact call_list_of pins s σ H _ us Q I rx ⟨_, _, rfl, .inl (hK ▸ hD.sqL ra), fun l hl => out.newL hD la hl z⟩
  · simp [isIsi] at nb
  · cases hb

/-! isinstance with a built-in class -/
theorem tyOf_tup {a : Addr} {vs : List V} (h : SqT X.K H a vs) : TyX X.K H (.ref a) (.type "tuple") := by
  rcases h with h | ⟨o, its, n, hk, hc, _⟩
  · rcases h with h | ⟨o, h⟩
    · exact .base (.tup h)
    · exact .fTuple h
  · exact .kTuple hk hc
theorem tyOf_lst {a : Addr} {vs : List V} (h : Rd H a (.lst vs)) : TyX X.K H (.ref a) (.type "list") := by
  rcases h with h | ⟨o, h⟩
  · exact .base (.lst h)
  · exact .base (.frz h)
def isCls : Ty → Bool
  | .cls _ => true
  | _ => false
theorem call_isiB (hK : R.K = X.K) (sub : Nat → Nat → Bool) (t : Ty) (nt : isCls t = false) :
    CallR X (.builtin "isinstance") (fun vs H Q => ∃ D ι p x v, vs = [x, .ty (tyNm t)] ∧ Sub D H ∧ Vw R D ι H p x ∧ isi sub p t = some v ∧ Q (.bl v) H) := by
  intro pins s σ H xs us Q I rx h
  obtain ⟨D, ι, p, x, v, rfl, hD, vx, hb, out⟩ := h
  have go : ∀ {ty : String}, TyX X.K H x (.type ty) → kitB ty (tyNm t) = some v → wpAny (model X.prog X.w) X.A (call (.builtin "isinstance") us) (EP X pins σ Q) X.xe s := fun {ty} h1 h2 =>
    call_isi pins s σ H _ us Q I rx ⟨x, _, _, _, v, rfl, .ty _, h1, kit_ty h2, out⟩
  cases t with
  | cls c => simp [isCls] at nt
  | int =>
    cases p <;> simp only [isi] at hb <;> first
      | (cases hb; done)
      | (cases hb; cases vx.toNon; exact go (.base .non) (by decide +kernel))
      | (cases hb; cases vx.toBl; exact go (.base (.bl _)) (by decide +kernel))
      | (cases hb; cases vx.toInt; exact go (.base (.int _)) (by decide +kernel))
      | (cases hb; cases vx.toStr; exact go (.base (.str _)) (by decide +kernel))
      | (cases hb; obtain ⟨a, ws, rfl, ra, la, _, zvx⟩ := vx.tup hD; exact go (tyOf_tup (hK ▸ ra)) (by decide +kernel))
      | (cases hb; obtain ⟨a, ws, rfl, ra, la, zvx⟩ := vx.lst hD; exact go (tyOf_lst ra) (by decide +kernel))
  | bool =>
    cases p <;> simp only [isi] at hb <;> first
      | (cases hb; done)
      | (cases hb; cases vx.toNon; exact go (.base .non) (by decide +kernel))
      | (cases hb; cases vx.toBl; exact go (.base (.bl _)) (by decide +kernel))
      | (cases hb; cases vx.toInt; exact go (.base (.int _)) (by decide +kernel))
      | (cases hb; cases vx.toStr; exact go (.base (.str _)) (by decide +kernel))
      | (cases hb; obtain ⟨a, ws, rfl, ra, la, _, zvx⟩ := vx.tup hD; exact go (tyOf_tup (hK ▸ ra)) (by decide +kernel))
      | (cases hb; obtain ⟨a, ws, rfl, ra, la, zvx⟩ := vx.lst hD; exact go (tyOf_lst ra) (by decide +kernel))
  | str =>
    cases p <;> simp only [isi] at hb <;> first
      | (cases hb; done)
      | (cases hb; cases vx.toNon; exact go (.base .non) (by decide +kernel))
      | (cases hb; cases vx.toBl; exact go (.base (.bl _)) (by decide +kernel))
      | (cases hb; cases vx.toInt; exact go (.base (.int _)) (by decide +kernel))
      | (cases hb; cases vx.toStr; exact go (.base (.str _)) (by decide +kernel))
      | (cases hb; obtain ⟨a, ws, rfl, ra, la, _, zvx⟩ := vx.tup hD; exact go (tyOf_tup (hK ▸ ra)) (by decide +kernel))
      | (cases hb; obtain ⟨a, ws, rfl, ra, la, zvx⟩ := vx.lst hD; exact go (tyOf_lst ra) (by decide +kernel))
  | tuple =>
    cases p <;> simp only [isi] at hb <;> first
      | (cases hb; done)
      | (cases hb; cases vx.toNon; exact go (.base .non) (by decide +kernel))
      | (cases hb; cases vx.toBl; exact go (.base (.bl _)) (by decide +kernel))
      | (cases hb; cases vx.toInt; exact go (.base (.int _)) (by decide +kernel))
      | (cases hb; cases vx.toStr; exact go (.base (.str _)) (by decide +kernel))
      | (cases hb; obtain ⟨a, ws, rfl, ra, la, _, zvx⟩ := vx.tup hD; exact go (tyOf_tup (hK ▸ ra)) (by decide +kernel))
      | (cases hb; obtain ⟨a, ws, rfl, ra, la, zvx⟩ := vx.lst hD; exact go (tyOf_lst ra) (by decide +kernel))
  | list =>
    cases p <;> simp only [isi] at hb <;> first
      | (cases hb; done)
      | (cases hb; cases vx.toNon; exact go (.base .non) (by decide +kernel))
      | (cases hb; cases vx.toBl; exact go (.base (.bl _)) (by decide +kernel))
      | (cases hb; cases vx.toInt; exact go (.base (.int _)) (by decide +kernel))
      | (cases hb; cases vx.toStr; exact go (.base (.str _)) (by decide +kernel))
      | (cases hb; obtain ⟨a, ws, rfl, ra, la, _, zvx⟩ := vx.tup hD; exact go (tyOf_tup (hK ▸ ra)) (by decide +kernel))
      | (cases hb; obtain ⟨a, ws, rfl, ra, la, zvx⟩ := vx.lst hD; exact go (tyOf_lst ra) (by decide +kernel))

/-! methods -/
def rMth (R : Rc) (m : Mth) : V → List V → Hp → VK → Prop := fun x vs H Q => ∃ D ι p ps v, Sub D H ∧ Vw R D ι H p x ∧ VwL R D ι H ps vs ∧ mth m p ps = some v ∧ Out R D ι H v Q
theorem mt_mjoin (hK : R.K = X.K) : MtR X "str.join" (rMth R .join) := by
  intro pins s σ H x xs v us Q I rx rv h
  obtain ⟨D, ι, p, ps, z, hD, vx, vv, hb, out⟩ := h
  unfold mth at hb
  split at hb
  · split at hb
    · split at hb
      · cases hb
        rename_i ys hys hz
        obtain ⟨y, rfl, vy⟩ := vv.one
        cases vx.toStr
        obtain ⟨a, ws, rfl, ra, la, zvy⟩ := vy.lst hD
        rw [la.strs hys] at ra
        exact mt_join pins s σ H _ _ v us Q I rx rv ⟨_, a, ys, rfl, rfl, .inl (.inl ra), hz, out.at (.str _)⟩
      · cases hb
    · cases hb
  · cases hb

end
end Vi
/-! Vi, expressions, construct by construct. -/
namespace Vi
open PySem PySem.Spec PyProof.Rows L2

theorem _root_.L2.PE.imp {X : Cx} {e : Expr} {t t' : TE} (h : PE X e t) (i : ∀ σ H Q, t' σ H Q → t σ H Q) : PE X e t' := ⟨fun pins s σ H Q I q => h.run pins s σ H Q I (i σ H Q q)⟩
theorem _root_.L2.PT.imp {X : Cx} {e : Expr} {t t' : TT} (h : PT X e t) (i : ∀ σ H Q, t' σ H Q → t σ H Q) : PT X e t' := ⟨fun pins s σ H Q I q => h.run pins s σ H Q I (i σ H Q q)⟩
theorem _root_.L2.PW.imp {X : Cx} {e : Expr} {t t' : TT} (h : PW X e t) (i : ∀ σ H Q, t' σ H Q → t σ H Q) : PW X e t' := ⟨fun wh pins s σ H Q I q => h.run wh pins s σ H Q I (i σ H Q q)⟩
theorem _root_.L2.PA.imp {X : Cx} {e : List Expr} {t t' : TA} (h : PA X e t) (i : ∀ σ H Q, t' σ H Q → t σ H Q) : PA X e t' := ⟨fun pos pins s σ H Q I q => h.run pos pins s σ H Q I (i σ H Q q)⟩

/-- how an exception lies -/
def ExR (R : Rc) (W : Wd) (H : Hp) (e : Ex) (cv : Value) (oe : Option Addr) : Prop := ∃ C, R.cad e.c = some C ∧ cv = .ref C ∧ oe = none ∧ e.a = .non

/-- where one stands: the representation, the tables, the entry, what is wanted of an exception -/
structure Wh where
  R : Rc
  T : List (Addr × Str)
  N : En
  E : XK
section
variable (Γ : Wh)
def GC {α β : Type} (rel : Env → L2.St → Wd → α → β → Prop) (ρ : Env) (σ : L2.St) (W : Wd) (r : Rs α) (Q : β → Hp → Prop) : Prop := match r with
  | .ok a S' => ∀ x W' H', W'.S = S' → W.le W' → J Γ.R Γ.T Γ.N ρ W' σ H' → rel ρ σ W' a x → Q x H'
  | .err e S' => ∀ cv oe W' H', W'.S = S' → B Γ.R Γ.T Γ.N W' H' → ExR Γ.R W' H' e cv oe → Γ.E cv oe H'
  | .no => False
def tG {α β : Type} (rel : Env → L2.St → Wd → α → β → Prop) (d : Env → M α) (σ : L2.St) (H : Hp) (Q : β → Hp → Prop) : Prop := ∃ ρ W, J Γ.R Γ.T Γ.N ρ W σ H ∧ GC Γ rel ρ σ W (d ρ W.S) Q
def relE : Env → L2.St → Wd → P → V → Prop := fun _ _ W p x => Rp Γ.R W.D W.ι p x
def relO : Env → L2.St → Wd → P → V → Prop := fun ρ σ W p x => OpV Γ.R ρ σ W p x
def relEs : Env → L2.St → Wd → List P → List V → Prop := fun _ _ W p x => RpL Γ.R W.D W.ι p x
def relOs : Env → L2.St → Wd → List P → List V → Prop := fun ρ σ W p x => OpL Γ.R ρ σ W p x
def relT : Env → L2.St → Wd → Bool → Bool → Prop := fun _ _ _ p x => p = x
abbrev tE (d : Env → M P) : TE := tG Γ (relE Γ) d
abbrev tO (d : Env → M P) : TE := tG Γ (relO Γ) d
abbrev tEs (d : Env → M (List P)) : TA := tG Γ (relEs Γ) d
abbrev tOs (d : Env → M (List P)) : TA := tG Γ (relOs Γ) d
abbrev tT (d : Env → M Bool) : TT := tG Γ relT d
end
section
variable {Γ : Wh} {α β γ δ : Type} {rel : Env → L2.St → Wd → α → β → Prop} {rel' : Env → L2.St → Wd → γ → δ → Prop} {ρ : Env} {σ : L2.St} {W W1 : Wd} {H : Hp}
theorem GC.imp {r : Rs α} {Q Q' : β → Hp → Prop} (h : GC Γ rel ρ σ W r Q) (i : ∀ x H, Q x H → Q' x H) : GC Γ rel ρ σ W r Q' := by
  cases r with
  | ok a S => exact fun x W' H' e l j q => i _ _ (h x W' H' e l j q)
  | err e S => exact h
  | no => exact h
theorem GC.le {r : Rs α} {Q : β → Hp → Prop} (h : GC Γ rel ρ σ W r Q) (l : W.le W1) : GC Γ rel ρ σ W1 r Q := by
  cases r with
  | ok a S => exact fun x W' H' e l' j q => h x W' H' e (l.trans l') j q
  | err e S => exact h
  | no => exact h
theorem GC.bind {m : M α} {f : α → M γ} {Q : δ → Hp → Prop} (h : GC Γ rel' ρ σ W (m.bind f W.S) Q) :
    GC Γ rel ρ σ W (m W.S) (fun x H1 => ∃ a W1, J Γ.R Γ.T Γ.N ρ W1 σ H1 ∧ W.le W1 ∧ rel ρ σ W1 a x ∧ GC Γ rel' ρ σ W1 (f a W1.S) Q) := by
  unfold M.bind at h
  cases e : m W.S with
  | ok a S =>
    rw [e] at h
    refine fun x W' H' e l j q => ⟨a, W', j, l, q, ?_⟩
    rw [e]
    exact GC.le h l
  | err x S => rw [e] at h; exact h
  | no => rw [e] at h; exact h
/-- a pure result -/
theorem GC.out {v : P} {Q : VK} (j : J Γ.R Γ.T Γ.N ρ W σ H) (h : GC Γ (relE Γ) ρ σ W (.ok v W.S) Q) : Out Γ.R W.D W.ι H v Q :=
  ⟨fun x r => h x W H rfl (.refl _) j r, fun a o n nt r => h (.ref a) ⟨upd W.D a o, W.ι, W.S⟩ _ rfl (laid_le j.b n) (j.laid n nt) r⟩
theorem GC.ofO {o : Option P} {Q : VK} (j : J Γ.R Γ.T Γ.N ρ W σ H) (h : GC Γ (relE Γ) ρ σ W (M.ofO o W.S) Q) : ∃ v, o = some v ∧ Out Γ.R W.D W.ι H v Q := by
  cases o with
  | none => exact (show False from h).elim
  | some v => exact ⟨v, rfl, GC.out j h⟩
theorem GC.pure {a : α} {x : β} {Q : β → Hp → Prop} (j : J Γ.R Γ.T Γ.N ρ W σ H) (h : GC Γ rel ρ σ W (M.pure a W.S) Q) (r : rel ρ σ W a x) : Q x H := h x W H rfl (.refl _) j r
end

section
variable {X : Cx} {Γ : Wh} {a b c : Expr} {pos pos' : Pos}
/-- a name that holds a value -/
theorem s_var {i : Nat} {x : Str} (hN : X.N[i]? = some x) (hv : Vis X.env.scope x) (hd : (x == ("__debug__" : Str)) = false) (hcd : (x == ("__classdict__" : Str)) = false) : PE X (.Name x pos) (tE Γ fun ρ => M.ofO (get ρ i)) := by
  refine (pe_var hN hv hd hcd).imp fun σ H Q ⟨ρ, W, j, h⟩ => ?_
  obtain ⟨v, e, o⟩ := GC.ofO j h
  unfold get at e
  split at e
  · cases e
    rename_i q
    obtain ⟨u, h1, h2⟩ := j.val i _ q
    exact ⟨u, h1, o.at h2⟩
  · cases e
theorem s_look {i : Nat} {x : Str} (hN : X.N[i]? = some x) (hv : Vis X.env.scope x) (hd : (x == ("__debug__" : Str)) = false) (hcd : (x == ("__classdict__" : Str)) = false) : PE X (.Name x pos) (tO Γ fun ρ => M.ofO (getT ρ i)) := by
  refine (pe_var hN hv hd hcd).imp fun σ H Q ⟨ρ, W, j, h⟩ => ?_
  have h : GC Γ (relO Γ) ρ σ W (M.ofO (getT ρ i) W.S) Q := h
  cases q : getT ρ i with
  | none => rw [q] at h; exact (show False from h).elim
  | some v =>
    rw [q] at h
    unfold getT at q
    split at q
    · cases q
      rename_i q
      obtain ⟨u, h1, h2⟩ := j.val i _ q
      exact ⟨u, h1, h u W H rfl (.refl _) j (.inl h2)⟩
    · cases q
      rename_i q
      obtain ⟨u, h1, h2⟩ := j.own i _ q
      exact ⟨.ref u, h1, h (.ref u) W H rfl (.refl _) j (.inr ⟨i, q, h1⟩)⟩
    · cases q
theorem _root_.L2.PE.vop {d : Env → M P} (h : PE X a (tE Γ d)) : PE X a (tO Γ d) := by
  refine h.imp fun σ H Q ⟨ρ, W, j, h⟩ => ⟨ρ, W, j, ?_⟩
  cases e : d ρ W.S with
  | ok v S =>
    rw [e] at h
    exact fun x W' H' e l j q => h x W' H' e l j (.inl q)
  | err x S => rw [e] at h; exact h
  | no => rw [e] at h; exact h
theorem s_con {p : P} {v : V} (h : PE X a (tC v)) (r : ∀ D ι, Rp Γ.R D ι p v) : PE X a (tE Γ fun _ => M.pure p) :=
  h.imp fun σ H Q ⟨ρ, W, j, q⟩ => GC.pure j q (r _ _)
theorem s_op {o : Bop} {da db : Env → M P} (hK : Γ.R.K = X.K) (ha : PE X a (tO Γ da)) (hb : PE X b (tO Γ db)) : PE X (.BinOp a (opOf o) b pos) (tE Γ fun ρ => (da ρ).bind fun x => (db ρ).bind fun y => M.ofO (bop o x y)) := by
  refine (pe_op (op_bop hK o) ha hb).imp fun σ H Q ⟨ρ, W, j, h⟩ => ?_
  refine ⟨ρ, W, j, GC.imp (GC.bind h) fun x H1 ⟨p, W1, j1, l1, r1, h1⟩ => ⟨ρ, W1, j1, GC.imp (GC.bind h1) fun y H2 ⟨q, W2, j2, l2, r2, h2⟩ => ?_⟩⟩
  obtain ⟨v, e, o⟩ := GC.ofO j2 h2
  exact ⟨W2.D, W2.ι, p, q, v, j2.b.ok.sub, (OpV.mono r1 l2).vw j2, OpV.vw r2 j2, e, o⟩
theorem s_cmp {o : Cop} {da db : Env → M P} (hK : Γ.R.K = X.K) (hu : X.A.units + 65 < cLine) (hm : behindInMarks (cmpOf o) b = false) (ha : PE X a (tO Γ da)) (hb : PE X b (tO Γ db)) : PE X (.Compare a [cmpOf o] [b] pos) (tE Γ fun ρ => (da ρ).bind fun x => (db ρ).bind fun y => M.ofO ((cop o x y).map .bl)) := by
  refine (pe_cmpR (op_cop hK hu o) ha hb hm).imp fun σ H Q ⟨ρ, W, j, h⟩ => ?_
  refine ⟨ρ, W, j, GC.imp (GC.bind h) fun x H1 ⟨p, W1, j1, l1, r1, h1⟩ => ⟨ρ, W1, j1, GC.imp (GC.bind h1) fun y H2 ⟨q, W2, j2, l2, r2, h2⟩ => ?_⟩⟩
  obtain ⟨v, e, o⟩ := GC.ofO j2 h2
  obtain ⟨k, ek, ev⟩ := Option.map_eq_some_iff.mp e
  subst ev
  exact ⟨W2.D, W2.ι, p, q, k, j2.b.ok.sub, (OpV.mono r1 l2).vw j2, OpV.vw r2 j2, ek, o.at (.bl _)⟩
theorem s_chn {o o' : Cop} {da db dc : Env → M P} (hK : Γ.R.K = X.K) (hu : X.A.units + 65 < cLine) (hm : lastMarks [cmpOf o, cmpOf o'] [b, c] = false) (ha : PE X a (tE Γ da)) (hb : PE X b (tE Γ db)) (hc : PE X c (tE Γ dc)) :
    PE X (.Compare a [cmpOf o, cmpOf o'] [b, c] pos) (tE Γ fun ρ => (da ρ).bind fun x => (db ρ).bind fun y => (M.ofO (cop o x y)).bind fun k => if k then (dc ρ).bind fun z => M.ofO ((cop o' y z).map .bl) else M.pure (.bl false)) := by
  refine (pe_chain (op_cop hK hu o) (op_cop hK hu o') ha hb hc hm).imp fun σ H Q ⟨ρ, W, j, h⟩ => ?_
  refine ⟨ρ, W, j, GC.imp (GC.bind h) fun x H1 ⟨p, W1, j1, l1, r1, h1⟩ => ⟨ρ, W1, j1, GC.imp (GC.bind h1) fun y H2 ⟨q, W2, j2, l2, r2, h2⟩ => ?_⟩⟩
  cases e : cop o p q with
  | none => rw [e] at h2; exact (show False from h2).elim
  | some k =>
    rw [e] at h2
    refine ⟨W2.D, W2.ι, p, q, k, j2.b.ok.sub, .inl (Rp.mono l2.1 l2.2 r1), .inl r2, e, k, rfl, ?_⟩
    have h3 : GC Γ (relE Γ) ρ σ W2 ((if k then (dc ρ).bind fun z => M.ofO ((cop o' q z).map .bl) else M.pure (.bl false)) W2.S) Q := h2
    cases k with
    | false => exact GC.pure j2 h3 (.bl _)
    | true =>
      refine ⟨ρ, W2, j2, GC.imp (GC.bind h3) fun z H3 ⟨r, W3, j3, l3, r3, h4⟩ => ?_⟩
      obtain ⟨v, ev, out⟩ := GC.ofO j3 h4
      obtain ⟨k', ek, ev⟩ := Option.map_eq_some_iff.mp ev
      subst ev
      exact ⟨W3.D, W3.ι, q, r, k', j3.b.ok.sub, .inl (Rp.mono l3.1 l3.2 r2), .inl r3, ek, out.at (.bl _)⟩
theorem s_neg {da : Env → M P} (ha : PE X a (tE Γ da)) : PE X (.UnaryOp .USub a pos) (tE Γ fun ρ => (da ρ).bind fun
      | .int i => M.pure (.int (-i))
      | _ => M.no) := by
  refine (pe_un un_neg ha).imp fun σ H Q ⟨ρ, W, j, h⟩ => ?_
  refine ⟨ρ, W, j, GC.imp (GC.bind h) fun x H1 ⟨p, W1, j1, l1, r1, h1⟩ => ?_⟩
  cases p with
  | int i =>
    cases r1
    exact ⟨i, rfl, GC.pure j1 h1 (.int _)⟩
  | _ => exact (show False from h1).elim
theorem s_and {d1 d2 : Env → M P} {rest : List Expr} (ha : PE X a (tE Γ d1)) (hb : PE X (.BoolOp .And (b :: rest) pos) (tE Γ d2)) : PE X (.BoolOp .And (a :: b :: rest) pos) (tE Γ fun ρ => (d1 ρ).bind fun
      | .bl true => d2 ρ
      | .bl false => M.pure (.bl false)
      | _ => M.no) := by
  refine (pe_and ha hb).imp fun σ H Q ⟨ρ, W, j, h⟩ => ?_
  refine ⟨ρ, W, j, GC.imp (GC.bind h) fun x H1 ⟨p, W1, j1, l1, r1, h1⟩ => ?_⟩
  cases p with
  | bl k =>
    cases r1
    cases k with
    | true => exact ⟨true, rfl, ρ, W1, j1, h1⟩
    | false => exact ⟨false, rfl, GC.pure j1 h1 (.bl _)⟩
  | _ => exact (show False from h1).elim
theorem s_or {d1 d2 : Env → M P} {rest : List Expr} (ha : PE X a (tE Γ d1)) (hb : PE X (.BoolOp .Or (b :: rest) pos) (tE Γ d2)) : PE X (.BoolOp .Or (a :: b :: rest) pos) (tE Γ fun ρ => (d1 ρ).bind fun
      | .bl true => M.pure (.bl true)
      | .bl false => d2 ρ
      | _ => M.no) := by
  refine (pe_or ha hb).imp fun σ H Q ⟨ρ, W, j, h⟩ => ?_
  refine ⟨ρ, W, j, GC.imp (GC.bind h) fun x H1 ⟨p, W1, j1, l1, r1, h1⟩ => ?_⟩
  cases p with
  | bl k =>
    cases r1
    cases k with
    | true => exact ⟨true, rfl, GC.pure j1 h1 (.bl _)⟩
    | false => exact ⟨false, rfl, ρ, W1, j1, h1⟩
  | _ => exact (show False from h1).elim
theorem s_ife {dt : Env → M Bool} {d1 d2 : Env → M P} (ht : PT X c (tT Γ dt)) (ha : PE X a (tE Γ d1)) (hb : PE X b (tE Γ d2)) : PE X (.IfExp c a b pos) (tE Γ fun ρ => (dt ρ).bind fun k => if k then d1 ρ else d2 ρ) := by
  refine (pe_ifExp ht ha hb).imp fun σ H Q ⟨ρ, W, j, h⟩ => ?_
  refine ⟨ρ, W, j, GC.imp (GC.bind h) fun x H1 ⟨p, W1, j1, l1, r1, h1⟩ => ?_⟩
  obtain rfl : p = x := r1
  cases p with
  | true => exact ⟨ρ, W1, j1, h1⟩
  | false => exact ⟨ρ, W1, j1, h1⟩
/-- not, of any value -/
theorem s_not {da : Env → M P} (hK : Γ.R.K = X.K) (ha : PE X a (tE Γ da)) : PE X (.UnaryOp .Not a pos) (tE Γ fun ρ => (da ρ).bind fun x => M.ofO ((truth x).map fun k => .bl (!k))) := by
  refine (pe_notT ha).imp fun σ H Q ⟨ρ, W, j, h⟩ => ?_
  refine ⟨ρ, W, j, GC.imp (GC.bind h) fun x H1 ⟨p, W1, j1, l1, r1, h1⟩ => ?_⟩
  obtain ⟨v, ev, out⟩ := GC.ofO j1 h1
  obtain ⟨k, ek, ev⟩ := Option.map_eq_some_iff.mp ev
  subst ev
  exact ⟨k, TruV_of hK j1.b.ok.sub (.inl r1) ek, out.at (.bl _)⟩
/-! tests -/
theorem t_val {da : Env → M P} (hK : Γ.R.K = X.K) (ha : PE X a (tO Γ da)) (he : ∀ whole, isTrue a X.env whole = (do let v ← whole; standAt a.pos; holding [v] (truthy v))) : PT X a (tT Γ fun ρ => (da ρ).bind fun x => M.ofO (truth x)) := by
  refine (pt_truth ha he).imp fun σ H Q ⟨ρ, W, j, h⟩ => ?_
  refine ⟨ρ, W, j, GC.imp (GC.bind h) fun x H1 ⟨p, W1, j1, l1, r1, h1⟩ => ?_⟩
  cases e : truth p with
  | none => rw [e] at h1; exact (show False from h1).elim
  | some k =>
    rw [e] at h1
    exact ⟨k, TruV_of hK j1.b.ok.sub (OpV.vw r1 j1) e, GC.pure j1 h1 rfl⟩
theorem t_cmp {o : Cop} {da db : Env → M P} (hK : Γ.R.K = X.K) (hu : X.A.units + 65 < cLine) (hm : behindInMarks (cmpOf o) b = false) (ha : PE X a (tO Γ da)) (hb : PE X b (tO Γ db)) : PT X (.Compare a [cmpOf o] [b] pos) (tT Γ fun ρ => ((da ρ).bind fun x => (db ρ).bind fun y => M.ofO ((cop o x y).map .bl)).bind fun x => M.ofO (truth x)) := by
  refine (pt_cmpR (op_cop hK hu o) ha hb hm).imp fun σ H Q ⟨ρ, W, j, h⟩ => ?_
  have h' : GC Γ relT ρ σ W (((da ρ).bind fun x => ((db ρ).bind fun y => M.ofO ((cop o x y).map .bl)).bind fun x => M.ofO (truth x)) W.S) Q := by
    have e : (((da ρ).bind fun x => (db ρ).bind fun y => M.ofO ((cop o x y).map .bl)).bind fun x => M.ofO (truth x)) = (da ρ).bind fun x => ((db ρ).bind fun y => M.ofO ((cop o x y).map P.bl)).bind fun x => M.ofO (truth x) := by
      funext S
      unfold M.bind
      cases da ρ S <;> rfl
    rw [← e]; exact h
  refine ⟨ρ, W, j, GC.imp (GC.bind h') fun x H1 ⟨p, W1, j1, l1, r1, h1⟩ => ?_⟩
  have h1' : GC Γ relT ρ σ W1 (((db ρ).bind fun y => (M.ofO ((cop o p y).map P.bl)).bind fun x => M.ofO (truth x)) W1.S) Q := by
    have e : (((db ρ).bind fun y => M.ofO ((cop o p y).map P.bl)).bind fun x => M.ofO (truth x)) = (db ρ).bind fun y => (M.ofO ((cop o p y).map P.bl)).bind fun x => M.ofO (truth x) := by
      funext S
      unfold M.bind
      cases db ρ S <;> rfl
    rw [← e]; exact h1
  refine ⟨ρ, W1, j1, GC.imp (GC.bind h1') fun y H2 ⟨q, W2, j2, l2, r2, h2⟩ => ?_⟩
  cases e : cop o p q with
  | none => rw [e] at h2; exact (show False from h2).elim
  | some k =>
    rw [e] at h2
    exact ⟨W2.D, W2.ι, p, q, k, j2.b.ok.sub, (OpV.mono r1 l2).vw j2, OpV.vw r2 j2, e, k, rfl, GC.pure j2 h2 rfl⟩
theorem t_not {d1 : Env → M Bool} (ha : PT X a (tT Γ d1)) : PT X (.UnaryOp .Not a pos) (tT Γ fun ρ => (d1 ρ).bind fun k => M.pure !k) := by
  refine (pt_not ha).imp fun σ H Q ⟨ρ, W, j, h⟩ => ?_
  refine ⟨ρ, W, j, GC.imp (GC.bind h) fun x H1 ⟨p, W1, j1, l1, r1, h1⟩ => ?_⟩
  obtain rfl : p = x := r1
  exact GC.pure j1 h1 rfl
theorem w_and {d1 d2 : Env → M Bool} {rest : List Expr} (ha : PT X a (tT Γ d1)) (hb : PW X (.BoolOp .And (b :: rest) pos) (tT Γ d2)) : PW X (.BoolOp .And (a :: b :: rest) pos) (tT Γ fun ρ => (d1 ρ).bind fun k => if k then d2 ρ else M.pure false) := by
  refine (pw_and ha hb).imp fun σ H Q ⟨ρ, W, j, h⟩ => ?_
  refine ⟨ρ, W, j, GC.imp (GC.bind h) fun x H1 ⟨p, W1, j1, l1, r1, h1⟩ => ?_⟩
  obtain rfl : p = x := r1
  cases p with
  | true => exact ⟨ρ, W1, j1, h1⟩
  | false => exact GC.pure j1 h1 rfl
theorem w_or {d1 d2 : Env → M Bool} {rest : List Expr} (ha : PT X a (tT Γ d1)) (hb : PW X (.BoolOp .Or (b :: rest) pos) (tT Γ d2)) : PW X (.BoolOp .Or (a :: b :: rest) pos) (tT Γ fun ρ => (d1 ρ).bind fun k => if k then M.pure true else d2 ρ) := by
  refine (pw_or ha hb).imp fun σ H Q ⟨ρ, W, j, h⟩ => ?_
  refine ⟨ρ, W, j, GC.imp (GC.bind h) fun x H1 ⟨p, W1, j1, l1, r1, h1⟩ => ?_⟩
  obtain rfl : p = x := r1
  cases p with
  | true => exact GC.pure j1 h1 rfl
  | false => exact ⟨ρ, W1, j1, h1⟩
/-! arguments -/
theorem a_nil : PA X [] (tEs Γ fun _ => M.pure []) := pa_nil.imp fun σ H Q ⟨ρ, W, j, h⟩ => GC.pure j h .nil
theorem a_cons {da : Env → M P} {ds : Env → M (List P)} {es : List Expr} (ha : PE X a (tE Γ da)) (hs : PA X es (tEs Γ ds)) (hst : starEach (a :: es) X.env = (false, eval a X.env) :: starEach es X.env) :
    PA X (a :: es) (tEs Γ fun ρ => (da ρ).bind fun x => (ds ρ).bind fun xs => M.pure (x :: xs)) := by
  refine (pa_cons ha hs hst).imp fun σ H Q ⟨ρ, W, j, h⟩ => ?_
  refine ⟨ρ, W, j, GC.imp (GC.bind h) fun x H1 ⟨p, W1, j1, l1, r1, h1⟩ => ⟨ρ, W1, j1, GC.imp (GC.bind h1) fun y H2 ⟨q, W2, j2, l2, r2, h2⟩ => ?_⟩⟩
  exact GC.pure j2 h2 (.cons (Rp.mono l2.1 l2.2 r1) r2)
theorem o_nil : PA X [] (tOs Γ fun _ => M.pure []) := pa_nil.imp fun σ H Q ⟨ρ, W, j, h⟩ => GC.pure j h .nil
theorem o_cons {da : Env → M P} {ds : Env → M (List P)} {es : List Expr} (ha : PE X a (tO Γ da)) (hs : PA X es (tOs Γ ds)) (hst : starEach (a :: es) X.env = (false, eval a X.env) :: starEach es X.env) :
    PA X (a :: es) (tOs Γ fun ρ => (da ρ).bind fun x => (ds ρ).bind fun xs => M.pure (x :: xs)) := by
  refine (pa_cons ha hs hst).imp fun σ H Q ⟨ρ, W, j, h⟩ => ?_
  refine ⟨ρ, W, j, GC.imp (GC.bind h) fun x H1 ⟨p, W1, j1, l1, r1, h1⟩ => ⟨ρ, W1, j1, GC.imp (GC.bind h1) fun y H2 ⟨q, W2, j2, l2, r2, h2⟩ => ?_⟩⟩
  exact GC.pure j2 h2 (.cons (OpV.mono r1 l2) r2)
/-! displays -/
theorem s_tup {ds : Env → M (List P)} {es : List Expr} {k : Nat} (h : PA X es (tEs Γ ds)) : PE X (.Tuple es k pos) (tE Γ fun ρ => (ds ρ).bind fun xs => if xs.length ≤ lim then M.pure (.tup xs) else M.no) := by
  refine (pe_tup h).imp fun σ H Q ⟨ρ, W, j, h⟩ => ?_
  refine ⟨ρ, W, j, GC.imp (GC.bind h) fun x H1 ⟨p, W1, j1, l1, r1, h1⟩ => ?_⟩
  by_cases hz : p.length ≤ lim
  · rw [if_pos hz] at h1
    exact ⟨by rw [RpL.length r1]; exact lim_eq ▸ hz, fun q hq => (GC.out j1 h1).newT j1.b.ok.sub r1 hq hz⟩
  · rw [if_neg hz] at h1; exact (show False from h1).elim
theorem s_lst {ds : Env → M (List P)} {es : List Expr} (h : PA X es (tEs Γ ds)) : PE X (.List es pos) (tE Γ fun ρ => (ds ρ).bind fun xs => if xs.length ≤ lim then M.pure (.lst xs) else M.no) := by
  refine (pe_lst h).imp fun σ H Q ⟨ρ, W, j, h⟩ => ?_
  refine ⟨ρ, W, j, GC.imp (GC.bind h) fun x H1 ⟨p, W1, j1, l1, r1, h1⟩ => ?_⟩
  by_cases hz : p.length ≤ lim
  · rw [if_pos hz] at h1
    exact ⟨by rw [RpL.length r1]; exact lim_eq ▸ hz, fun q hq => (GC.out j1 h1).newL j1.b.ok.sub r1 hq hz⟩
  · rw [if_neg hz] at h1; exact (show False from h1).elim

/-! calls of built-ins -/
theorem s_blt {T : Blt} {ds : Env → M (List P)} {x : Str} {es : List Expr} {sub : Nat → Nat → Bool} {id : String} (hK : Γ.R.K = X.K) (hc : X.calm = true) (nb : isIsi T = false) (hV : bltV T = .builtin id)
    (hg : Gl X x) (hm : X.mg x = none) (hv : bootBuiltins x = some (.builtin id)) (ha : PA X (a :: es) (tOs Γ ds)) (hn : x ≠ "__name__") (hdb : (x == ("__debug__" : Str)) = false)
    (he : starEach (a :: es) X.env = (false, eval a X.env) :: starEach es X.env) (hpl : (backTo pos (starEach es X.env)).any (·.1) = false) :
    PE X (.Call (.Name x pos') (a :: es) [] pos) (tE Γ fun ρ => (ds ρ).bind fun xs => M.ofO (blt sub T xs)) := by
  refine (pe_callB (r := rBl Γ.R sub T) (hV ▸ call_blt hK hc sub T nb) hg hm hv ha hn hdb he hpl).imp fun σ H Q ⟨ρ, W, j, h⟩ => ?_
  refine ⟨ρ, W, j, GC.imp (GC.bind h) fun x H1 ⟨p, W1, j1, l1, r1, h1⟩ => ?_⟩
  obtain ⟨v, ev, out⟩ := GC.ofO j1 h1
  exact ⟨W1.D, W1.ι, p, v, j1.b.ok.sub, OpL.vw j1 r1, ev, out⟩
theorem s_bltT {T : Blt} {ds : Env → M (List P)} {x : Str} {es : List Expr} {sub : Nat → Nat → Bool} {id : String} (hK : Γ.R.K = X.K) (hc : X.calm = true) (nb : isIsi T = false) (hV : bltV T = .type id)
    (hg : Gl X x) (hm : X.mg x = none) (hv : bootBuiltins x = some (.type id)) (ha : PA X (a :: es) (tOs Γ ds)) (hn : x ≠ "__name__") (hdb : (x == ("__debug__" : Str)) = false)
    (he : starEach (a :: es) X.env = (false, eval a X.env) :: starEach es X.env) (hpl : (backTo pos (starEach es X.env)).any (·.1) = false) :
    PE X (.Call (.Name x pos') (a :: es) [] pos) (tE Γ fun ρ => (ds ρ).bind fun xs => M.ofO (blt sub T xs)) := by
  refine (pe_callTy (r := rBl Γ.R sub T) (hV ▸ call_blt hK hc sub T nb) hg hm hv ha hn hdb he hpl).imp fun σ H Q ⟨ρ, W, j, h⟩ => ?_
  refine ⟨ρ, W, j, GC.imp (GC.bind h) fun x H1 ⟨p, W1, j1, l1, r1, h1⟩ => ?_⟩
  obtain ⟨v, ev, out⟩ := GC.ofO j1 h1
  exact ⟨W1.D, W1.ι, p, v, j1.b.ok.sub, OpL.vw j1 r1, ev, out⟩
/-- isinstance(e, T), T a built-in class -/
theorem s_isi {t : Ty} {da : Env → M P} {x y : Str} {py : Pos} {sub : Nat → Nat → Bool} (hK : Γ.R.K = X.K) (nt : isCls t = false)
    (hg : Gl X x) (hm : X.mg x = none) (hv : bootBuiltins x = some (.builtin "isinstance")) (hgy : Gl X y) (hmy : X.mg y = none) (hvy : bootBuiltins y = some (.type (tyNm t))) (ha : PE X a (tO Γ da)) (hn : x ≠ "__name__") (hdb : (x == ("__debug__" : Str)) = false)
    (hny : y ≠ "__name__") (hdby : (y == ("__debug__" : Str)) = false) (he : starEach [a, .Name y py] X.env = (false, eval a X.env) :: starEach [.Name y py] X.env) :
    PE X (.Call (.Name x pos') [a, .Name y py] [] pos) (tE Γ fun ρ => ((da ρ).bind fun p => M.pure [p]).bind fun xs => M.ofO (blt sub (.isi t) xs)) := by
  have hty : PE X (.Name y py) (tC (.ty (tyNm t))) := pe_bltn hgy hmy hvy rfl hny hdby
  refine (pe_callB (call_isiB hK sub t nt) hg hm hv (pa_cons ha (pa_cons hty pa_nil (by rfl)) he) hn hdb he (by rfl)).imp fun σ H Q ⟨ρ, W, j, h⟩ => ?_
  have h' : GC Γ (relE Γ) ρ σ W (((da ρ).bind fun p => M.ofO ((isi sub p t).map P.bl)) W.S) Q := by
    have e : (((da ρ).bind fun p => M.pure [p]).bind fun xs => M.ofO (blt sub (.isi t) xs)) = (da ρ).bind fun p => M.ofO ((isi sub p t).map P.bl) := by
      funext S
      unfold M.bind
      cases da ρ S <;> rfl
    rw [← e]; exact h
  refine ⟨ρ, W, j, GC.imp (GC.bind h') fun x H1 ⟨p, W1, j1, l1, r1, h1⟩ => ?_⟩
  obtain ⟨v, ev, out⟩ := GC.ofO j1 h1
  obtain ⟨k, ek, ev⟩ := Option.map_eq_some_iff.mp ev
  subst ev
  exact ⟨W1.D, W1.ι, p, x, k, rfl, j1.b.ok.sub, OpV.vw r1 j1, ek, out.at (.bl _)⟩
/-! sep.join(xs) -/
theorem s_join {da : Env → M P} {ds : Env → M P} {o : Expr} {apos : Pos} (hK : Γ.R.K = X.K) (ho : PE X o (tE Γ da)) (ha : PE X a (tO Γ ds)) (hs : starEach [a] X.env = [(false, eval a X.env)])
    (hbase : attributeBase o "join" X.env (eval o X.env) = eval o X.env) (hline : (apos.endLine == pos.line) = true) :
    PE X (.Call (.Attribute o "join" apos) [a] [] pos) (tE Γ fun ρ => (da ρ).bind fun x => if mthOk .join x then ((ds ρ).bind fun y => M.pure [y]).bind fun xs => M.ofO (mth .join x xs) else M.no) := by
  refine (pe_m1 F.slot_str_join F.type_str_join (mt_mjoin hK) ho ha hs hbase hline).imp fun σ H Q ⟨ρ, W, j, h⟩ => ?_
  refine ⟨ρ, W, j, GC.imp (GC.bind h) fun x H1 ⟨p, W1, j1, l1, r1, h1⟩ => ?_⟩
  cases p with
  | str z =>
    cases r1
    refine ⟨⟨z, rfl⟩, ?_⟩
    have h1' : GC Γ (relE Γ) ρ σ W1 (((ds ρ).bind fun y => M.ofO (mth .join (.str z) [y])) W1.S) Q := by
      have e : (((ds ρ).bind fun y => M.pure [y]).bind fun xs => M.ofO (mth .join (.str z) xs)) = (ds ρ).bind fun y => M.ofO (mth .join (.str z) [y]) := by
        funext S
        unfold M.bind
        cases ds ρ S <;> rfl
      rw [← e]; exact h1
    refine ⟨ρ, W1, j1, GC.imp (GC.bind h1') fun y H2 ⟨q, W2, j2, l2, r2, h2⟩ => ?_⟩
    obtain ⟨v, ev, out⟩ := GC.ofO j2 h2
    exact ⟨W2.D, W2.ι, .str z, [q], v, j2.b.ok.sub, .inl (.str _), .cons (OpV.vw r2 j2) .nil, ev, out⟩
  | _ => exact (show False from h1).elim

/-! index -/
theorem ixN_eq (n : Nat) (i : Int) : Vi.ixN n i = L2.ixN n i := rfl
theorem atI_rel {R : Rc} {D : Hp} {ι : List Addr} {xs : List P} {vs : List V} {i : Int} {v : P} (r : RpL R D ι xs vs) (e : Vi.atI xs i = some v) : ∃ z, L2.atI vs i = some z ∧ Rp R D ι v z := by
  unfold Vi.atI at e
  unfold L2.atI
  rw [r.length, ← ixN_eq]
  cases q : Vi.ixN xs.length i with
  | none => rw [q] at e; cases e
  | some k =>
    rw [q] at e
    exact r.get e
theorem s_ix {da di : Env → M P} (hK : Γ.R.K = X.K) (ha : PE X a (tO Γ da)) (hb : PE X b (tE Γ di)) (hs : PlainIx b) : PE X (.Subscript a b pos) (tE Γ fun ρ => (da ρ).bind fun x => (di ρ).bind fun y => index x y) := by
  have rule : IxR X (fun x y H Q => rIxL X.K x y H Q ∨ rIxT X.K x y H Q ∨ rIxS x y H Q) := by
    intro value slice pins s σ H x y v u Q I rx ry h he
    rcases h with h | h | h
    · exact ix_list value slice pins s σ H x y v u Q I rx ry h he
    · exact ix_tup value slice pins s σ H x y v u Q I rx ry h he
    · exact ix_str value slice pins s σ H x y v u Q I rx ry h he
  refine (pe_ix rule ha hb hs).imp fun σ H Q ⟨ρ, W, j, h⟩ => ?_
  refine ⟨ρ, W, j, GC.imp (GC.bind h) fun x H1 ⟨p, W1, j1, l1, r1, h1⟩ => ⟨ρ, W1, j1, GC.imp (GC.bind h1) fun y H2 ⟨q, W2, j2, l2, r2, h2⟩ => ?_⟩⟩
  have vx := (OpV.mono r1 l2).vw j2
  have hD := j2.b.ok.sub
  cases q with
  | int i =>
    cases r2
    cases p with
    | lst xs =>
      obtain ⟨A, vs, rfl, ra, la, zvx⟩ := vx.lst hD
      obtain ⟨v, ev, out⟩ := GC.ofO j2 (show GC Γ (relE Γ) ρ σ W2 (M.ofO (Vi.atI xs i) W2.S) Q from h2)
      obtain ⟨z, ez, rz⟩ := atI_rel la ev
      exact .inl ⟨A, vs, i, z, rfl, rfl, .inl ra, ez, out.at rz⟩
    | tup xs =>
      obtain ⟨A, vs, rfl, ra, la, _, zvx⟩ := vx.tup hD
      obtain ⟨v, ev, out⟩ := GC.ofO j2 (show GC Γ (relE Γ) ρ σ W2 (M.ofO (Vi.atI xs i) W2.S) Q from h2)
      obtain ⟨z, ez, rz⟩ := atI_rel la ev
      exact .inr (.inl ⟨A, vs, i, z, rfl, rfl, hK ▸ ra, ez, out.at rz⟩)
    | str s =>
      cases vx.toStr
      have h2 : GC Γ (relE Γ) ρ σ W2 ((if s.length ≤ lim then M.ofO ((Vi.ixN s.cps.toList.length i).bind fun j => (s.cps.toList[j]?).map fun c => P.str ⟨#[c]⟩) else M.no) W2.S) Q := h2
      by_cases hz : s.length ≤ lim
      · rw [if_pos hz] at h2
        obtain ⟨v, ev, out⟩ := GC.ofO j2 h2
        cases q : Vi.ixN s.cps.toList.length i with
        | none => rw [q] at ev; cases ev
        | some k =>
          rw [q] at ev
          obtain ⟨c, ec, ev⟩ := Option.map_eq_some_iff.mp (show (s.cps.toList[k]?).map (fun c => P.str ⟨#[c]⟩) = some v from ev)
          subst ev
          refine .inr (.inr ⟨s, i, c, rfl, rfl, lim_eq ▸ hz, ?_, out.at (.str _)⟩)
          unfold L2.atI
          rw [← ixN_eq, q]
          exact ec
      · rw [if_neg hz] at h2; exact (show False from h2).elim
    | ref r =>
      have h2 : GC Γ (relE Γ) ρ σ W2 (atRef r i W2.S) Q := h2
      unfold atRef at h2
      have hx := vx.flat (fun _ z => by cases z)
      cases hx with
      | ref ea =>
        cases q : W2.S[r]? with
        | none => rw [q] at h2; exact (show False from h2).elim
        | some ro =>
          cases ro with
          | cell xs =>
            rw [q] at h2
            obtain ⟨vs, eh, rv⟩ := j2.b.ok.rob r _ _ ea q
            have h2 : GC Γ (relE Γ) ρ σ W2 (match Vi.atI xs i with | some v => Rs.ok v W2.S | none => Rs.no) Q := h2
            cases q2 : Vi.atI xs i with
            | none => rw [q2] at h2; exact (show False from h2).elim
            | some v =>
              rw [q2] at h2
              obtain ⟨z, ez, rz⟩ := atI_rel rv q2
              exact .inl ⟨_, vs, i, z, rfl, rfl, .inl (.inl eh), ez, (GC.out j2 h2).at rz⟩
    | _ => exact (show False from h2).elim
  | _ =>
    cases p <;> exact (show False from h2).elim
/-! slices -/
theorem cut_eq (xs : List V) (lo hi : Option Int) : cutV xs lo hi = Vi.cut xs lo hi := rfl
theorem cutS_eq (s : Str) (lo hi : Option Int) : cutS s lo hi = ⟨(Vi.cut s.cps.toList lo hi).toArray⟩ := by
  first
    | rfl
    | (unfold cutS Vi.cut; simp [Str.length]; rfl)
theorem cut_length {α : Type} (xs : List α) (lo hi : Option Int) : (Vi.cut xs lo hi).length ≤ xs.length := by
  unfold Vi.cut
  rw [List.length_take, List.length_drop]
  omega
theorem RpL.cut {R : Rc} {D : Hp} {ι : List Addr} {xs : List P} {vs : List V} (r : RpL R D ι xs vs) (lo hi : Option Int) : RpL R D ι (Vi.cut xs lo hi) (Vi.cut vs lo hi) := by
  unfold Vi.cut
  rw [r.length]
  exact (r.drop _).take _
def relC : Env → L2.St → Wd → Option Int → Option Int → Prop := fun _ _ _ p x => p = x
theorem c_none : PO X none (tG Γ relC fun _ => M.pure none) := ⟨fun pins s σ H Q I ⟨ρ, W, j, h⟩ => po_none.run pins s σ H Q I (GC.pure j h rfl)⟩
theorem c_some {da : Env → M P} (ha : PE X a (tE Γ da)) : PO X (some a) (tG Γ relC fun ρ => (da ρ).bind fun
      | .int i => M.pure (some i)
      | _ => M.no) := by
  refine ⟨fun pins s σ H Q I ⟨ρ, W, j, h⟩ => (po_some ha).run pins s σ H Q I ?_⟩
  refine ⟨ρ, W, j, GC.imp (GC.bind h) fun x H1 ⟨p, W1, j1, l1, r1, h1⟩ => ?_⟩
  cases p with
  | int i =>
    cases r1
    exact ⟨i, rfl, GC.pure j1 h1 rfl⟩
  | _ => exact (show False from h1).elim
theorem s_slc {da : Env → M P} {dl dh : Env → M (Option Int)} {lo hi : Option Expr} {p2 : Pos} (hK : Γ.R.K = X.K) (ha : PE X a (tO Γ da)) (hl : PO X lo (tG Γ relC dl)) (hh : PO X hi (tG Γ relC dh)) :
    PE X (.Subscript a (.Slice lo hi none p2) pos) (tE Γ fun ρ => (da ρ).bind fun x => (dl ρ).bind fun l => (dh ρ).bind fun h => M.ofO (slice x l h)) := by
  have rule : SlR X (fun x lo hi H Q => (∃ a xs, x = .ref a ∧ SqL X.K H a xs ∧ ∀ p, H p = none → Q (.ref p) (upd H p (.lst (cutV xs lo hi)))) ∨ (rSlA X.K x lo hi H Q ∨ rSlS x lo hi H Q)) := SlR.or sl_list (SlR.or sl_tupA sl_str)
  refine (pe_slice rule ha hl hh).imp fun σ H Q ⟨ρ, W, j, h⟩ => ?_
  refine ⟨ρ, W, j, GC.imp (GC.bind h) fun x H1 ⟨p, W1, j1, l1, r1, h1⟩ => ⟨ρ, W1, j1, GC.imp (GC.bind h1) fun y H2 ⟨q, W2, j2, l2, r2, h2⟩ => ⟨ρ, W2, j2, GC.imp (GC.bind h2) fun z H3 ⟨r, W3, j3, l3, r3, h3⟩ => ?_⟩⟩⟩
  obtain rfl : q = y := r2
  obtain rfl : r = z := r3
  have vx := ((OpV.mono r1 l2).mono l3).vw j3
  have hD := j3.b.ok.sub
  obtain ⟨v, ev, out⟩ := GC.ofO j3 h3
  cases p with
  | lst xs =>
    cases (show some (P.lst (Vi.cut xs q r)) = some v from ev)
    obtain ⟨A, vs, rfl, ra, la, zvx⟩ := vx.lst hD
    exact .inl ⟨A, vs, rfl, .inl ra, fun p hp => out.newL hD (la.cut q r) hp (Nat.le_trans (cut_length _ _ _) zvx)⟩
  | tup xs =>
    cases (show some (P.tup (Vi.cut xs q r)) = some v from ev)
    obtain ⟨A, vs, rfl, ra, la, wa, zvx⟩ := vx.tup hD
    refine .inr (.inl ⟨A, vs, rfl, hK ▸ ra, fun ⟨e1, e2⟩ => ?_, fun _ p hp => out.newT hD (la.cut q r) hp (Nat.le_trans (cut_length _ _ _) zvx)⟩)
    have ee : Vi.cut xs q r = xs := by
      unfold Vi.cut
      have e1' : Vi.sIx xs.length 0 q = 0 := by rw [← la.length]; exact e1
      have e2' : Vi.sIx xs.length xs.length r = xs.length := by rw [← la.length]; exact e2
      rw [e1', e2']
      simp
    rw [ee] at out
    exact out.at wa
  | str s =>
    cases vx.toStr
    have ev : (if s.length ≤ lim then some (P.str ⟨(Vi.cut s.cps.toList q r).toArray⟩) else none) = some v := ev
    by_cases hz : s.length ≤ lim
    · rw [if_pos hz] at ev
      cases ev
      refine .inr (.inr ⟨s, rfl, lim_eq ▸ hz, ?_⟩)
      rw [cutS_eq]
      exact out.at (.str _)
    · rw [if_neg hz] at ev; cases ev
  | _ => cases (show none = some v from ev)

/-! calls of defs -/
/-- what the def with the number i promises, by what it computes -/
def spF (R : Rc) (T : List (Addr × Str)) (F : List P → M P) : Sp := fun vs H Q E => ∃ W ps, WOk R T W H ∧ RpL R W.D W.ι ps vs ∧ match F ps W.S with
  | .ok v S' => ∀ x W' H', W'.S = S' → B R T { W := W, H := H } W' H' → Rp R W'.D W'.ι v x → Q x H'
  | .err e S' => ∀ cv oe W' H', W'.S = S' → B R T { W := W, H := H } W' H' → ExR R W' H' e cv oe → E cv oe H'
  | .no => False
theorem s_call {F : List P → M P} {ds : Env → M (List P)} {x : Str} {es : List Expr} {k : Nat} {f : Addr} {fd : FuncData} {ps : List Str} {CX : CXT} (FF : FnOk X.prog X.w X.K X.mg X.base CX k f fd ps (spF Γ.R Γ.T F)) (hr : Room k X.A) (hg : Gl X x) (hm : X.mg x = some (.ref f))
    (hk : PySem.W.keepIn X.K (.ref f) = true) (hb : Binds X.K fd ps []) (hx : Passes CX X Γ.E)
    (ha : PA X (a :: es) (tEs Γ ds)) (hdb : (x == ("__debug__" : Str)) = false) (he : starEach (a :: es) X.env = (false, eval a X.env) :: starEach es X.env) (hpl : (backTo pos (starEach es X.env)).any (·.1) = false) :
    PE X (.Call (.Name x pos') (a :: es) [] pos) (tE Γ fun ρ => (ds ρ).bind fun xs => F xs) := by
  refine (pe_call FF hr hg hm hk hb .nil hx ha hdb he hpl).imp fun σ H Q ⟨ρ, W, j, h⟩ => ?_
  refine ⟨ρ, W, j, GC.imp (GC.bind h) fun x H1 ⟨p, W1, j1, l1, r1, h1⟩ => ?_⟩
  rw [List.append_nil]
  refine ⟨W1, p, j1.b.ok, r1, ?_⟩
  cases e : F p W1.S with
  | ok v S' =>
    rw [e] at h1
    exact fun x W' H' es b r => h1 x W' H' es b.ge (j1.step b) r
  | err v S' =>
    rw [e] at h1
    exact fun cv oe W' H' es b r => h1 cv oe W' H' es (j1.b.trans b) r
  | no => rw [e] at h1; exact h1
theorem s_call0 {F : List P → M P} {x : Str} {k : Nat} {f : Addr} {fd : FuncData} {ps : List Str} {CX : CXT} (FF : FnOk X.prog X.w X.K X.mg X.base CX k f fd ps (spF Γ.R Γ.T F)) (hr : Room k X.A) (hg : Gl X x) (hm : X.mg x = some (.ref f))
    (hk : PySem.W.keepIn X.K (.ref f) = true) (hb : Binds X.K fd ps []) (hx : Passes CX X Γ.E) (hdb : (x == ("__debug__" : Str)) = false) :
    PE X (.Call (.Name x pos') [] [] pos) (tE Γ fun ρ => (M.pure []).bind fun xs => F xs) := by
  refine (pe_call0 FF hr hg hm hk hb .nil hx hdb).imp fun σ H Q ⟨ρ, W, j, h⟩ => ?_
  refine ⟨W, [], j.b.ok, .nil, ?_⟩
  have h : GC Γ (relE Γ) ρ σ W (F [] W.S) Q := h
  show match F [] W.S with
  | .ok v S' => ∀ x W' H', W'.S = S' → B Γ.R Γ.T { W := W, H := H } W' H' → Rp Γ.R W'.D W'.ι v x → Q x H'
  | .err e S' => ∀ cv oe W' H', W'.S = S' → B Γ.R Γ.T { W := W, H := H } W' H' → ExR Γ.R W' H' e cv oe → Γ.E cv oe H'
  | .no => False
  cases e : F [] W.S with
  | ok v S' =>
    rw [e] at h
    exact fun x W' H' es b r => h x W' H' es b.ge (j.step b) r
  | err v S' =>
    rw [e] at h
    exact fun cv oe W' H' es b r => h cv oe W' H' es (j.b.trans b) r
  | no => rw [e] at h; exact h
end
end Vi
/-! Vi, what is walked; comprehensions. -/
namespace Vi
open PySem PySem.Spec PyProof.Rows L2 RZ

/-- what a turn gives -/
def Yl (R : Rc) (W : Wd) (H : Hp) (p : P) (x : V) (H' : Hp) : Prop :=
  (H' = H ∧ Rp R W.D W.ι p x) ∨ (H' = H ∧ ∃ b us ps, x = .ref b ∧ H b = some (.tup us) ∧ p = .tup ps ∧ RpL R W.D W.ι ps us ∧ ps.length ≤ lim) ∨ ∃ T y z py pz, x = .ref T ∧ H T = none ∧ H' = upd H T (.tup [y, z]) ∧ p = .tup [py, pz] ∧ Rp R W.D W.ι py y ∧ Rp R W.D W.ι pz z
/-- the owned objects that are walked stay -/
def Own (R : Rc) (os : List (Addr × P)) (W : Wd) (H : Hp) : Prop := ∀ q ∈ os, OwnC R W.D W.ι H q.1 q.2
/-- an iterator over xs -/
def IterOk (R : Rc) (look : List Nat) (ρ : Env) (σ : L2.St) (W : Wd) (xs : List P) (Jt : It) : Prop :=
  ∃ (os : List (Addr × P)) (G : Hp → Prop) (Y : Nat → Hp → V → Hp → Prop), xs.length ≤ lim ∧ (∀ q ∈ os, ∃ i ∈ look, ρ[i]? = some (Sl.own q.2) ∧ σ[i]? = some (some (.ref q.1))) ∧ Walk Jt xs.length G Y ∧
    (∀ W' H', W.le W' → Sub W'.D H' → Own R os W' H' → G H') ∧
    ∀ i W' H' x H'', i < xs.length → W.le W' → Sub W'.D H' → Own R os W' H' → Y i H' x H'' → ∃ p, xs[i]? = some p ∧ Yl R W' H' p x H''
section
variable (Γ : Wh) (look : List Nat)
def relI : Env → L2.St → Wd → List P → It → Prop := fun ρ σ W xs Jt => IterOk Γ.R look ρ σ W xs Jt
abbrev tI (d : Env → M (List P)) : TI := tG Γ (relI Γ look) d
end
section
variable {X : Cx} {Γ : Wh} {look : List Nat} {ρ : Env} {σ : L2.St} {W : Wd} {H : Hp}

theorem getLt {xs : List P} {i : Nat} (h : i < xs.length) : ∃ p, xs[i]? = some p := ⟨xs[i], List.getElem?_eq_getElem h⟩
/-- over a list -/
theorem iter_lst {R : Rc} {K : PySem.W.Frag} (hK : R.K = K) (look : List Nat) {xs : List P} {a : Addr} {vs : List V} (h : (Rd W.D a (.lst vs)) ∨ ∃ i ∈ look, ρ[i]? = some (Sl.own (.lst xs)) ∧ σ[i]? = some (some (.ref a))) (r : RpL R W.D W.ι xs vs) (zl : xs.length ≤ lim) :
    IterOk R look ρ σ W xs (Itl K a) := by
  have len := r.length
  rcases h with h | ⟨i, hi, h1, h2⟩
  · refine ⟨[], fun H => SqL K H a vs, YAt vs, zl, fun q hq => absurd hq (by simp), len ▸ walk_list, fun W' H' l s _ => .inl (s.rd (l.1.rd h)), fun i W' H' x H'' hi l s _ y => ?_⟩
    obtain ⟨p, ep⟩ := getLt hi
    obtain ⟨v, ev, rv⟩ := r.get ep
    obtain ⟨e1, e2⟩ := y
    rw [ev] at e2
    cases e2
    exact ⟨p, ep, .inl ⟨e1, rv.mono l.1 l.2⟩⟩
  · -- the list's content as it will stand
    refine ⟨[(a, .lst xs)], fun H => ∃ vs', H a = some (.lst vs') ∧ vs'.length = xs.length, fun i H x H' => H' = H ∧ ∃ vs', H a = some (.lst vs') ∧ vs'[i]? = some x, zl, fun q hq => ?_, ⟨fun i H hi hG => ?_, fun H hG => ?_, fun i H x H' hi hG y => ?_⟩, fun W' H' l s o => ?_, fun i W' H' x H'' hi l s o y => ?_⟩
    · rw [List.mem_singleton] at hq
      subst hq
      exact ⟨i, hi, h1, h2⟩
    · obtain ⟨vs', e, el⟩ := hG
      exact ⟨vs', vs'[i]'(by omega), SqL.of e, List.getElem?_eq_getElem _⟩
    · obtain ⟨vs', e, el⟩ := hG
      exact ⟨vs', SqL.of e, by omega⟩
    · obtain ⟨vs', e, el⟩ := hG
      exact ⟨y.1, vs', e, y.2 vs' (SqL.of e)⟩
    · obtain ⟨_, vs', e, r'⟩ := o _ (List.mem_singleton.mpr rfl)
      exact ⟨vs', e, r'.length⟩
    · obtain ⟨e1, vs', e, ev⟩ := y
      obtain ⟨_, vs2, e', r'⟩ := o _ (List.mem_singleton.mpr rfl)
      have e' : H' a = some (.lst vs2) := e'
      rw [e] at e'
      cases e'
      obtain ⟨p, ep⟩ := getLt hi
      obtain ⟨v, ev2, rv⟩ := RpL.get r' ep
      rw [ev] at ev2
      cases ev2
      exact ⟨p, ep, .inl ⟨e1, rv⟩⟩
theorem iter_tup {R : Rc} {K : PySem.W.Frag} (hK : R.K = K) (look : List Nat) {xs : List P} {a : Addr} {vs : List V} (h : SqT R.K W.D a vs) (r : RpL R W.D W.ι xs vs) (zl : xs.length ≤ lim) : IterOk R look ρ σ W xs (Itt K a) := by
  have len := r.length
  refine ⟨[], fun H => SqT K H a vs, YAt vs, zl, fun q hq => absurd hq (by simp), len ▸ walk_tup, fun W' H' l s _ => hK ▸ (s.sqT (l.1.sqT h)), fun i W' H' x H'' hi l s _ y => ?_⟩
  obtain ⟨p, ep⟩ := getLt hi
  obtain ⟨v, ev, rv⟩ := r.get ep
  obtain ⟨e1, e2⟩ := y
  rw [ev] at e2
  cases e2
  exact ⟨p, ep, .inl ⟨e1, rv.mono l.1 l.2⟩⟩
theorem iter_str {R : Rc} (look : List Nat) {z : Str} (zl : z.length ≤ lim) : IterOk R look ρ σ W (z.cps.toList.map fun c => P.str ⟨#[c]⟩) (Its z) := by
  have e : (z.cps.toList.map fun c => P.str ⟨#[c]⟩).length = z.cps.size := by simp
  refine ⟨[], fun _ => True, fun i H v H' => H' = H ∧ ∃ c, z.cps[i]? = some c ∧ v = .str ⟨#[c]⟩, by rw [e]; exact zl, fun q hq => absurd hq (by simp), e ▸ walk_str, fun _ _ _ _ _ => trivial, fun i W' H' x H'' hi l s _ y => ?_⟩
  obtain ⟨e1, c, ec, rfl⟩ := y
  refine ⟨.str ⟨#[c]⟩, ?_, .inl ⟨e1, .str _⟩⟩
  rw [List.getElem?_map, Array.getElem?_toList, ec]
  rfl
theorem iter_rng {R : Rc} (look : List Nat) {lo : Int} {n : Nat} (zl : n ≤ lim) : IterOk R look ρ σ W (rangeL lo n) (Itr lo n) := by
  have e : (rangeL lo n).length = n := by simp [rangeL]
  refine ⟨[], fun _ => True, YFn fun i => .int (lo + i), by rw [e]; exact zl, fun q hq => absurd hq (by simp), ?_, fun _ _ _ _ _ => trivial, fun i W' H' x H'' hi l s _ y => ?_⟩
  · have w := walk_range (lo := lo) (n := n)
    rw [← e] at w
    rw [e] at w ⊢
    exact w
  · obtain ⟨e1, rfl⟩ := y
    refine ⟨.int (lo + (i : Nat)), ?_, .inl ⟨e1, .int _⟩⟩
    rw [e] at hi
    unfold rangeL
    rw [List.getElem?_map, List.getElem?_range hi]
    rfl

/-- a list, a tuple, a text -/
def iSeq (K : PySem.W.Frag) (te : TE) : TI := fun σ H Rr => te σ H fun x H1 => (∃ a xs, x = .ref a ∧ SqL K H1 a xs ∧ Rr (Itl K a) H1) ∨ (∃ a xs, x = .ref a ∧ SqT K H1 a xs ∧ Rr (Itt K a) H1) ∨ ∃ z, x = .str z ∧ Rr (Its z) H1
theorem pi_seq {tg e : Expr} {te : TE} (he : PE X e te) : PI X tg e (iSeq X.K te) := by
  refine ⟨fun pins s σ H Rr I h => ?_⟩
  refine thn (he.run pins s σ H _ I h) fun v s1 ⟨x, H1, I1, r1, q1⟩ => ?_
  rcases q1 with ⟨a, xs, rfl, hq, q⟩ | ⟨a, xs, rfl, hq, q⟩ | ⟨z, rfl, q⟩
  · cases r1
    obtain ⟨its, rv, p, hz⟩ := I1.list hq
    refine wpAny_pyIter_list p.isList ?_
    refine ⟨s1.heap.objs.size, [s1.heap.objs.size], _, _, H1, rfl, I1.kept (t' := s1.toks) fun b o e => Heap.get?_push_of_some _ e, turn_list a _, ⟨_, Heap.get?_push_size _ rfl, rfl, rfl⟩, fun b hb => ?_, q⟩
    have e : b = s1.heap.objs.size := by simpa using hb
    subst e
    exact I1.fpOk (Nat.le_refl _) (I1.hok.fresh (Nat.le_refl _))
  · cases r1
    obtain ⟨its, rv, p, hz⟩ := I1.tuple hq
    refine wpAny_pyIter_tuple (show s1.heap.IsTuple a its.toArray from p) ?_
    refine ⟨s1.heap.objs.size, [s1.heap.objs.size], _, _, H1, rfl, I1.kept (t' := s1.toks) fun b o e => Heap.get?_push_of_some _ e, turn_tuple a _, ⟨_, Heap.get?_push_size _ rfl, rfl, rfl⟩, fun b hb => ?_, q⟩
    have e : b = s1.heap.objs.size := by simpa using hb
    subst e
    exact I1.fpOk (Nat.le_refl _) (I1.hok.fresh (Nat.le_refl _))
  · obtain ⟨t, rfl⟩ := r1
    cases ha : z.cps.all (· < 128)
    · exact wpAny_pyIter_wide ha (pi_one (tk := s1.toks) I1 _ (turn_str _ z t "str_iterator" (.inr rfl)) ⟨_, Heap.get?_push_size _ rfl, rfl, rfl⟩ q)
    · exact wpAny_pyIter_ascii ha (pi_one (tk := s1.toks) I1 _ (turn_str _ z t "str_ascii_iterator" (.inl rfl)) ⟨_, Heap.get?_push_size _ rfl, rfl, rfl⟩ q)

/-- the slots that an operand looks at -/
def lookO : CP → List Nat
  | .look i => [i]
  | .e _ => []
/-- an operand that is a list: where it lies -/
theorem OpV.walked {T : List (Addr × Str)} {N : En} {R : Rc} {xs : List P} {x : V} (j : J R T N ρ W σ H) (h : Rp R W.D W.ι (.lst xs) x ∨ ∃ i ∈ look, ρ[i]? = some (Sl.own (.lst xs)) ∧ σ[i]? = some (some x)) :
    ∃ a vs, x = .ref a ∧ Rd H a (.lst vs) ∧ RpL R W.D W.ι xs vs ∧ xs.length ≤ lim ∧ ((Rd W.D a (.lst vs)) ∨ ∃ i ∈ look, ρ[i]? = some (Sl.own (.lst xs)) ∧ σ[i]? = some (some (.ref a))) := by
  rcases h with h | ⟨i, hi, h1, h2⟩
  · cases h with
    | lst q r z => exact ⟨_, _, rfl, j.b.ok.sub.rd q, r, z, .inl q⟩
  · obtain ⟨a, e, _, _, _, c⟩ := j.own i _ h1
    rw [h2] at e
    cases e
    obtain ⟨z, vs, e, r⟩ := c
    exact ⟨a, vs, rfl, .inl e, r, z, .inr ⟨i, hi, h1, h2⟩⟩
def relL (Γ : Wh) (look : List Nat) : Env → L2.St → Wd → P → V → Prop := fun ρ σ W p x => Rp Γ.R W.D W.ι p x ∨ ∃ i ∈ look, ρ[i]? = some (Sl.own p) ∧ σ[i]? = some (some x)
theorem relL.mono {p : P} {x : V} {W' : Wd} (h : relL Γ look ρ σ W p x) (l : W.le W') : relL Γ look ρ σ W' p x := h.imp (fun r => r.mono l.1 l.2) id
theorem i_seq {tg e : Expr} {de : Env → M P} (hK : Γ.R.K = X.K) (he : PE X e (tG Γ (relL Γ look) de)) : PI X tg e (tI Γ look fun ρ => (de ρ).bind fun x => M.ofO (items x)) := by
  refine ⟨fun pins s σ H Rr I h => (pi_seq he).run pins s σ H Rr I ?_⟩
  obtain ⟨ρ, W, j, h⟩ := h
  refine ⟨ρ, W, j, GC.imp (GC.bind h) fun x H1 ⟨p, W1, j1, l1, r1, h1⟩ => ?_⟩
  cases p with
  | lst xs =>
    obtain ⟨a, vs, rfl, rd, rl, zl, w⟩ := OpV.walked j1 r1
    exact .inl ⟨a, vs, rfl, .inl rd, GC.pure (a := xs) (x := Itl X.K a) j1 h1 (iter_lst hK look w rl zl)⟩
  | tup xs =>
    rcases r1 with r1 | ⟨i, _, h2, h3⟩
    · cases r1 with
      | tup q r z => exact .inr (.inl ⟨_, _, rfl, hK ▸ j1.b.ok.sub.sqT q.sqT, GC.pure (a := xs) j1 h1 (iter_tup hK look q.sqT r z)⟩)
    · obtain ⟨a, _, _, _, _, c⟩ := j1.own i _ h2
      exact (show False from c).elim
  | str z =>
    rcases r1 with r1 | ⟨i, _, h2, h3⟩
    · cases r1
      have h1 : GC Γ (relI Γ look) ρ σ W1 (M.ofO (if z.length ≤ lim then some (z.cps.toList.map fun c => P.str ⟨#[c]⟩) else none) W1.S) Rr := h1
      by_cases hz : z.length ≤ lim
      · rw [if_pos hz] at h1
        exact .inr (.inr ⟨z, rfl, GC.pure (rel := relI Γ look) j1 h1 (iter_str look hz)⟩)
      · rw [if_neg hz] at h1; exact (show False from h1).elim
    · obtain ⟨a, _, _, _, _, c⟩ := j1.own i _ h2
      exact (show False from c).elim
  | _ => exact (show False from h1).elim
theorem big_eq : bigI = 2 ^ 62 := by decide
theorem i_rng1 {tg a : Expr} {p pos : Pos} {da : Env → M P} (hg : Gl X "range") (hm : X.mg "range" = none) (ha : PE X a (tE Γ da)) (hs : starEach [a] X.env = [(false, eval a X.env)]) :
    PI X tg (.Call (.Name "range" p) [a] [] pos) (tI Γ look fun ρ => (da ρ).bind fun x => M.ofO (rng1 x)) := by
  refine ⟨fun pins s σ H Rr I h => (pi_range1 hg hm (pa_cons ha pa_nil (by rw [hs]; rfl)) hs).run pins s σ H Rr I ?_⟩
  obtain ⟨ρ, W, j, h⟩ := h
  refine ⟨ρ, W, j, GC.imp (GC.bind h) fun x H1 ⟨p, W1, j1, l1, r1, h1⟩ => ?_⟩
  have hb := big_eq
  have hl : ((lim : Nat) : Int) = 16777216 := rfl
  cases p with
  | int i =>
    cases r1
    have h1 : GC Γ (relI Γ look) ρ σ W1 (M.ofO (if lei (-bigI) i && lei i (lim : Int) then some (rangeL 0 i.toNat) else none) W1.S) Rr := h1
    rw [lei_eq, lei_eq] at h1
    by_cases hz : (decide (-bigI ≤ i) && decide (i ≤ (lim : Int))) = true
    · rw [if_pos hz] at h1
      simp only [Bool.and_eq_true, decide_eq_true_eq] at hz
      refine ⟨i, rfl, by omega, by omega, ?_⟩
      exact GC.pure (a := rangeL 0 i.toNat) (x := Itr 0 i.toNat) j1 h1 (iter_rng look (by omega))
    · rw [if_neg hz] at h1; exact (show False from h1).elim
  | _ => exact (show False from h1).elim
theorem i_rng2 {tg a b : Expr} {p pos : Pos} {da db : Env → M P} (hg : Gl X "range") (hm : X.mg "range" = none) (ha : PE X a (tE Γ da)) (hb' : PE X b (tE Γ db)) (hs : starEach [a, b] X.env = [(false, eval a X.env), (false, eval b X.env)]) (hs2 : starEach [b] X.env = [(false, eval b X.env)]) :
    PI X tg (.Call (.Name "range" p) [a, b] [] pos) (tI Γ look fun ρ => (da ρ).bind fun x => (db ρ).bind fun y => M.ofO (rng2 x y)) := by
  refine ⟨fun pins s σ H Rr I h => (pi_range2 hg hm (pa_cons ha (pa_cons hb' pa_nil (by rw [hs2]; rfl)) (by rw [hs, hs2])) hs hs2).run pins s σ H Rr I ?_⟩
  obtain ⟨ρ, W, j, h⟩ := h
  refine ⟨ρ, W, j, GC.imp (GC.bind h) fun x H1 ⟨p, W1, j1, l1, r1, h1⟩ => ⟨ρ, W1, j1, GC.imp (GC.bind h1) fun y H2 ⟨q, W2, j2, l2, r2, h2⟩ => ?_⟩⟩
  have hb := big_eq
  have hl : ((lim : Nat) : Int) = 16777216 := rfl
  cases p with
  | int i =>
    cases q with
    | int k =>
      cases r1
      cases r2
      have h2 : GC Γ (relI Γ look) ρ σ W2 (M.ofO (if lei (-(lim : Int)) i && lei i (lim : Int) && lei (-(lim : Int)) k && lei (k - i) (lim : Int) then some (rangeL i (k - i).toNat) else none) W2.S) Rr := h2
      rw [lei_eq, lei_eq, lei_eq, lei_eq] at h2
      by_cases hz : (decide (-(lim : Int) ≤ i) && decide (i ≤ (lim : Int)) && decide (-(lim : Int) ≤ k) && decide (k - i ≤ (lim : Int))) = true
      · rw [if_pos hz] at h2
        simp only [Bool.and_eq_true, decide_eq_true_eq] at hz
        refine ⟨i, k, rfl, ⟨by omega, by omega, by omega, by omega⟩, ?_⟩
        exact GC.pure (a := rangeL i (k - i).toNat) (x := Itr i (k - i).toNat) j2 h2 (iter_rng look (by omega))
      · rw [if_neg hz] at h2; exact (show False from h2).elim
    | _ => exact (show False from h2).elim
  | _ => cases q <;> exact (show False from h2).elim

/-! zip -/
theorem walk_zipT {K : PySem.W.Frag} {a b : Addr} {xs ys : List V} {n : Nat} (hn : n = min xs.length ys.length) : Walk (ItzT K a b) n (fun H => SqT K H a xs ∧ SqT K H b ys) (YPair (fun i => xs[i]?) (fun i => ys[i]?)) := by
  subst hn
  refine ⟨fun i _ hi q => ?_, fun _ q => ⟨xs, ys, q.1, q.2, by omega⟩, fun i H v H' _ q y => ?_⟩
  · have h1 : i < xs.length := by omega
    have h2 : i < ys.length := by omega
    exact ⟨xs, ys, xs[i], ys[i], q.1, q.2, by simp [h1], by simp [h2]⟩
  · obtain ⟨T, x, z, h1, h2, h3, h4, h5⟩ := y
    exact ⟨T, x, z, h1, h2, h3, h4 xs q.1, h5 ys q.2⟩
theorem iter_pairs {R : Rc} (look : List Nat) {xs ys : List P} {vs ws : List V} {G : Hp → Prop} {Jt : It} (rx : RpL R W.D W.ι xs vs) (ry : RpL R W.D W.ι ys ws) (w : Walk Jt (min vs.length ws.length) G (YPair (fun i => vs[i]?) (fun i => ws[i]?)))
    (hG : ∀ W' H', W.le W' → Sub W'.D H' → G H') (zl : xs.length ≤ lim) : IterOk R look ρ σ W ((xs.zip ys).map pairP) Jt := by
  have e : ((xs.zip ys).map pairP).length = min vs.length ws.length := by
    rw [List.length_map, List.length_zip, rx.length, ry.length]
  refine ⟨[], G, _, by rw [e, rx.length]; exact Nat.le_trans (Nat.min_le_left _ _) zl, fun q hq => absurd hq (by simp), e ▸ w, fun W' H' l s _ => hG W' H' l s, fun i W' H' x H'' hi l s _ y => ?_⟩
  obtain ⟨T, y, z, h1, h2, h3, h4, h5⟩ := y
  rw [e, rx.length, ry.length] at hi
  obtain ⟨p, ep⟩ := getLt (xs := xs) (i := i) (by omega)
  obtain ⟨q, eq⟩ := getLt (xs := ys) (i := i) (by omega)
  obtain ⟨v, ev, rv⟩ := rx.get ep
  obtain ⟨v', ev', rv'⟩ := ry.get eq
  have h4 : vs[i]? = some y := h4
  have h5 : ws[i]? = some z := h5
  rw [ev] at h4
  cases h4
  rw [ev'] at h5
  cases h5
  refine ⟨.tup [p, q], ?_, .inr (.inr ⟨T, y, z, p, q, h1, h2, h3, rfl, rv.mono l.1 l.2, rv'.mono l.1 l.2⟩)⟩
  rw [List.getElem?_map, (List.getElem?_zip_eq_some (z := (p, q))).mpr ⟨ep, eq⟩]
  rfl
theorem i_zip {a b : Expr} {p pos tpos : Pos} {elts : List Expr} {kk : Nat} {da db : Env → M P} (hK : Γ.R.K = X.K) (hg : Gl X "zip") (hm : X.mg "zip" = none) (ha : PE X a (tE Γ da)) (hb' : PE X b (tE Γ db))
    (hs : starEach [a, b] X.env = (false, eval a X.env) :: starEach [b] X.env) (hs2 : starEach [b] X.env = [(false, eval b X.env)]) :
    PI X (.Tuple elts kk tpos) (.Call (.Name "zip" p) [a, b] [] pos) (tI Γ look fun ρ => (da ρ).bind fun x => (db ρ).bind fun y => M.ofO (zipP x y)) := by
  refine ⟨fun pins s σ H Rr I h => (pi_zipA hg hm (pa_cons ha (pa_cons hb' pa_nil (by rw [hs2]; rfl)) hs) hs (by rw [hs2]; rfl)).run pins s σ H Rr I ?_⟩
  obtain ⟨ρ, W, j, h⟩ := h
  refine ⟨ρ, W, j, GC.imp (GC.bind h) fun x H1 ⟨p, W1, j1, l1, r1, h1⟩ => ⟨ρ, W1, j1, GC.imp (GC.bind h1) fun y H2 ⟨q, W2, j2, l2, r2, h2⟩ => ?_⟩⟩
  have r1 : Rp Γ.R W2.D W2.ι p x := Rp.mono l2.1 l2.2 r1
  have r2 : Rp Γ.R W2.D W2.ι q y := r2
  have hD := j2.b.ok.sub
  cases p with
  | lst xs =>
    cases q with
    | lst ys =>
      cases r1 with
      | lst q1 l1' z1 =>
        cases r2 with
        | lst q2 l2' z2 =>
          refine ⟨_, _, _, _, rfl, .inl ⟨.inl (hD.rd q1), .inl (hD.rd q2), ?_⟩⟩
          exact GC.pure (rel := relI Γ look) (a := (xs.zip ys).map pairP) j2 h2 (iter_pairs look l1' l2' (walk_zip rfl) (fun W' H' l s => ⟨.inl (s.rd (l.1.rd q1)), .inl (s.rd (l.1.rd q2))⟩) z1)
    | _ => exact (show False from h2).elim
  | tup xs =>
    cases q with
    | tup ys =>
      cases r1 with
      | tup q1 l1' z1 =>
        cases r2 with
        | tup q2 l2' z2 =>
          refine ⟨_, _, _, _, rfl, .inr ⟨hK ▸ hD.sqT q1.sqT, hK ▸ hD.sqT q2.sqT, ?_⟩⟩
          exact GC.pure (rel := relI Γ look) (a := (xs.zip ys).map pairP) j2 h2 (iter_pairs look l1' l2' (walk_zipT rfl) (fun W' H' l s => ⟨hK ▸ s.sqT (l.1.sqT q1.sqT), hK ▸ s.sqT (l.1.sqT q2.sqT)⟩) z1)
    | _ => exact (show False from h2).elim
  | _ => cases q <;> exact (show False from h2).elim
end
end Vi
/-! enumerate of a tuple. -/
namespace ViEn
open PySem PySem.Spec PyProof.Rows
open AutoSeq1 (wpAny_loadPart')
theorem Draws.tuple {prog : Program} {w : World} {A : Around} (hh : A.handled = none) (it l : Addr) (hne : l ≠ it) (items : Array Value) :
    Draws prog w A it [it, l] items.size (fun i v => items[i]? = some v) (fun i h => h.IsTupleIter it l i ∧ h.IsTuple l items) where
  live := fun _ _ st => let ⟨o, ho, _⟩ := st.1; ⟨o, ho⟩
  frame := fun _ _ _ st hk => ⟨st.1.at fun o e => hk it (by simp) o e, st.2.at fun o e => hk l (by simp) o e⟩
  item := fun i s Q E hi st hQ => by
    refine RZ.nextOf_tuple_item st.1 st.2 (x := items[i]) (by simp [hi]) fun h' hit' hs' => ?_
    exact hQ _ h' s.toks (by simp [hi]) ⟨hit', st.2.at fun o e => (hs'.2 l hne).trans e⟩ hs'
  done := fun s Q E st hE => RZ.nextOf_tuple_end hh st.1 st.2 (by simp) hE
theorem meets_enumerate_newT (l : Addr) (items : Array Value) (n : Nat) (dct : Option Addr) (sl : Array (Option Value)) :
    Meets (Builtin.«enumerate.__new__» ⟨[.type "enumerate", .ref l], []⟩) (fun _ R s => s.heap.get? l = some { cls := .type "tuple", dict := dct, data := .seq items n, slots := sl } ∧
      R (.ok (.ret (.ref (s.heap.push { cls := .type "tuple_iterator", data := .fields #[.ref l, .int 0 0] }).objs.size)))
        { s with heap := (s.heap.push { cls := .type "tuple_iterator", data := .fields #[.ref l, .int 0 0] }).push { cls := .type "enumerate", data := .fields #[.none, .bool false, .ref s.heap.objs.size, rawInt 0, .none, .none] } }) :=
  .of_wp fun prog w A R s h => by
    obtain ⟨hp, g, d, tk, os⟩ := s; obtain ⟨hl, h⟩ := h
    have hsub := sub_enumerate
    have hL : Heap.IsTuple (Shared.heap ⟨hp, g, d, tk, os⟩) l items := ⟨_, hl, rfl, n, rfl⟩
    wp_walk using wpAny_loadPart' hl
    refine wpAny_stack_any fun st => wpAny_pure ?_
    split
    · rename_i c _ _ _ _ _
      cases (c == Value.type "enumerate")
      · wp_walk using wpAny_loadPart' hl, wpAny_pyIter_tuple hL
        exact ⟨_, rfl, h⟩
      · wp_walk using wpAny_loadPart' hl, wpAny_pyIter_tuple hL
        exact ⟨_, rfl, h⟩
    · wp_walk using wpAny_loadPart' hl, wpAny_pyIter_tuple hL
      exact ⟨_, rfl, h⟩
section
variable {prog : Program} {w : World} {A : Around} {E : Value → Shared → Prop} {s : Shared}
theorem call_enumerate_tuple {l : Addr} {items : Array Value} {Q : Value → Shared → Prop} (hL : s.heap.IsTuple l items)
    (h : ∀ h', IsEnum h' (s.heap.objs.size + 1) s.heap.objs.size 0 .none → h'.IsTupleIter s.heap.objs.size l 0 → h'.objs.size = s.heap.objs.size + 2 →
      (∀ b o, s.heap.get? b = some o → h'.get? b = some o) → Q (.ref (s.heap.objs.size + 1)) { s with heap := h' }) :
    wpAny (model prog w) A (call (.type "enumerate") [.ref l]) Q E s := by
  obtain ⟨⟨c, dct, dt, sl⟩, hl, hc, n, hd⟩ := hL
  replace hc : c = .type "tuple" := hc
  replace hd : dt = .seq items n := hd
  subst hc hd
  refine callType_new F.called_enumerate (by decide) (F.typeCall_enumerate_1 _) (F.newCall_enumerate_1 _) (fun obj => F.args_object_init_2 obj _) F.entry_enumerate_new
    (meets_enumerate_newT l items n dct sl) ⟨hl, ?_⟩
  have hz : (s.heap.push { cls := .type "tuple_iterator", data := .fields #[.ref l, .int 0 0] }).objs.size = s.heap.objs.size + 1 := Heap.size_push ..
  show _ ∧ _
  rw [hz]
  have he : IsEnum ((s.heap.push { cls := .type "tuple_iterator", data := .fields #[.ref l, .int 0 0] }).push
      { cls := .type "enumerate", data := .fields #[.none, .bool false, .ref s.heap.objs.size, rawInt 0, .none, .none] }) (s.heap.objs.size + 1) s.heap.objs.size 0 .none := by
    have := Heap.get?_push_size (s.heap.push { cls := .type "tuple_iterator", data := .fields #[.ref l, .int 0 0] })
      (o := { cls := .type "enumerate", data := .fields #[.none, .bool false, .ref s.heap.objs.size, rawInt 0, .none, .none] }) rfl
    rw [hz] at this; exact this
  refine ⟨⟨_, he, rfl⟩, h _ he ⟨_, Heap.get?_push_of_some _ (Heap.get?_push_size _ rfl), rfl, rfl⟩ (by rw [Heap.size_push, hz]) fun b o x => Heap.get?_push_of_some _ (Heap.get?_push_of_some _ x)⟩
end
open L2
def IteT (K : PySem.W.Frag) (a : Addr) : It :=
  ⟨fun i H => ∃ (xs : List V) (x : V), SqT K H a xs ∧ xs[i]? = some x, fun i H v H' => ∃ T x, v = .ref T ∧ H T = none ∧ H' = upd H T (.tup [.int (i : Nat), x]) ∧ ∀ xs, SqT K H a xs → xs[i]? = some x, fun i H => ∃ xs : List V, SqT K H a xs ∧ xs.length ≤ i⟩
theorem tup_apart {h : Heap} {a e it : Addr} {i : Int} {old : Value} {k : Nat} {items : Array Value} (he : IsEnum h e it i old) (hit : h.IsTupleIter it a k) (ht : h.IsTuple a items) : a ≠ e ∧ a ≠ it := by
  obtain ⟨o, ho, hc, n, hd⟩ := ht
  obtain ⟨o2, ho2, hc2, hd2⟩ := hit
  constructor
  · intro z
    subst z
    have q : h.get? a = some { cls := .type "enumerate", data := .fields #[.none, .bool false, .ref it, rawInt i, .none, old] } := he
    rw [ho] at q
    cases q
    cases hd
  · intro z
    subst z
    rw [ho] at ho2
    cases ho2
    rw [hd] at hd2
    cases hd2
theorem turn_enumT {P : Program} {w : World} {K : PySem.W.Frag} {elts : List Expr} {kk : Nat} {tpos : Pos} (a e it : Addr) :
    Turn P w K (.Tuple elts kk tpos) (IteT K a) [e, it] e (fun i h => (∃ old, IsEnum h e it ((i : Nat) : Int) old) ∧ h.IsTupleIter it a i ∧ e ≠ it) where
  mem := by simp
  obj := fun i h st b hb => by
    obtain ⟨⟨old, he⟩, ⟨o, ho, hc, hd⟩, _⟩ := st
    have e' : b = e ∨ b = it := by simpa using hb
    rcases e' with z | z
    · rw [z]; exact ⟨_, he, fun v q => nomatch q⟩
    · rw [z]; exact ⟨o, ho, fun v q => by rw [hd] at q; cases q⟩
  keep := fun i h h' st k => let ⟨⟨old, he⟩, hi, hne⟩ := st; ⟨⟨old, k e (by simp) _ he⟩, hi.at fun o q => k it (by simp) o q, hne⟩
  item := by
    intro X hP hw hK hc i pins s σ H E I hf st hg
    subst hP hw hK
    obtain ⟨⟨old, he⟩, hit, hne⟩ := st
    obtain ⟨xs, x, hq, hx⟩ := hg
    obtain ⟨its, rv, p, hz⟩ := I.tuple hq
    have p : s.heap.IsTuple a its.toArray := p
    obtain ⟨u, hu, ru⟩ := rv.get hx
    have hel : e < s.heap.objs.size := Heap.lt_size he
    have hil : it < s.heap.objs.size := by obtain ⟨_, q, _⟩ := hit; exact Heap.lt_size q
    obtain ⟨ne1, ne2⟩ := tup_apart he hit p
    have hi : i < its.toArray.size := by
      have := (List.getElem?_eq_some_iff.mp hu).1
      simpa using this
    refine wpAny_pyNext_enum_itemD (Draws.tuple (A := X.A.in1) (I.ok.hd hc) it a ne2 its.toArray) he ⟨hit, p⟩ hi hne (by simp [hne, Ne.symm ne1]) fun u' h' tk hu' ho ⟨hit', _⟩ hT hsz hk => ?_
    have eu : u' = u := by
      rw [List.getElem?_toArray, hu] at hu'
      exact (Option.some.inj hu').symm
    subst eu
    refine ⟨_, rfl, wpAny_letOwnedTupleGo_enum (s := { s with heap := h', toks := tk + 1 }) ho fun h'' he' sb => ?_⟩
    have hT2 : h''.get? s.heap.objs.size = some { cls := .type "tuple", data := .seq #[.int i tk, u'] } := (sb.2 _ (Nat.ne_of_gt hel)).trans hT
    have new : ObjOk X.prog X.w (upd H s.heap.objs.size (.tup [.int (i : Nat), x])) h'' s.heap.objs.size (.tup [.int (i : Nat), x]) :=
      ⟨by show 2 ≤ sizeLine; decide, [.int i tk, u'], .cons ⟨_, rfl⟩ (.cons ru .nil), ⟨_, hT2, rfl, _, rfl⟩⟩
    have I1 : Inv X pins σ (upd H s.heap.objs.size (.tup [.int (i : Nat), x])) { s with heap := h'', toks := tk + 1 } :=
      I.turnedNew (ch := [e, it]) (fun b ob hb q => (sb.2 b (fun z => hb (by simp [z]))).trans (hk b ob (fun z => hb (by simp [z])) (fun z => hb (by simp [z])) q)) hf (Nat.le_refl _) new
    refine ⟨.ref s.heap.objs.size, _, I1, rfl, ⟨_, x, rfl, I.hok.fresh (Nat.le_refl _), rfl, fun ys hy => by rw [I.tuple_inj hy hq]; exact hx⟩, ⟨⟨u', ?_⟩, hit'.at fun o q => (sb.2 it (Ne.symm hne)).trans q, hne⟩, fun b hb => ?_⟩
    · have e1 : ((i + 1 : Nat) : Int) = (i : Int) + 1 := by omega
      rw [e1]; exact he'
    · have hb' : b < s.heap.objs.size := by
        have e' : b = e ∨ b = it := by simpa using hb
        rcases e' with z | z
        · rw [z]; exact hel
        · rw [z]; exact hil
      rw [upd_ne (Nat.ne_of_lt hb')]
      exact (hf b hb).1
  done := by
    intro X hP hw hK hc i pins s σ H E I hf st hg
    subst hP hw hK
    obtain ⟨⟨old, he⟩, hit, hne⟩ := st
    obtain ⟨xs, hq, hx⟩ := hg
    obtain ⟨its, rv, p, hz⟩ := I.tuple hq
    have p : s.heap.IsTuple a its.toArray := p
    obtain ⟨f0, f1, f2, f3, f4, f5⟩ := hf it (by simp)
    have hl := rv.length
    have hT : s.TypeIs (.ref e) "enumerate" := ⟨_, he, rfl⟩
    unfold pyNext
    refine wpAny_bind (wpAny_attempt (wpAny_callSpecial?_slot (name := Str.ofString "__next__") hT F.slot_enumerate_next
      (wpAny_call_entry F.slot_enumerate_next hT F.entry_enumerate_next ?_ (F.args_enumerate_next_1 _))))
    show wpAny _ _ (field (.ref e) 2 >>= _) _ _ _
    refine wpAny_bind (wpAny_field he rfl (x := .ref it) rfl ?_)
    refine wpAny_bind (RZ.nextOf_tuple_end (I.ok.hd hc) hit p (by simp; omega) fun h' x he' hx' => ?_)
    obtain ⟨o, ho, hc⟩ := hx'
    refine wpAny_bind (wpAny_isInstance (T := "StopIteration") (b := true) ⟨o, ho, hc⟩ isSubtype_stop ?_)
    exact wpAny_pure ⟨rfl, I.turned (t' := s.toks) (fun b o hb q => he' b o hb q) f0 f1 f3 f4 f5⟩
  self := fun A i s Q E st h => let ⟨⟨_, he⟩, _⟩ := st; wpAny_pyIter_enum he h
theorem walk_enumT {K : PySem.W.Frag} {a : Addr} {xs : List V} : Walk (IteT K a) xs.length (fun H => SqT K H a xs) (YPair (fun i => some (.int (i : Nat))) (fun i => xs[i]?)) := by
  refine ⟨fun i _ hi q => ⟨xs, xs[i], q, by simp [hi]⟩, fun _ q => ⟨xs, q, Nat.le_refl _⟩, fun i H v H' _ q y => ?_⟩
  obtain ⟨T, x, h1, h2, h3, h4⟩ := y
  exact ⟨T, .int (i : Nat), x, h1, h2, h3, rfl, h4 xs q⟩
def iEnumA (K : PySem.W.Frag) (ta : TA) : TI := fun σ H R => ta σ H fun vs H1 => (∃ a xs, vs = [.ref a] ∧ SqL K H1 a xs ∧ R (Ite K a) H1) ∨ (∃ a xs, vs = [.ref a] ∧ SqT K H1 a xs ∧ R (IteT K a) H1)
theorem pi_enumA {X : Cx} {e : Expr} {ta : TA} {p pos tpos : Pos} {elts : List Expr} {kk : Nat} (hg : Gl X "enumerate") (hm : X.mg "enumerate" = none) (ha : PA X [e] ta) (hs : starEach [e] X.env = [(false, eval e X.env)] := by rfl) :
    PI X (.Tuple elts kk tpos) (.Call (.Name "enumerate" p) [e] [] pos) (iEnumA X.K ta) := by
  refine ⟨fun pins s σ H R I h => ?_⟩
  refine Call_ (ld_blt I hg hm boot_enumerate (PyProof.Rows.callWith_type1 (thn (ha.run pos pins s σ H _ I h) fun us s1 ⟨vs, H1, I1, r1, q1⟩ => ?_) hs rfl))
  rcases q1 with ⟨a, xs, ex, hq, q⟩ | ⟨a, xs, ex, hq, q⟩
  · subst ex
    cases r1 with
    | cons r rr =>
      cases rr
      cases r
      obtain ⟨its, rv, p', hz⟩ := I1.list hq
      refine call_enumerate_list p'.isList fun h' he hit hsz hk => wpAny_pyIter_enum he ?_
      have I2 : Inv X pins σ H1 { s1 with heap := h' } := I1.kept (t' := s1.toks) hk
      refine ⟨s1.heap.objs.size + 1, [s1.heap.objs.size + 1, s1.heap.objs.size], _, _, H1, rfl, I2, turn_enum a (s1.heap.objs.size + 1) s1.heap.objs.size, ⟨⟨.none, he⟩, hit, Nat.succ_ne_self _⟩, fun b hb => ?_, q⟩
      have e' : b = s1.heap.objs.size + 1 ∨ b = s1.heap.objs.size := by simpa using hb
      have hle : s1.heap.objs.size ≤ b := by
        rcases e' with z | z
        · rw [z]; exact Nat.le_add_right _ _
        · rw [z]; exact Nat.le_refl _
      exact I1.fpOk hle (I1.hok.fresh hle)
  · subst ex
    cases r1 with
    | cons r rr =>
      cases rr
      cases r
      obtain ⟨its, rv, p', hz⟩ := I1.tuple hq
      refine call_enumerate_tuple (show s1.heap.IsTuple a its.toArray from p') fun h' he hit hsz hk => wpAny_pyIter_enum he ?_
      have I2 : Inv X pins σ H1 { s1 with heap := h' } := I1.kept (t' := s1.toks) hk
      refine ⟨s1.heap.objs.size + 1, [s1.heap.objs.size + 1, s1.heap.objs.size], _, _, H1, rfl, I2, turn_enumT a (s1.heap.objs.size + 1) s1.heap.objs.size, ⟨⟨.none, he⟩, hit, Nat.succ_ne_self _⟩, fun b hb => ?_, q⟩
      have e' : b = s1.heap.objs.size + 1 ∨ b = s1.heap.objs.size := by simpa using hb
      have hle : s1.heap.objs.size ≤ b := by
        rcases e' with z | z
        · rw [z]; exact Nat.le_add_right _ _
        · rw [z]; exact Nat.le_refl _
      exact I1.fpOk hle (I1.hok.fresh hle)
end ViEn
/-! Vi, more that is walked: enumerate, dicts, ranges down. -/
namespace Vi
open PySem PySem.Spec PyProof.Rows L2 RZ
section
variable {X : Cx} {Γ : Wh} {look : List Nat} {ρ : Env} {σ : L2.St} {W : Wd} {H : Hp}
theorem enumL_len : ∀ (n : Nat) (xs : List P), (enumL n xs).length = xs.length
  | _, [] => rfl
  | n, x :: r => by rw [enumL, List.length_cons, List.length_cons, enumL_len (n + 1) r]
theorem enumL_get : ∀ (n : Nat) (xs : List P) (i : Nat) (p : P), xs[i]? = some p → (enumL n xs)[i]? = some (.tup [.int ((n + i : Nat) : Int), p])
  | _, [], _, _, e => by simp at e
  | n, x :: r, 0, p, e => by
    simp at e; subst e
    rfl
  | n, x :: r, i + 1, p, e => by
    rw [enumL, List.getElem?_cons_succ]
    rw [enumL_get (n + 1) r i p (by simpa using e)]
    rw [show n + 1 + i = n + (i + 1) by omega]
theorem iter_enum {R : Rc} (look : List Nat) {xs : List P} {vs : List V} {G : Hp → Prop} {Jt : It} (rx : RpL R W.D W.ι xs vs) (w : Walk Jt vs.length G (YPair (fun i => some (.int (i : Nat))) (fun i => vs[i]?)))
    (hG : ∀ W' H', W.le W' → Sub W'.D H' → G H') (zl : xs.length ≤ lim) : IterOk R look ρ σ W (enumL 0 xs) Jt := by
  have e : (enumL 0 xs).length = vs.length := by rw [enumL_len, rx.length]
  refine ⟨[], G, _, by rw [e, rx.length]; exact zl, fun q hq => absurd hq (by simp), e ▸ w, fun W' H' l s _ => hG W' H' l s, fun i W' H' x H'' hi l s _ y => ?_⟩
  obtain ⟨T, y, z, h1, h2, h3, h4, h5⟩ := y
  rw [enumL_len] at hi
  obtain ⟨p, ep⟩ := getLt hi
  obtain ⟨v, ev, rv⟩ := rx.get ep
  have h4 : some (V.int (i : Nat)) = some y := h4
  have h5 : vs[i]? = some z := h5
  cases h4
  rw [ev] at h5
  cases h5
  refine ⟨.tup [.int (i : Nat), p], ?_, .inr (.inr ⟨T, _, z, .int (i : Nat), p, h1, h2, h3, rfl, .int _, rv.mono l.1 l.2⟩)⟩
  rw [enumL_get 0 xs i p ep, Nat.zero_add]
theorem i_enum {a : Expr} {p pos tpos : Pos} {elts : List Expr} {kk : Nat} {da : Env → M P} (hK : Γ.R.K = X.K) (hg : Gl X "enumerate") (hm : X.mg "enumerate" = none) (ha : PE X a (tE Γ da)) (hs : starEach [a] X.env = [(false, eval a X.env)]) :
    PI X (.Tuple elts kk tpos) (.Call (.Name "enumerate" p) [a] [] pos) (tI Γ look fun ρ => (da ρ).bind fun x => M.ofO (xi .enum [x])) := by
  refine ⟨fun pins s σ H Rr I h => (ViEn.pi_enumA hg hm (pa_cons ha pa_nil (by rw [hs]; rfl)) hs).run pins s σ H Rr I ?_⟩
  obtain ⟨ρ, W, j, h⟩ := h
  refine ⟨ρ, W, j, GC.imp (GC.bind h) fun x H1 ⟨p, W1, j1, l1, r1, h1⟩ => ?_⟩
  have hD := j1.b.ok.sub
  have r1 : Rp Γ.R W1.D W1.ι p x := r1
  cases p with
  | lst xs =>
    cases r1 with
    | lst q1 l1' z1 =>
      refine .inl ⟨_, _, rfl, .inl (hD.rd q1), ?_⟩
      exact GC.pure (rel := relI Γ look) (a := enumL 0 xs) j1 h1 (iter_enum look l1' walk_enum (fun W' H' l s => .inl (s.rd (l.1.rd q1))) z1)
  | tup xs =>
    cases r1 with
    | tup q1 l1' z1 =>
      refine .inr ⟨_, _, rfl, hK ▸ hD.sqT q1.sqT, ?_⟩
      exact GC.pure (rel := relI Γ look) (a := enumL 0 xs) j1 h1 (iter_enum look l1' ViEn.walk_enumT (fun W' H' l s => hK ▸ s.sqT (l.1.sqT q1.sqT)) z1)
  | _ => exact (show False from h1).elim
/-! dicts -/
theorem Rp.key {R : Rc} {D : Hp} {ι : List Addr} (k : Key) : Rp R D ι (kP k) (kV k) := by
  cases k with
  | inl i => exact .int i
  | inr s => exact .str s
theorem RpL.keys {R : Rc} {D : Hp} {ι : List Addr} : ∀ ks : List Key, RpL R D ι (ks.map kP) (ks.map kV)
  | [] => .nil
  | k :: r => .cons (Rp.key k) (RpL.keys r)
/-- what is known of the keys' lengths: a tuple's length has a bound -/
theorem iter_keys {R : Rc} (look : List Nat) {d : Addr} {o : Obj} {kvs : List (Key × V)} (h : W.D d = some (.frz o (.dK kvs))) (zl : kvs.length ≤ lim) : IterOk R look ρ σ W (kvs.map fun p => kP p.1) (Itk d o kvs) := by
  have e : (kvs.map fun p => kP p.1).length = kvs.length := List.length_map ..
  refine ⟨[], _, _, by rw [e]; exact zl, fun q hq => absurd hq (by simp), e ▸ walk_keys, fun W' H' l s _ => s _ _ (l.1 _ _ h), fun i W' H' x H'' hi l s _ y => ?_⟩
  obtain ⟨e1, k, v, ek, rfl⟩ := y
  exact ⟨kP k, by rw [List.getElem?_map, ek]; rfl, .inl ⟨e1, Rp.key k⟩⟩
theorem iter_vals {R : Rc} (look : List Nat) {d : Addr} {o : Obj} {kvs : List (Key × V)} {vs : List P} (h : W.D d = some (.frz o (.dK kvs))) (r : RpL R W.D W.ι vs (kvs.map (·.2))) (zl : kvs.length ≤ lim) : IterOk R look ρ σ W vs (Itd d o kvs) := by
  have e : vs.length = kvs.length := by rw [← r.length, List.length_map]
  refine ⟨[], _, _, by rw [e]; exact zl, fun q hq => absurd hq (by simp), e ▸ walk_values, fun W' H' l s _ => s _ _ (l.1 _ _ h), fun i W' H' x H'' hi l s _ y => ?_⟩
  obtain ⟨e1, k, ek⟩ := y
  obtain ⟨p, ep⟩ := getLt hi
  obtain ⟨u, eu, ru⟩ := r.get ep
  rw [List.getElem?_map, ek] at eu
  cases eu
  exact ⟨p, ep, .inl ⟨e1, ru.mono l.1 l.2⟩⟩
theorem zipPs_len : ∀ (ks vs : List P), vs.length = ks.length → (zipPs ks vs).length = ks.length
  | [], [], _ => rfl
  | [], _ :: _, h => by simp at h
  | _ :: _, [], h => by simp at h
  | k :: ks, v :: vs, h => by
    rw [zipPs, List.length_cons, List.length_cons, zipPs_len ks vs (by simpa using h)]
theorem zipPs_get : ∀ (ks vs : List P) (i : Nat) (k v : P), ks[i]? = some k → vs[i]? = some v → (zipPs ks vs)[i]? = some (.tup [k, v])
  | [], _, _, _, _, h, _ => by simp at h
  | _ :: _, [], _, _, _, _, h => by simp at h
  | k0 :: ks, v0 :: vs, 0, k, v, h, h' => by
    simp at h h'; subst h h'
    rfl
  | k0 :: ks, v0 :: vs, i + 1, k, v, h, h' => by
    rw [zipPs, List.getElem?_cons_succ]
    exact zipPs_get ks vs i k v (by simpa using h) (by simpa using h')
theorem iter_items {R : Rc} (look : List Nat) {d : Addr} {o : Obj} {kvs : List (Key × V)} {vs : List P} (h : W.D d = some (.frz o (.dK kvs))) (r : RpL R W.D W.ι vs (kvs.map (·.2))) (zl : kvs.length ≤ lim) : IterOk R look ρ σ W (zipPs (kvs.map fun p => kP p.1) vs) (Iti d o kvs) := by
  have e0 : vs.length = kvs.length := by rw [← r.length, List.length_map]
  have e : (zipPs (kvs.map fun p => kP p.1) vs).length = kvs.length := by rw [zipPs_len _ _ (by rw [List.length_map]; exact e0), List.length_map]
  refine ⟨[], _, _, by rw [e]; exact zl, fun q hq => absurd hq (by simp), e ▸ walk_items, fun W' H' l s _ => s _ _ (l.1 _ _ h), fun i W' H' x H'' hi l s _ y => ?_⟩
  obtain ⟨T, y, z, h1, h2, h3, h4, h5⟩ := y
  rw [e] at hi
  obtain ⟨p, ep⟩ := getLt (xs := vs) (i := i) (by rw [e0]; exact hi)
  obtain ⟨u, eu, ru⟩ := r.get ep
  have ek : kvs[i]? = some kvs[i] := List.getElem?_eq_getElem hi
  have h4 : kvs[i]?.map (fun kv => kV kv.1) = some y := h4
  have h5 : kvs[i]?.map Prod.snd = some z := h5
  rw [List.getElem?_map, ek] at eu
  rw [ek] at h4 h5
  cases h4
  cases h5
  cases eu
  exact ⟨.tup [kP kvs[i].1, p], zipPs_get _ _ i _ _ (by rw [List.getElem?_map, ek]; rfl) ep, .inr (.inr ⟨T, _, _, _, p, h1, h2, h3, rfl, Rp.key _, ru.mono l.1 l.2⟩)⟩
theorem iter_keysT {R : Rc} (look : List Nat) {d : Addr} {o : Obj} {kvs : ViDx.KX} (h : W.D d = some (.frz o (ViDx.DX R.pr R.w d kvs))) (hk : ∀ p ∈ kvs, TpA R.K W.D p.2.1 (p.1.map kV) ∧ p.1.length ≤ lim) (zl : kvs.length ≤ lim) : IterOk R look ρ σ W (kvs.map fun p => P.tup (p.1.map kP)) (ViDx.Itx d o R.pr R.w kvs) := by
  have e : (kvs.map fun p => P.tup (p.1.map kP)).length = kvs.length := List.length_map ..
  refine ⟨[], _, _, by rw [e]; exact zl, fun q hq => absurd hq (by simp), e ▸ ViDx.walk_keysX, fun W' H' l s _ => s _ _ (l.1 _ _ h), fun i W' H' x H'' hi l s _ y => ?_⟩
  obtain ⟨e1, k, q, v, ek, rfl⟩ := y
  have hq := hk _ (List.mem_of_getElem? ek)
  exact ⟨P.tup (k.map kP), by rw [List.getElem?_map, ek]; rfl, .inl ⟨e1, .tup (l.1.tpA hq.1) (RpL.keys k) (by rw [List.length_map]; exact hq.2)⟩⟩
/-- a dict's keys -/
theorem i_keys {tg e : Expr} {de : Env → M P} (hP : Γ.R.pr = X.prog) (hW : Γ.R.w = X.w) (he : PE X e (tE Γ de)) : PI X tg e (tI Γ look fun ρ => (de ρ).bind fun x => M.ofO (xi .keys [x])) := by
  refine ⟨fun pins s σ H Rr I h => (ViDx.pi_keys he).run pins s σ H Rr I ?_⟩
  obtain ⟨ρ, W, j, h⟩ := h
  refine ⟨ρ, W, j, GC.imp (GC.bind h) fun x H1 ⟨p, W1, j1, l1, r1, h1⟩ => ?_⟩
  have hD := j1.b.ok.sub
  have r1 : Rp Γ.R W1.D W1.ι p x := r1
  cases p with
  | dct t ks vs =>
    cases r1 with
    | dctK q r z => exact ⟨_, _, rfl, .inl ⟨_, hD _ _ q, GC.pure (rel := relI Γ look) (a := _) j1 h1 (iter_keys look q z)⟩⟩
    | dctT q r z zk =>
      refine ⟨_, _, rfl, .inr ⟨_, hP ▸ hW ▸ hD _ _ q, ?_⟩⟩
      rw [← hP, ← hW]
      exact GC.pure (rel := relI Γ look) (a := _) j1 h1 (iter_keysT look q zk z)
  | _ => exact (show False from h1).elim
theorem i_values {tg e : Expr} {de : Env → M P} {apos cpos : Pos} (he : PE X e (tE Γ de)) (hbase : attributeBase e "values" X.env (eval e X.env) = eval e X.env) (hline : (apos.endLine == cpos.line) = true) : PI X tg (.Call (.Attribute e "values" apos) [] [] cpos) (tI Γ look fun ρ => (de ρ).bind fun x => M.ofO (xi .values [x])) := by
  refine ⟨fun pins s σ H Rr I h => (pi_values he hbase hline).run pins s σ H Rr I ?_⟩
  obtain ⟨ρ, W, j, h⟩ := h
  refine ⟨ρ, W, j, GC.imp (GC.bind h) fun x H1 ⟨p, W1, j1, l1, r1, h1⟩ => ?_⟩
  have hD := j1.b.ok.sub
  have r1 : Rp Γ.R W1.D W1.ι p x := r1
  cases p with
  | dct t ks vs =>
    cases r1 with
    | dctK q r z => exact ⟨_, _, _, rfl, hD _ _ q, GC.pure (rel := relI Γ look) (a := vs) j1 h1 (iter_vals look q r z)⟩
    | dctT q r z zk => exact (show False from h1).elim
  | _ => exact (show False from h1).elim
theorem i_items {elts : List Expr} {kk : Nat} {tpos : Pos} {e : Expr} {de : Env → M P} {apos cpos : Pos} (he : PE X e (tE Γ de)) (hbase : attributeBase e "items" X.env (eval e X.env) = eval e X.env) (hline : (apos.endLine == cpos.line) = true) : PI X (.Tuple elts kk tpos) (.Call (.Attribute e "items" apos) [] [] cpos) (tI Γ look fun ρ => (de ρ).bind fun x => M.ofO (xi .items [x])) := by
  refine ⟨fun pins s σ H Rr I h => (pi_items he hbase hline).run pins s σ H Rr I ?_⟩
  obtain ⟨ρ, W, j, h⟩ := h
  refine ⟨ρ, W, j, GC.imp (GC.bind h) fun x H1 ⟨p, W1, j1, l1, r1, h1⟩ => ?_⟩
  have hD := j1.b.ok.sub
  have r1 : Rp Γ.R W1.D W1.ι p x := r1
  cases p with
  | dct t ks vs =>
    cases r1 with
    | dctK q r z => exact ⟨_, _, _, rfl, hD _ _ q, GC.pure (rel := relI Γ look) (a := _) j1 h1 (iter_items look q r z)⟩
    | dctT q r z zk => exact (show False from h1).elim
  | _ => exact (show False from h1).elim
theorem iter_rngN {R : Rc} (look : List Nat) {lo : Int} {n : Nat} (zl : n ≤ lim) : IterOk R look ρ σ W (rngNeg lo n) (Itc lo (-1) n) := by
  have e : (rngNeg lo n).length = n := by simp [rngNeg]
  refine ⟨[], fun _ => True, YFn fun i => .int (lo + (i : Nat) * (-1)), by rw [e]; exact zl, fun q hq => absurd hq (by simp), ?_, fun _ _ _ _ _ => trivial, fun i W' H' x H'' hi l s _ y => ?_⟩
  · have w := walk_rangeC (lo := lo) (c := -1) (n := n)
    rw [e]
    exact w
  · obtain ⟨e1, rfl⟩ := y
    refine ⟨.int (lo + (i : Nat) * (-1)), ?_, .inl ⟨e1, .int _⟩⟩
    rw [e] at hi
    unfold rngNeg
    rw [List.getElem?_map, List.getElem?_range hi, Option.map_some]
    congr 2
    omega
theorem xi_rng3 {ps r : List P} (h : xi .rng3 ps = some r) : ∃ i j : Int, ps = [.int i, .int j, .int (-1)] ∧ -(lim : Int) ≤ i ∧ i < (lim : Int) ∧ -1 ≤ j ∧ j ≤ (lim : Int) ∧ r = rngNeg i (i - j).toNat := by
  match ps, h with
  | [.int i, .int j, .int k], h =>
    have h : (if decide (k = -1) && lei (-(lim : Int)) i && lei (i + 1) (lim : Int) && lei (-1) j && lei j (lim : Int) then some (rngNeg i (i - j).toNat) else none) = some r := h
    rw [lei_eq, lei_eq, lei_eq, lei_eq, show decide (i + 1 ≤ (lim : Int)) = decide (i < (lim : Int)) from decide_eq_decide.mpr (by omega)] at h
    split at h
    · rename_i hz
      cases h
      simp only [Bool.and_eq_true, decide_eq_true_eq] at hz
      obtain ⟨⟨⟨⟨rfl, g1⟩, g2⟩, g3⟩, g4⟩ := hz
      exact ⟨i, j, rfl, g1, g2, g3, g4, rfl⟩
    · cases h
theorem i_rng3 {tg a b c : Expr} {p pos : Pos} {ds : Env → M (List P)} (hg : Gl X "range") (hm : X.mg "range" = none) (ha : PA X [a, b, c] (tOs Γ ds)) (hs : starEach [a, b, c] X.env = (false, eval a X.env) :: starEach [b, c] X.env) (hpl : (backTo pos (starEach [b, c] X.env)).any (fun x => x.1) = false) :
    PI X tg (.Call (.Name "range" p) [a, b, c] [] pos) (tI Γ look fun ρ => (ds ρ).bind fun xs => M.ofO (xi .rng3 xs)) := by
  refine ⟨fun pins s σ H Rr I h => (pi_range3 hg hm ha hs hpl).run pins s σ H Rr I ?_⟩
  obtain ⟨ρ, W, j, h⟩ := h
  refine ⟨ρ, W, j, GC.imp (GC.bind h) fun vs H1 ⟨ps, W1, j1, l1, r1, h1⟩ => ?_⟩
  have r1 := OpL.vw j1 (show OpL Γ.R ρ σ W1 ps vs from r1)
  have hb := big_eq
  have hl : ((lim : Nat) : Int) = 16777216 := rfl
  cases e : xi .rng3 ps with
  | none => rw [e] at h1; exact (show False from h1).elim
  | some r =>
    rw [e] at h1
    obtain ⟨i, jj, rfl, g1, g2, g3, g4, rfl⟩ := xi_rng3 e
    cases r1 with
    | cons v1 t1 =>
      cases t1 with
      | cons v2 t2 =>
        cases t2 with
        | cons v3 t3 =>
          cases t3
          cases v1.toInt
          cases v2.toInt
          cases v3.toInt
          exact ⟨i, jj, -1, (i - jj).toNat, rfl, RgC.neg (by omega) (by omega) (by omega) (by omega), GC.pure (a := rngNeg i (i - jj).toNat) (x := Itc i (-1) (i - jj).toNat) j1 h1 (iter_rngN look (by omega))⟩
end
end Vi
/-! Vi, stores and comprehensions. -/
namespace Vi
open PySem PySem.Spec PyProof.Rows L2

section
variable {R : Rc} {T : List (Addr × Str)} {N : En} {ρ ρ' : Env} {W W' : Wd} {σ : L2.St} {H H' : Hp}
/-- a name is stored -/
theorem J.put (j : J R T N ρ W σ H) {i : Nat} {p : P} {v : V} (r : Rp R W.D W.ι p v) : J R T N (put ρ i p) W (σ.set i (some v)) H where
  b := j.b
  len := by
    show (σ.set i (some v)).length = (ρ.set i (.val p)).length
    rw [List.length_set, List.length_set]; exact j.len
  val := fun k q e => by
    by_cases hk : i = k
    · subst hk
      have hi : i < ρ.length := by
        have := (List.getElem?_eq_some_iff.mp e).1
        rwa [show (Vi.put ρ i p).length = ρ.length from List.length_set] at this
      rw [show (Vi.put ρ i p)[i]? = some (Sl.val p) from List.getElem?_set_self hi] at e
      cases e
      exact ⟨v, List.getElem?_set_self (by rw [j.len]; exact hi), r⟩
    · rw [show (Vi.put ρ i p)[k]? = ρ[k]? from List.getElem?_set_ne hk] at e
      obtain ⟨u, h1, h2⟩ := j.val k q e
      exact ⟨u, by rw [List.getElem?_set_ne hk]; exact h1, h2⟩
  own := fun k q e => by
    by_cases hk : i = k
    · subst hk
      have hi : i < ρ.length := by
        have := (List.getElem?_eq_some_iff.mp e).1
        rwa [show (Vi.put ρ i p).length = ρ.length from List.length_set] at this
      rw [show (Vi.put ρ i p)[i]? = some (Sl.val p) from List.getElem?_set_self hi] at e
      cases e
    · rw [show (Vi.put ρ i p)[k]? = ρ[k]? from List.getElem?_set_ne hk] at e
      obtain ⟨a, h1, h2⟩ := j.own k q e
      exact ⟨a, by rw [List.getElem?_set_ne hk]; exact h1, h2⟩
  ext := j.ext
  sepx := fun q hq k p' e => by
    by_cases hk : i = k
    · subst hk
      have hi : i < ρ.length := by
        have := (List.getElem?_eq_some_iff.mp e).1
        rwa [show (Vi.put ρ i p).length = ρ.length from List.length_set] at this
      rw [show (Vi.put ρ i p)[i]? = some (Sl.val p) from List.getElem?_set_self hi] at e
      cases e
    · rw [show (Vi.put ρ i p)[k]? = ρ[k]? from List.getElem?_set_ne hk] at e
      rw [List.getElem?_set_ne hk]
      exact j.sepx q hq k p' e
  nodx := j.nodx
  sep := fun k l p1 q1 a e1 e2 e3 e4 => by
    have ne : ∀ {k : Nat} {q : P}, (Vi.put ρ i p)[k]? = some (Sl.own q) → i ≠ k ∧ ρ[k]? = some (Sl.own q) := fun {k q} e => by
      by_cases hk : i = k
      · subst hk
        have hi : i < ρ.length := by
          have := (List.getElem?_eq_some_iff.mp e).1
          rwa [show (Vi.put ρ i p).length = ρ.length from List.length_set] at this
        rw [show (Vi.put ρ i p)[i]? = some (Sl.val p) from List.getElem?_set_self hi] at e
        cases e
      · rw [show (Vi.put ρ i p)[k]? = ρ[k]? from List.getElem?_set_ne hk] at e
        exact ⟨hk, e⟩
    obtain ⟨n1, g1⟩ := ne e1
    obtain ⟨n2, g2⟩ := ne e2
    rw [List.getElem?_set_ne n1] at e3
    rw [List.getElem?_set_ne n2] at e4
    exact j.sep k l p1 q1 a g1 g2 e3 e4
/-- a slot is forgotten -/
theorem J.un (j : J R T N ρ W σ H) (i : Nat) : J R T N (ρ.set i .un) W (σ.set i none) H := by
  have ne : ∀ {k : Nat} {s : Sl}, (ρ.set i .un)[k]? = some s → s ≠ .un → i ≠ k ∧ ρ[k]? = some s := fun {k s} e n => by
    by_cases hk : i = k
    · subst hk
      have hi : i < ρ.length := by
        have := (List.getElem?_eq_some_iff.mp e).1
        rwa [List.length_set] at this
      rw [List.getElem?_set_self hi] at e
      exact absurd (Option.some.inj e).symm n
    · rw [List.getElem?_set_ne hk] at e
      exact ⟨hk, e⟩
  refine ⟨j.b, by rw [List.length_set, List.length_set]; exact j.len, fun k q e => ?_, fun k q e => ?_, j.ext, fun q hq k p e => ?_, j.nodx, fun k l p q a e1 e2 e3 e4 => ?_⟩
  · obtain ⟨n, e⟩ := ne e (fun z => by cases z)
    rw [List.getElem?_set_ne n]
    exact j.val k q e
  · obtain ⟨n, e⟩ := ne e (fun z => by cases z)
    rw [List.getElem?_set_ne n]
    exact j.own k q e
  · obtain ⟨n, e⟩ := ne e (fun z => by cases z)
    rw [List.getElem?_set_ne n]
    exact j.sepx q hq k p e
  · obtain ⟨n1, g1⟩ := ne e1 (fun z => by cases z)
    obtain ⟨n2, g2⟩ := ne e2 (fun z => by cases z)
    rw [List.getElem?_set_ne n1] at e3
    rw [List.getElem?_set_ne n2] at e4
    exact j.sep k l p q a g1 g2 e3 e4
/-- the same slots, in whatever order they are forgotten -/
theorem wipe_comm (σ : L2.St) (i : Nat) : ∀ vs : List Nat, wipe (σ.set i none) vs = (wipe σ vs).set i none
  | [] => rfl
  | v :: vs => by
    show (wipe (σ.set i none) vs).set v none = ((wipe σ vs).set v none).set i none
    rw [wipe_comm σ i vs]
    by_cases h : i = v
    · subst h; rfl
    · exact List.set_comm _ _ h
theorem wipe_alt (σ : L2.St) (v : Nat) (vs : List Nat) : wipe σ (v :: vs) = wipe (σ.set v none) vs := (wipe_comm σ v vs).symm
theorem J.wipe : ∀ {vs : List Nat} {ρ : Env} {σ : L2.St}, J R T N ρ W σ H → J R T N (wipes ρ vs) W (L2.wipe σ vs) H
  | [], _, _, j => j
  | v :: vs, ρ, σ, j => by
    rw [wipe_alt]
    exact J.wipe (vs := vs) (j.un v)
theorem wipe_put {σ : L2.St} {x : Option V} {i : Nat} : ∀ {vs : List Nat}, i ∈ vs → L2.wipe (σ.set i x) vs = L2.wipe σ vs
  | v :: vs, h => by
    rw [wipe_alt, wipe_alt]
    by_cases hv : i = v
    · subst hv; rw [List.set_set]
    · rw [List.set_comm _ _ hv]
      exact wipe_put (by rcases List.mem_cons.mp h with e | e; exact absurd e hv; exact e)
theorem wipes_put {ρ : Env} {x : Sl} {i : Nat} : ∀ {vs : List Nat}, i ∈ vs → wipes (ρ.set i x) vs = wipes ρ vs
  | v :: vs, h => by
    show wipes ((ρ.set i x).set v .un) vs = wipes (ρ.set v .un) vs
    by_cases hv : i = v
    · subst hv; rw [List.set_set]
    · rw [List.set_comm _ _ hv]
      exact wipes_put (by rcases List.mem_cons.mp h with e | e; exact absurd e hv; exact e)
  | [], h => absurd h (by simp)
theorem wipe_idem {σ : L2.St} : ∀ (vs us : List Nat), (∀ i ∈ us, i ∈ vs) → L2.wipe (L2.wipe σ us) vs = L2.wipe σ vs
  | vs, [], _ => rfl
  | vs, u :: us, h => by
    show L2.wipe ((L2.wipe σ us).set u none) vs = _
    rw [wipe_put (h u (by simp))]
    exact wipe_idem vs us fun i hi => h i (by simp [hi])
theorem wipes_idem : ∀ {ρ : Env} (vs us : List Nat), (∀ i ∈ us, i ∈ vs) → wipes (wipes ρ us) vs = wipes ρ vs
  | ρ, vs, [], _ => rfl
  | ρ, vs, u :: us, h => by
    show wipes (wipes (ρ.set u .un) us) vs = _
    rw [wipes_idem vs us fun i hi => h i (by simp [hi]), wipes_put (h u (by simp))]
theorem wipes_get {i : Nat} : ∀ {vs : List Nat} {ρ : Env}, i ∉ vs → (wipes ρ vs)[i]? = ρ[i]?
  | [], _, _ => rfl
  | v :: vs, ρ, h => by
    show (wipes (ρ.set v .un) vs)[i]? = _
    rw [wipes_get (fun z => h (by simp [z])), List.getElem?_set_ne (fun z => h (by simp [z]))]
theorem wipe_get {i : Nat} : ∀ {vs : List Nat} {σ : L2.St}, i ∉ vs → (L2.wipe σ vs)[i]? = σ[i]?
  | [], _, _ => rfl
  | v :: vs, σ, h => by
    rw [wipe_alt, wipe_get (fun z => h (by simp [z])), List.getElem?_set_ne (fun z => h (by simp [z]))]

/-! ### targets -/
def gNames : List Nat → TGs
  | [] => gNil
  | i :: r => gCons (gName i) (gNames r)
def gT (K : PySem.W.Frag) : Tg → TG
  | .n i => gName i
  | .t is => gTup K is.length (gNames is)
  | .p i js => gTup K 2 (gCons (gName i) (gCons (gTup K js.length (gNames js)) gNil))
def tgS : Tg → List Nat
  | .n i => [i]
  | .t is => is
  | .p i js => i :: js
theorem store_names {Q : L2.St → Hp → Prop} {own : List Nat} : ∀ {is : List Nat} {ps : List P} {vs : List V} {ρ ρ' : Env} {σ : L2.St}, J R T N ρ W σ H → RpL R W.D W.ι ps vs → puts ρ is ps = some ρ' → (∀ i ∈ is, i ∈ own) →
    (∀ σ', J R T N ρ' W σ' H → L2.wipe σ' own = L2.wipe σ own → wipes ρ' own = wipes ρ own → Q σ' H) → gNames is vs σ H Q
  | [], [], _, ρ, _, σ, j, .nil, e, _, q => by
    cases e
    exact ⟨rfl, q σ j rfl rfl⟩
  | i :: is, p :: ps, _, ρ, ρ', σ, j, .cons r rr, e, ho, q => by
    refine ⟨_, _, rfl, ?_⟩
    refine store_names (j.put (i := i) r) rr e (fun k hk => ho k (by simp [hk])) fun σ' j' e1 e2 => q σ' j' ?_ ?_
    · rw [e1, wipe_put (ho i (by simp))]
    · rw [e2]
      exact wipes_put (ho i (by simp))
  | [], _ :: _, _, _, _, _, _, _, e, _, _ => by cases e
  | _ :: _, [], _, _, _, _, _, _, e, _, _ => by cases e
theorem puts_len : ∀ {is : List Nat} {ps : List P} {ρ ρ' : Env}, puts ρ is ps = some ρ' → ps.length = is.length
  | [], [], _, _, _ => rfl
  | i :: is, p :: ps, ρ, ρ', e => by
    rw [List.length_cons, List.length_cons, puts_len (show puts (put ρ i p) is ps = some ρ' from e)]
  | [], _ :: _, _, _, e => by cases e
  | _ :: _, [], _, _, e => by cases e
theorem store_tg {K : PySem.W.Frag} (hK : R.K = K) {Q : L2.St → Hp → Prop} {tg : Tg} {own : List Nat} {p : P} {v : V} (j : J R T N ρ W σ H) (r : Rp R W.D W.ι p v) (e : store ρ tg p = some ρ') (ho : ∀ i ∈ tgS tg, i ∈ own)
    (q : ∀ σ', J R T N ρ' W σ' H → L2.wipe σ' own = L2.wipe σ own → wipes ρ' own = wipes ρ own → Q σ' H) : gT K tg v σ H Q := by
  cases tg with
  | n i =>
    cases e
    exact q _ (j.put r) (wipe_put (ho i (by simp [tgS]))) (wipes_put (ho i (by simp [tgS])))
  | t is =>
    cases p with
    | tup ps =>
      cases r with
      | tup h rl _ =>
        refine ⟨_, _, rfl, hK ▸ j.b.ok.sub.sqT h.sqT, ?_, store_names j rl e ho q⟩
        rw [rl.length]
        exact puts_len e
    | _ => cases e
  | p i js =>
    cases p with
    | tup ps =>
      match ps, e, r with
      | [x, .tup vs], e, r =>
        cases r with
        | tup h rl _ =>
          cases rl with
          | cons r1 rl =>
            cases rl with
            | cons r2 rl =>
              cases rl with
              | nil =>
                cases r2 with
                | tup h2 rl2 _ =>
                  refine ⟨_, _, rfl, hK ▸ j.b.ok.sub.sqT h.sqT, rfl, _, _, rfl, _, _, rfl, ⟨_, _, rfl, hK ▸ j.b.ok.sub.sqT h2.sqT, ?_, store_names (own := own) (j.put (i := i) r1) rl2 e (fun k hk => ho k (by simp [tgS, hk])) fun σ' j' e1 e2 => ⟨rfl, q σ' j' ?_ ?_⟩⟩⟩
                  · rw [rl2.length]
                    exact puts_len e
                  · rw [e1, wipe_put (ho i (by simp [tgS]))]
                  · rw [e2]
                    exact wipes_put (ho i (by simp [tgS]))
      | [], e, _ => cases e
      | [_], e, _ => cases e
      | a :: b :: c :: l, e, _ =>
        have e : (none : Option Env) = some ρ' := by rw [← e]; cases b <;> rfl
        cases e
      | [_, .non], e, _ => cases e
      | [_, .bl _], e, _ => cases e
      | [_, .int _], e, _ => cases e
      | [_, .str _], e, _ => cases e
      | [_, .lst _], e, _ => cases e
      | [_, .dct _ _ _], e, _ => cases e
      | [_, .set _], e, _ => cases e
      | [_, .fn _], e, _ => cases e
      | [_, .cls _], e, _ => cases e
      | [_, .ref _], e, _ => cases e
      | [_, .exc _ _], e, _ => cases e
      | [_, .scr _], e, _ => cases e
    | _ => cases e

/-! ### what is being made -/
theorem B.made {a : Addr} {o : HO} (b : B R T N W H) (h : H a = none) : B R T N W (upd H a o) := by
  have hι : a ∉ W.ι := fun m => by
    obtain ⟨i, hi, e⟩ := List.getElem_of_mem m
    have hs : i < W.S.length := by rw [← b.ok.len]; exact hi
    have r := b.ok.rob i a W.S[i] (by rw [List.getElem?_eq_getElem hi, e]) (List.getElem?_eq_getElem hs)
    obtain ⟨u, hu, _⟩ := r.there
    rw [h] at hu; cases hu
  refine b.trans ⟨⟨fun c u e => Sub.new o h c u (b.ok.sub c u e), b.ok.ntb, b.ok.len, fun i c r e1 e2 => (b.ok.rob i c r e1 e2).mono (.refl _) (.refl _) fun u e => Sub.new o h c u e, b.ok.nod, b.ok.off, ?_⟩, .refl _, fun c u e _ _ => Sub.new o h c u e, fun c u e => .inl e, fun c m => .inl m⟩
  exact b.ok.tabs.ext fun c u e => Sub.new o h c u e
/-- an owned object is changed -/
theorem B.turn {a : Addr} {o u : HO} (b : B R T N W H) (hN : Nw N a) (hD : W.D a = none) (hι : a ∉ W.ι) (h : H a = some u) (nt : ∀ ps, u ≠ .tbl ps) (nc : ∀ c q, u ≠ LamX.CodeO c q) : B R T N W (upd H a o) where
  ok := ⟨fun c v e => by
      have hc : c ≠ a := fun z => by rw [z, hD] at e; cases e
      rw [upd_ne hc]; exact b.ok.sub c v e, b.ok.ntb, b.ok.len, fun i c r e1 e2 => (b.ok.rob i c r e1 e2).mono (.refl _) (.refl _) fun v e => by
      have hc : c ≠ a := fun z => hι (z ▸ List.mem_of_getElem? e1)
      rw [upd_ne hc]; exact e, b.ok.nod, b.ok.off, fun p hp => by
      obtain ⟨ps, h1, h2, h3⟩ := b.ok.tabs p hp
      have hc : p.1 ≠ a := fun z => by rw [z, h] at h1; exact nt ps (Option.some.inj h1)
      refine ⟨ps, by rw [upd_ne hc]; exact h1, h2, fun pos cv e => ?_⟩
      obtain ⟨c, e1, e2⟩ := h3 pos cv e
      have hc2 : c ≠ a := fun z => by rw [z, h] at e2; exact nc c p.2 (by rw [z]; exact Option.some.inj e2)
      exact ⟨c, e1, by rw [upd_ne hc2]; exact e2⟩⟩
  ge := b.ge
  frm := fun c v e n m => by
    have hc : c ≠ a := fun z => (hN.not (z ▸ e) m).elim
    rw [upd_ne hc]; exact b.frm c v e n m
  newD := b.newD
  newι := b.newι
theorem lst_ncode {xs : List V} (c : Addr) (q : Str) : HO.lst xs ≠ LamX.CodeO c q := fun z => by
  unfold LamX.CodeO at z; cases z
abbrev En.and (N : En) (a : Addr) (p : P) : En := { N with os := (a, p) :: N.os }
/-- a comprehension's list is begun -/
theorem J.begin {a : Addr} (j : J R T N ρ W σ H) (h : H a = none) : J R T (N.and a (.lst [])) ρ W σ (upd H a (.lst [])) := by
  have b : B R T N W (upd H a (.lst [])) := j.b.made h
  have hι : a ∉ W.ι := fun m => by
    obtain ⟨i, hi, e⟩ := List.getElem_of_mem m
    have hs : i < W.S.length := by rw [← j.b.ok.len]; exact hi
    have r := j.b.ok.rob i a W.S[i] (by rw [List.getElem?_eq_getElem hi, e]) (List.getElem?_eq_getElem hs)
    obtain ⟨u, hu, _⟩ := r.there
    rw [h] at hu; cases hu
  have st : ∀ {c : Addr} {p : P}, OwnC R W.D W.ι H c p → OwnC R W.D W.ι (upd H a (.lst [])) c p := fun o => o.mono (.refl _) (.refl _) fun u e => Sub.new _ h _ u e
  have ne : ∀ {c : Addr} {p : P}, OwnC R W.D W.ι H c p → c ≠ a := fun {c p} o z => by
    obtain ⟨u, hu, _⟩ := o.there
    rw [z, h] at hu; cases hu
  refine ⟨⟨b.ok, b.ge, b.frm, b.newD, b.newι⟩, j.len, j.val, fun i p e => ?_, fun q hq => ?_, fun q hq i p e => ?_, ?_, j.sep⟩
  · obtain ⟨c, h1, h2, h3, h4, h5⟩ := j.own i p e
    exact ⟨c, h1, h2, h3, h4, st h5⟩
  · rcases List.mem_cons.mp hq with e | hq
    · subst e
      exact ⟨j.b.fresh h, j.b.ok.sub.none h, hι, Nat.zero_le _, [], upd_same, .nil⟩
    · obtain ⟨h2, h3, h4, h5⟩ := j.ext q hq
      exact ⟨h2, h3, h4, st h5⟩
  · rcases List.mem_cons.mp hq with e' | hq
    · subst e'
      obtain ⟨c, h1, _, _, _, h5⟩ := j.own i p e
      intro z
      rw [h1] at z
      cases z
      exact ne h5 rfl
    · exact j.sepx q hq i p e
  · show (a :: N.os.map (·.1)).Nodup
    refine List.nodup_cons.mpr ⟨fun m => ?_, j.nodx⟩
    obtain ⟨q, hq, e⟩ := List.mem_map.mp m
    exact ne (j.ext q hq).2.2.2 e
/-- .. one more -/
theorem J.grow {a : Addr} {ps : List P} {p : P} {v : V} (j : J R T (N.and a (.lst ps)) ρ W σ H) (r : Rp R W.D W.ι p v) (hz : ps.length < lim) {vs : List V} (e : H a = some (.lst vs)) (rl : RpL R W.D W.ι ps vs) :
    J R T (N.and a (.lst (ps ++ [p]))) ρ W σ (upd H a (.lst (vs ++ [v]))) := by
  obtain ⟨g1, g2, g3, _⟩ := j.ext (a, .lst ps) (by simp)
  have b0 : B R T N W H := ⟨j.b.ok, j.b.ge, j.b.frm, j.b.newD, j.b.newι⟩
  have b : B R T N W (upd H a (.lst (vs ++ [v]))) := b0.turn g1 g2 g3 e (fun ps z => by cases z) (fun c q => lst_ncode c q)
  have st : ∀ {c : Addr} {p : P}, c ≠ a → OwnC R W.D W.ι H c p → OwnC R W.D W.ι (upd H a (.lst (vs ++ [v]))) c p := fun n o => o.mono (.refl _) (.refl _) fun u e => by rw [upd_ne n]; exact e
  have nd := j.nodx
  have nd : (a :: N.os.map (·.1)).Nodup := nd
  refine ⟨⟨b.ok, b.ge, b.frm, b.newD, b.newι⟩, j.len, j.val, fun i q e' => ?_, fun q hq => ?_, fun q hq i p e => ?_, j.nodx, j.sep⟩
  · obtain ⟨c, h1, h2, h3, h4, h5⟩ := j.own i q e'
    refine ⟨c, h1, h2, h3, h4, st (fun z => ?_) h5⟩
    subst z
    exact j.sepx (c, .lst ps) (by simp) i q e' h1
  · rcases List.mem_cons.mp hq with e' | hq
    · subst e'
      refine ⟨g1, g2, g3, ?_, _, upd_same, rl.app (.cons r .nil)⟩
      rw [List.length_append]
      exact hz
    · obtain ⟨h2, h3, h4, h5⟩ := j.ext q (by simp [hq])
      refine ⟨h2, h3, h4, st (fun z => ?_) h5⟩
      exact (List.nodup_cons.mp nd).1 (List.mem_map.mpr ⟨q, hq, z⟩)
  · rcases List.mem_cons.mp hq with e' | hq
    · subst e'
      exact j.sepx (a, .lst ps) (by simp) i p e
    · exact j.sepx q (by simp [hq]) i p e
end
end Vi
/-! Vi, list comprehensions. -/
namespace Vi
open PySem PySem.Spec PyProof.Rows L2

theorem Yl.to {R : Rc} {T : List (Addr × Str)} {N : En} {ρ : Env} {W : Wd} {σ : L2.St} {H H' : Hp} {p : P} {x : V} (j : J R T N ρ W σ H) (y : Yl R W H p x H') : ∃ W', W'.S = W.S ∧ W.le W' ∧ J R T N ρ W' σ H' ∧ Rp R W'.D W'.ι p x := by
  rcases y with ⟨rfl, r⟩ | ⟨rfl, b, us, ps, rfl, hb, rfl, rl, hz⟩ | ⟨t, y, z, py, pz, rfl, hn, rfl, rfl, r1, r2⟩
  · exact ⟨W, rfl, .refl _, j, r⟩
  · have l := (j.b.know hb).2
    exact ⟨⟨upd W.D b (.tup us), W.ι, W.S⟩, rfl, l, j.know hb, .tup (TpA.of upd_same) (rl.mono l.1 l.2) hz⟩
  · have l := laid_le (o := .tup [y, z]) j.b hn
    refine ⟨⟨upd W.D t (.tup [y, z]), W.ι, W.S⟩, rfl, l, j.laid hn (fun ps z => by cases z), .tup (TpA.of upd_same) (.cons (r1.mono l.1 l.2) (.cons (r2.mono l.1 l.2) .nil)) ?_⟩
    show 2 ≤ lim
    decide

/-- within a comprehension no exception leaves -/
abbrev Wh.inner (Γ : Wh) (os : List (Addr × P)) : Wh := { Γ with N := { Γ.N with os := os }, E := fun _ _ _ => False }
theorem isOwn_get {ρ : Env} {i : Nat} {p : P} (h : ρ[i]? = some (Sl.own p)) : isOwn ρ i = true := by
  unfold isOwn; rw [h]
section
variable {X : Cx} {Γ : Wh} {look : List Nat}
/-- one turn, by what it computes -/
abbrev lcF (own : List Nat) (tg : Tg) (dq : Env → M Bool) (de : Env → M P) (ρ : Env) : P → M (Option P) := fun x => (M.ofO (store (wipes ρ own) tg x)).bind fun ρ' =>
      (dq ρ').bind fun k => if k then (de ρ').bind fun y => M.pure (some y) else M.pure none
theorem compL_cons {f : P → M (Option P)} {p : P} {r : List P} {S S' : Sto} {l : List P} (h : compL f (p :: r) S = .ok l S') : ∃ o S1 l2, f p S = .ok o S1 ∧ compL f r S1 = .ok l2 S' ∧ l = (match o with | some y => y :: l2 | none => l2) := by
  unfold compL M.bind at h
  cases e : f p S with
  | ok o S1 =>
    rw [e] at h
    dsimp only at h
    cases e2 : compL f r S1 with
    | ok l2 S2 =>
      rw [e2] at h
      unfold M.pure at h
      cases h
      exact ⟨o, S1, l2, rfl, e2, rfl⟩
    | err x y => rw [e2] at h; cases h
    | no => rw [e2] at h; cases h
  | err x y => rw [e] at h; cases h
  | no => rw [e] at h; cases h
theorem bind_ok {α β : Type} {m : M α} {f : α → M β} {S S' : Sto} {b : β} (h : m.bind f S = .ok b S') : ∃ a S1, m S = .ok a S1 ∧ f a S1 = .ok b S' := by
  unfold M.bind at h
  cases e : m S with
  | ok a S1 => rw [e] at h; exact ⟨a, S1, rfl, h⟩
  | err x y => rw [e] at h; cases h
  | no => rw [e] at h; cases h
theorem lc_imp {own : List (Str × Nat)} {tg : Tg} {di : Env → M (List P)} {dq : Env → M Bool} {de : Env → M P}
    (hK : Γ.R.K = X.K) (hl : ∀ i ∈ look, i ∉ own.map (·.2)) (ht : ∀ i ∈ tgS tg, i ∈ own.map (·.2)) (σ : L2.St) (H : Hp) (Q : VK)
    (hh : tE Γ (fun ρ => if (own.map (·.2)).any (isOwn ρ) then M.no else (di ρ).bind fun xs => ((compL (lcF (own.map (·.2)) tg dq de ρ) xs).calm).bind fun l => M.pure (.lst l)) σ H Q) :
    tLc (tI Γ look di) (gT X.K tg) (fun σ H Q => ∃ os, tT (Γ.inner os) dq σ H Q) (fun σ H Q => ∃ os, tE (Γ.inner os) de σ H Q) (own.map (·.2)) σ H Q := by
  obtain ⟨ρ, W, j, h⟩ := hh
  by_cases hown : (own.map (·.2)).any (isOwn ρ) = true
  · have h : GC Γ (relE Γ) ρ σ W ((if (own.map (·.2)).any (isOwn ρ) then M.no else (di ρ).bind fun xs => ((compL (lcF (own.map (·.2)) tg dq de ρ) xs).calm).bind fun l => M.pure (.lst l)) W.S) Q := h
    rw [if_pos hown] at h; exact (show False from h).elim
  have h : GC Γ (relE Γ) ρ σ W ((if (own.map (·.2)).any (isOwn ρ) then M.no else (di ρ).bind fun xs => ((compL (lcF (own.map (·.2)) tg dq de ρ) xs).calm).bind fun l => M.pure (.lst l)) W.S) Q := h
  rw [if_neg hown] at h
  have nown : ∀ i ∈ own.map (·.2), isOwn ρ i = false := fun i hi => by
    cases e : isOwn ρ i with
    | false => rfl
    | true => exact absurd (List.any_eq_true.mpr ⟨i, hi, e⟩) hown
  refine ⟨ρ, W, j, GC.imp (GC.bind h) fun Jt H1 ⟨xs, W1, j1, l1, r1, h1⟩ => ?_⟩
  obtain ⟨os, G, Y, zl, hos, wk, hG, hY⟩ := r1
  cases ec : compL (lcF (own.map (·.2)) tg dq de ρ) xs W1.S with
  | no => unfold M.bind M.calm at h1; rw [ec] at h1; exact (show False from h1).elim
  | err e S => unfold M.bind M.calm at h1; rw [ec] at h1; exact (show False from h1).elim
  | ok l S' =>
  have h1 : GC Γ (relE Γ) ρ σ W1 (.ok (.lst l) S') Q := by
    have h2 := h1
    unfold M.bind M.calm at h2
    rw [ec] at h2
    exact h2
  intro D hD
  -- the owned objects that are looked at, within
  have lookIn : ∀ {Wi : Wd} {Hi : Hp} {N' : En}, J Γ.R Γ.T N' (wipes ρ (own.map (·.2))) Wi (L2.wipe σ (own.map (·.2))) Hi → Own Γ.R os Wi Hi := fun {Wi Hi N'} ji q hq => by
    obtain ⟨i, hi, e1, e2⟩ := hos q hq
    have e1' : (wipes ρ (own.map (·.2)))[i]? = some (Sl.own q.2) := by rw [wipes_get (hl i hi)]; exact e1
    obtain ⟨a, f1, _, _, _, f5⟩ := ji.own i q.2 e1'
    rw [wipe_get (hl i hi), e2] at f1
    cases f1
    exact f5
  refine lc_it (g := gT X.K tg) (tt := fun σ H Q => ∃ os, tT (Γ.inner os) dq σ H Q) (te := fun σ H Q => ∃ os, tE (Γ.inner os) de σ H Q) (vs := own.map (·.2)) (σ := σ) (Qd := fun H => Q (.ref D) H) wk (fun i Hi => ∃ Wi ys li, J Γ.R Γ.T (Γ.N.and D (.lst ys)) (wipes ρ (own.map (·.2))) Wi (L2.wipe σ (own.map (·.2))) Hi ∧ W1.le Wi ∧ compL (lcF (own.map (·.2)) tg dq de ρ) (xs.drop i) Wi.S = .ok li S' ∧ l = ys ++ li ∧ ys.length ≤ i)
    ⟨W1, [], l, (j1.begin hD).wipe, .refl _, ec, rfl, Nat.le_refl _⟩ (fun i Hi _ ⟨Wi, ys, li, ji, li1, _⟩ => hG Wi Hi li1 ji.b.ok.sub (lookIn ji)) (fun i x Hi Hi' hi ⟨Wi, ys, li, ji, li1, ei, el, ey⟩ y => ?_) (fun Hn ⟨Wn, ys, ln, jn, ln1, en, el, ey⟩ => ?_)
  · -- a turn
    obtain ⟨p, ep, yl⟩ := hY i Wi Hi x Hi' hi li1 ji.b.ok.sub (lookIn ji) y
    obtain ⟨W2, eS, l2, j2, r2⟩ := yl.to ji
    have ed : xs.drop i = p :: xs.drop (i + 1) := by
      obtain ⟨h1, h2⟩ := List.getElem?_eq_some_iff.mp ep
      rw [List.drop_eq_getElem_cons h1, h2]
    rw [ed] at ei
    obtain ⟨o, S1, lr, ef, er, elr⟩ := compL_cons ei
    obtain ⟨ρ', S0, e0, ef⟩ := bind_ok ef
    have est : store (wipes ρ (own.map (·.2))) tg p = some ρ' ∧ S0 = Wi.S := by
      cases q : store (wipes ρ (own.map (·.2))) tg p with
      | none => rw [q] at e0; cases e0
      | some ρ2 => rw [q] at e0; cases e0; exact ⟨rfl, rfl⟩
    obtain ⟨est, eS0⟩ := est
    subst eS0
    obtain ⟨k, S2, ek, ef⟩ := bind_ok ef
    refine store_tg hK j2 r2 est ht fun σ2 j3 ew1 ew2 => ⟨by rw [ew1, wipe_idem _ _ fun i hi => hi], _, ρ', W2, j3, ?_⟩
    have ew1' : L2.wipe σ2 (own.map (·.2)) = L2.wipe σ (own.map (·.2)) := by rw [ew1, wipe_idem _ _ fun i hi => hi]
    have ew2' : wipes ρ' (own.map (·.2)) = wipes ρ (own.map (·.2)) := by rw [ew2, wipes_idem _ _ fun i hi => hi]
    rw [eS, ek]
    intro b W3 H3 e3 l3 j3' rb
    obtain rfl : k = b := rb
    cases k with
    | false =>
      rw [if_neg Bool.false_ne_true] at ef ⊢
      cases ef
      refine ⟨W3, ys, lr, ?_, (li1.trans l2).trans l3, ?_, ?_, Nat.le_succ_of_le ey⟩
      · have := j3'.wipe (vs := own.map (·.2))
        rw [ew1', ew2'] at this
        exact this
      · rw [e3]; exact er
      · rw [el, elr]
    | true =>
      rw [if_pos rfl] at ef ⊢
      obtain ⟨v, S3, ev, ef⟩ := bind_ok ef
      cases ef
      refine ⟨_, ρ', W3, j3', ?_⟩
      rw [e3, ev]
      intro y W4 H4 e4 l4 j4 rv
      obtain ⟨g1, g2, g3, gz, acc, ga, gr⟩ := j4.ext (D, .lst ys) (by simp)
      have la := gr.length
      refine ⟨acc, ga, by rw [la]; exact lim_eq ▸ (by omega), W4, ys ++ [v], lr, ?_, ((li1.trans l2).trans l3).trans l4, ?_, ?_, by rw [List.length_append, List.length_singleton]; omega⟩
      · have := (j4.grow rv (by omega) ga gr).wipe (vs := own.map (·.2))
        rw [ew1', ew2'] at this
        exact this
      · rw [e4]; exact er
      · rw [el, elr]; simp
  · -- the end
    have edr : xs.drop xs.length = [] := List.drop_length
    rw [edr] at en
    cases en
    rw [List.append_nil] at el
    subst el
    obtain ⟨g1, g2, g3, gz, acc, ga, gr⟩ := jn.ext (D, .lst l) (by simp)
    -- the list is frozen
    have jl : J Γ.R Γ.T Γ.N ρ ⟨upd Wn.D D (.lst acc), Wn.ι, Wn.S⟩ σ Hn := by
      have lD : Wn.le ⟨upd Wn.D D (.lst acc), Wn.ι, Wn.S⟩ := ⟨Sub.new _ g2, .refl _⟩
      have ngD : ∀ {c : Addr} {p : P}, OwnC Γ.R W1.D W1.ι H1 c p → c ≠ D := fun {c p} o z => by
        obtain ⟨u, hu, _⟩ := o.there
        rw [z, hD] at hu; cases hu
      refine ⟨⟨⟨fun c u e => ?_, fun c ps e => ?_, jn.b.ok.len, fun i c r e1 e2 => (jn.b.ok.rob i c r e1 e2).mono lD.1 lD.2 fun _ e => e, jn.b.ok.nod, fun c m => ?_, jn.b.ok.tabs⟩, jn.b.ge.trans lD, jn.b.frm, fun c u e => ?_, jn.b.newι⟩, j1.len, fun i p e => ?_, fun i p e => ?_, fun q hq => ?_, j1.sepx, j1.nodx, j1.sep⟩
      · by_cases hc : c = D
        · subst hc
          rw [show (Wd.mk (upd Wn.D c (.lst acc)) Wn.ι Wn.S).D c = upd Wn.D c (.lst acc) c from rfl, upd_same] at e
          cases e
          exact ga
        · rw [show (Wd.mk (upd Wn.D D (.lst acc)) Wn.ι Wn.S).D c = upd Wn.D D (.lst acc) c from rfl, upd_ne hc] at e
          exact jn.b.ok.sub c u e
      · by_cases hc : c = D
        · subst hc
          rw [show (Wd.mk (upd Wn.D c (.lst acc)) Wn.ι Wn.S).D c = upd Wn.D c (.lst acc) c from rfl, upd_same] at e
          cases e
        · rw [show (Wd.mk (upd Wn.D D (.lst acc)) Wn.ι Wn.S).D c = upd Wn.D D (.lst acc) c from rfl, upd_ne hc] at e
          exact jn.b.ok.ntb c ps e
      · have hc : c ≠ D := fun z => g3 (z ▸ m)
        show upd Wn.D D (.lst acc) c = none
        rw [upd_ne hc]
        exact jn.b.ok.off c m
      · by_cases hc : c = D
        · subst hc
          exact .inr (.inl g1)
        · rw [show (Wd.mk (upd Wn.D D (.lst acc)) Wn.ι Wn.S).D c = upd Wn.D D (.lst acc) c from rfl, upd_ne hc] at e
          exact jn.b.newD c u e
      · obtain ⟨u, h1, h2⟩ := j1.val i p e
        exact ⟨u, h1, (h2.mono ln1.1 ln1.2).mono lD.1 lD.2⟩
      · have hi : i ∉ own.map (·.2) := fun z => by
          have := nown i z
          rw [isOwn_get e] at this
          cases this
        have e' : (wipes ρ (own.map (·.2)))[i]? = some (Sl.own p) := by rw [wipes_get hi]; exact e
        obtain ⟨c, f1, f2, f3, f4, f5⟩ := jn.own i p e'
        rw [wipe_get hi] at f1
        obtain ⟨c1, k1, _, _, _, k5⟩ := j1.own i p e
        rw [f1] at k1
        cases k1
        refine ⟨c, f1, f2, ?_, f4, f5.mono lD.1 lD.2 fun _ e => e⟩
        show upd Wn.D D (.lst acc) c = none
        rw [upd_ne (ngD k5)]
        exact f3
      · obtain ⟨f2, f3, f4, f5⟩ := jn.ext q (by simp [hq])
        refine ⟨f2, ?_, f4, f5.mono lD.1 lD.2 fun _ e => e⟩
        show upd Wn.D D (.lst acc) q.1 = none
        rw [upd_ne (ngD (j1.ext q hq).2.2.2)]
        exact f3
    have r : Rp Γ.R (upd Wn.D D (.lst acc)) Wn.ι (.lst l) (.ref D) := .lst (.inl upd_same) (gr.mono (Sub.new _ g2) (.refl _)) gz
    exact h1 (.ref D) ⟨upd Wn.D D (.lst acc), Wn.ι, Wn.S⟩ Hn rfl (ln1.trans ⟨Sub.new _ g2, .refl _⟩) jl r
theorem s_lc {tgx iter elt : Expr} {ifs : List Expr} {scope : Scope} {pos : Pos} {own : List (Str × Nat)} {tg : Tg} {di : Env → M (List P)} {dq : Env → M Bool} {de : Env → M P}
    (hK : Γ.R.K = X.K) (hc : X.calm = true) (hN : X.N.Nodup) (hi : PI X tgx iter (tI Γ look di)) (ok : BlkOk X.N X.env.scope scope own) (hl : ∀ i ∈ look, i ∉ own.map (·.2)) (ht : ∀ i ∈ tgS tg, i ∈ own.map (·.2))
    (hg : ∀ (s : Shared) (H : Hp) (C : Addr) (cl : List (Str × Addr)) (fp : List Addr), PG (X.blk s H scope (compEnvC scope cl C X.env) fp) tgx (gT X.K tg))
    (hq : ∀ (s : Shared) (H : Hp) (C : Addr) (cl : List (Str × Addr)) (fp : List Addr) (os : List (Addr × P)), PTs (X.blk s H scope (compEnvC scope cl C X.env) fp) ifs (tT (Γ.inner os) dq))
    (he : ∀ (s : Shared) (H : Hp) (C : Addr) (cl : List (Str × Addr)) (fp : List Addr) (os : List (Addr × P)), PE (X.blk s H scope (compEnvC scope cl C X.env) fp) elt (tE (Γ.inner os) de))
    (hs : ∀ x, foldedSetIterable iter X.env x = pure x) :
    PE X (.ListComp elt [⟨tgx, iter, ifs, 0⟩] scope pos) (tE Γ fun ρ => if (own.map (·.2)).any (isOwn ρ) then M.no else (di ρ).bind fun xs => ((compL (lcF (own.map (·.2)) tg dq de ρ) xs).calm).bind fun l => M.pure (.lst l)) :=
  (pe_lc (tt := fun σ H Q => ∃ os, tT (Γ.inner os) dq σ H Q) (te := fun σ H Q => ∃ os, tE (Γ.inner os) de σ H Q) hc hN hi ok hg
    (fun s H C cl fp => ⟨fun pins s' σ H' Q I ⟨os, h⟩ => (hq s H C cl fp os).run pins s' σ H' Q I h⟩) (fun s H C cl fp => ⟨fun pins s' σ H' Q I ⟨os, h⟩ => (he s H C cl fp os).run pins s' σ H' Q I h⟩) hs).imp fun σ H Q h => lc_imp hK hl ht σ H Q h
/-- name = [..] on one line -/
theorem s_setLc {i : Nat} {y : Str} {py : Pos} {tgx iter elt : Expr} {ifs : List Expr} {scope : Scope} {pos spos : Pos} {own : List (Str × Nat)} {tg : Tg} {di : Env → M (List P)} {dq : Env → M Bool} {de : Env → M P}
    (hK : Γ.R.K = X.K) (hc : X.calm = true) (hN : X.N.Nodup) (hy : X.N[i]? = some y) (hyl : X.env.scope.names.lookup y = some .local) (hsw : swapsWith (.ListComp elt [⟨tgx, iter, ifs, 0⟩] scope pos) (some (.Name y py)) spos.line X.env = pure true)
    (hi : PI X tgx iter (tI Γ look di)) (ok : BlkOk X.N X.env.scope scope own) (hl : ∀ i ∈ look, i ∉ own.map (·.2)) (ht : ∀ i ∈ tgS tg, i ∈ own.map (·.2))
    (hg : ∀ (s : Shared) (H : Hp) (C : Addr) (cl : List (Str × Addr)) (fp : List Addr), PG (X.blk s H scope (compEnvC scope cl C X.env) fp) tgx (gT X.K tg))
    (hq : ∀ (s : Shared) (H : Hp) (C : Addr) (cl : List (Str × Addr)) (fp : List Addr) (os : List (Addr × P)), PTs (X.blk s H scope (compEnvC scope cl C X.env) fp) ifs (tT (Γ.inner os) dq))
    (he : ∀ (s : Shared) (H : Hp) (C : Addr) (cl : List (Str × Addr)) (fp : List Addr) (os : List (Addr × P)), PE (X.blk s H scope (compEnvC scope cl C X.env) fp) elt (tE (Γ.inner os) de))
    (hs : ∀ x, foldedSetIterable iter X.env x = pure x) :
    PS X (.Assign [.Name y py] (.ListComp elt [⟨tgx, iter, ifs, 0⟩] scope pos) spos) (tAsg (tE Γ fun ρ => if (own.map (·.2)).any (isOwn ρ) then M.no else (di ρ).bind fun xs => ((compL (lcF (own.map (·.2)) tg dq de ρ) xs).calm).bind fun l => M.pure (.lst l)) (gName i)) := by
  have h := ps_setLc (tt := fun σ H Q => ∃ os, tT (Γ.inner os) dq σ H Q) (te := fun σ H Q => ∃ os, tE (Γ.inner os) de σ H Q) hc hN hy hyl hsw hi ok hg
    (fun s H C cl fp => ⟨fun pins s' σ H' Q I ⟨os, h⟩ => (hq s H C cl fp os).run pins s' σ H' Q I h⟩) (fun s H C cl fp => ⟨fun pins s' σ H' Q I ⟨os, h⟩ => (he s H C cl fp os).run pins s' σ H' Q I h⟩) hs
  exact ⟨fun pins s σ H D I q => h.run pins s σ H D I (lc_imp hK hl ht σ H _ q)⟩
end
end Vi
/-! Vi, statements. -/
namespace Vi
open PySem PySem.Spec PyProof.Rows L2

theorem _root_.L2.PS.imp {X : Cx} {e : Stmt} {t t' : TS} (h : PS X e t) (i : ∀ D σ H, t' D σ H → t D σ H) : PS X e t' := ⟨fun pins s σ H D I q => h.run pins s σ H D I (i D σ H q)⟩
theorem _root_.L2.PSs.imp {X : Cx} {e : List Stmt} {t t' : TS} (h : PSs X e t) (i : ∀ D σ H, t' D σ H → t D σ H) : PSs X e t' := ⟨fun pins s σ H D I q => h.run pins s σ H D I (i D σ H q)⟩

section
variable (Γ : Wh)
def GS (W : Wd) (r : Rs Fl) (D : Ends) : Prop := match r with
  | .ok (.nx ρ) S' => ∀ σ' W' H', W'.S = S' → W.le W' → J Γ.R Γ.T Γ.N ρ W' σ' H' → D.nx σ' H'
  | .ok (.bk ρ) S' => ∀ σ' W' H', W'.S = S' → W.le W' → J Γ.R Γ.T Γ.N ρ W' σ' H' → D.bk σ' H'
  | .ok (.ct ρ) S' => ∀ σ' W' H', W'.S = S' → W.le W' → J Γ.R Γ.T Γ.N ρ W' σ' H' → D.ct σ' H'
  | .ok (.rt v) S' => ∀ x W' H', W'.S = S' → B Γ.R Γ.T Γ.N W' H' → Rp Γ.R W'.D W'.ι v x → D.rt x H'
  | .err e S' => ∀ cv oe W' H', W'.S = S' → B Γ.R Γ.T Γ.N W' H' → ExR Γ.R W' H' e cv oe → Γ.E cv oe H'
  | .no => False
def tS (d : Env → M Fl) : TS := fun D σ H => ∃ ρ W, J Γ.R Γ.T Γ.N ρ W σ H ∧ GS Γ W (d ρ W.S) D
end
section
variable {Γ : Wh} {α β : Type} {rel : Env → L2.St → Wd → α → β → Prop} {ρ : Env} {σ : L2.St} {W W1 : Wd} {H : Hp} {D D' : Ends}
theorem GS.imp {r : Rs Fl} (h : GS Γ W r D) (i1 : ∀ σ H, D.nx σ H → D'.nx σ H) (i2 : ∀ σ H, D.bk σ H → D'.bk σ H) (i3 : ∀ σ H, D.ct σ H → D'.ct σ H) (i4 : ∀ x H, D.rt x H → D'.rt x H) : GS Γ W r D' := by
  cases r with
  | ok f S =>
    cases f with
    | nx ρ => exact fun σ' W' H' e l j => i1 _ _ (h σ' W' H' e l j)
    | bk ρ => exact fun σ' W' H' e l j => i2 _ _ (h σ' W' H' e l j)
    | ct ρ => exact fun σ' W' H' e l j => i3 _ _ (h σ' W' H' e l j)
    | rt v => exact fun x W' H' e b r => i4 _ _ (h x W' H' e b r)
  | err e S => exact h
  | no => exact h
theorem GS.le {r : Rs Fl} (h : GS Γ W r D) (l : W.le W1) : GS Γ W1 r D := by
  cases r with
  | ok f S =>
    cases f with
    | nx ρ => exact fun σ' W' H' e l' j => h σ' W' H' e (l.trans l') j
    | bk ρ => exact fun σ' W' H' e l' j => h σ' W' H' e (l.trans l') j
    | ct ρ => exact fun σ' W' H' e l' j => h σ' W' H' e (l.trans l') j
    | rt v => exact h
  | err e S => exact h
  | no => exact h
/-- an expression first -/
theorem GS.bind {m : M α} {f : α → M Fl} (h : GS Γ W (m.bind f W.S) D) :
    GC Γ rel ρ σ W (m W.S) (fun x H1 => ∃ a W1, J Γ.R Γ.T Γ.N ρ W1 σ H1 ∧ W.le W1 ∧ rel ρ σ W1 a x ∧ GS Γ W1 (f a W1.S) D) := by
  unfold M.bind at h
  cases e : m W.S with
  | ok a S =>
    rw [e] at h
    refine fun x W' H' e l j q => ⟨a, W', j, l, q, ?_⟩
    rw [e]
    exact GS.le h l
  | err x S => rw [e] at h; exact h
  | no => rw [e] at h; exact h
/-- behind one statement the next -/
abbrev thenF (f : Env → M Fl) : Fl → M Fl
  | .nx ρ' => f ρ'
  | .rt v => M.pure (.rt v)
  | .bk ρ' => M.pure (.bk ρ')
  | .ct ρ' => M.pure (.ct ρ')
theorem GS.seq {m : M Fl} {f : Env → M Fl} (h : GS Γ W (m.bind (thenF f) W.S) D) : GS Γ W (m W.S) { D with nx := tS Γ f D } := by
  unfold M.bind at h
  cases e : m W.S with
  | ok a S =>
    rw [e] at h
    cases a with
    | nx ρ' =>
      intro σ' W' H' e l j
      refine ⟨ρ', W', j, ?_⟩
      rw [e]
      exact GS.le h l
    | bk ρ' => exact h
    | ct ρ' => exact h
    | rt v => exact h
  | err x S => rw [e] at h; exact h
  | no => rw [e] at h; exact h
theorem GS.nx {ρ' : Env} {σ' : L2.St} (h : GS Γ W (M.pure (.nx ρ') W.S) D) (j : J Γ.R Γ.T Γ.N ρ' W σ' H) : D.nx σ' H := h σ' W H rfl (.refl _) j
end

/-! ### what is new and nobody's yet -/
section
variable {R : Rc} {T : List (Addr × Str)} {N : En} {ρ : Env} {W : Wd} {σ : L2.St} {H : Hp}
/-- a list is made -/
theorem J.madeG {a : Addr} {o : HO} {p0 : P} (j : J R T N ρ W σ H) (h : H a = none) (new : OwnC R W.D W.ι (upd H a o) a p0) : J R T (N.and a p0) ρ W σ (upd H a o) := by
  have b : B R T N W (upd H a o) := j.b.made h
  have hι := j.b.at_iota h
  have st : ∀ {c : Addr} {p : P}, OwnC R W.D W.ι H c p → OwnC R W.D W.ι (upd H a o) c p := fun o => o.mono (.refl _) (.refl _) fun u e => Sub.new _ h _ u e
  have ne : ∀ {c : Addr} {p : P}, OwnC R W.D W.ι H c p → c ≠ a := fun {c p} o z => by
    obtain ⟨u, hu, _⟩ := o.there
    rw [z, h] at hu; cases hu
  refine ⟨⟨b.ok, b.ge, b.frm, b.newD, b.newι⟩, j.len, j.val, fun i p e => ?_, fun q hq => ?_, fun q hq i p e => ?_, ?_, j.sep⟩
  · obtain ⟨c, h1, h2, h3, h4, h5⟩ := j.own i p e
    exact ⟨c, h1, h2, h3, h4, st h5⟩
  · rcases List.mem_cons.mp hq with e | hq
    · subst e
      exact ⟨j.b.fresh h, j.b.ok.sub.none h, hι, new⟩
    · obtain ⟨h2, h3, h4, h5⟩ := j.ext q hq
      exact ⟨h2, h3, h4, st h5⟩
  · rcases List.mem_cons.mp hq with e' | hq
    · subst e'
      obtain ⟨c, h1, _, _, _, h5⟩ := j.own i p e
      intro z
      rw [h1] at z
      cases z
      exact ne h5 rfl
    · exact j.sepx q hq i p e
  · show (a :: N.os.map (·.1)).Nodup
    refine List.nodup_cons.mpr ⟨fun m => ?_, j.nodx⟩
    obtain ⟨q, hq, e⟩ := List.mem_map.mp m
    exact ne (j.ext q hq).2.2.2 e
theorem J.made {a : Addr} {ps : List P} {vs : List V} (j : J R T N ρ W σ H) (h : H a = none) (r : RpL R W.D W.ι ps vs) (hz : ps.length ≤ lim) : J R T (N.and a (.lst ps)) ρ W σ (upd H a (.lst vs)) :=
  j.madeG h ⟨hz, vs, upd_same, r⟩
theorem J.madeK {a : Addr} (j : J R T N ρ W σ H) (h : H a = none) : J R T (N.and a (.dct false [] [])) ρ W σ (upd H a (.dK [])) :=
  j.madeG h ⟨Nat.zero_le _, [], upd_same, rfl, .nil⟩
theorem J.madeT {a : Addr} (j : J R T N ρ W σ H) (h : H a = none) : J R T (N.and a (.dct true [] [])) ρ W σ (upd H a (ViDx.DX R.pr R.w a [])) :=
  j.madeG h ⟨Nat.zero_le _, [], upd_same, rfl, .nil, fun p hp => by cases hp⟩
/-- .. and named -/
theorem J.take {a : Addr} {p : P} {i : Nat} (j : J R T (N.and a p) ρ W σ H) : J R T N (ρ.set i (.own p)) W (σ.set i (some (.ref a))) H := by
  obtain ⟨x1, x2, x3, x4⟩ := j.ext (a, p) (by simp)
  have nd : (a :: N.os.map (·.1)).Nodup := j.nodx
  have at_ : ∀ {k : Nat} {s : Sl}, (ρ.set i (.own p))[k]? = some s → (i = k ∧ s = .own p ∧ (σ.set i (some (.ref a)))[k]? = some (some (.ref a))) ∨ (i ≠ k ∧ ρ[k]? = some s ∧ (σ.set i (some (.ref a)))[k]? = σ[k]?) := fun {k s} e => by
    by_cases hk : i = k
    · subst hk
      have hi : i < ρ.length := by
        have := (List.getElem?_eq_some_iff.mp e).1
        rwa [List.length_set] at this
      rw [List.getElem?_set_self hi] at e
      cases e
      exact .inl ⟨rfl, rfl, List.getElem?_set_self (by rw [j.len]; exact hi)⟩
    · rw [List.getElem?_set_ne hk] at e
      exact .inr ⟨hk, e, List.getElem?_set_ne hk⟩
  refine ⟨⟨j.b.ok, j.b.ge, j.b.frm, j.b.newD, j.b.newι⟩, by rw [List.length_set, List.length_set]; exact j.len, fun k q e => ?_, fun k q e => ?_, fun q hq => j.ext q (by simp [hq]), fun q hq k p' e => ?_, (List.nodup_cons.mp nd).2, fun k l p1 q1 b e1 e2 e3 e4 => ?_⟩
  · rcases at_ e with ⟨_, z, _⟩ | ⟨_, e', es⟩
    · cases z
    · rw [es]; exact j.val k q e'
  · rcases at_ e with ⟨_, z, es⟩ | ⟨_, e', es⟩
    · cases z
      exact ⟨a, es, x1, x2, x3, x4⟩
    · rw [es]; exact j.own k q e'
  · rcases at_ e with ⟨_, z, es⟩ | ⟨_, e', es⟩
    · rw [es]
      intro z
      cases z
      exact (List.nodup_cons.mp nd).1 (List.mem_map.mpr ⟨q, hq, rfl⟩)
    · rw [es]
      exact j.sepx q (by simp [hq]) k p' e'
  · rcases at_ e1 with ⟨h1, _, es1⟩ | ⟨h1, f1, es1⟩
    · rcases at_ e2 with ⟨h2, _, es2⟩ | ⟨h2, f2, es2⟩
      · exact h1.symm.trans h2
      · rw [es1] at e3
        rw [es2] at e4
        cases e3
        exact absurd e4 (j.sepx (a, p) (by simp) l q1 f2)
    · rcases at_ e2 with ⟨h2, _, es2⟩ | ⟨h2, f2, es2⟩
      · rw [es1] at e3
        rw [es2] at e4
        cases e4
        exact absurd e3 (j.sepx (a, p) (by simp) k p1 f1)
      · rw [es1] at e3
        rw [es2] at e4
        exact j.sep k l p1 q1 b f1 f2 e3 e4
/-- an owned object is frozen -/
theorem J.frz {i : Nat} {xs : List P} (j : J R T N ρ W σ H) (e : ρ[i]? = some (Sl.own (.lst xs))) : ∃ W', W'.S = W.S ∧ W.le W' ∧ J R T N (Vi.put ρ i (.lst xs)) W' σ H := by
  obtain ⟨a, h1, h2, h3, h4, h5⟩ := j.own i _ e
  · 
    obtain ⟨z, vs, ha, r⟩ := h5
    have l : W.le ⟨upd W.D a (.lst vs), W.ι, W.S⟩ := ⟨Sub.new _ h3, .refl _⟩
    have hi : i < ρ.length := (List.getElem?_eq_some_iff.mp e).1
    have ng : ∀ {c : Addr}, c ≠ a → W.D c = none → (Wd.mk (upd W.D a (.lst vs)) W.ι W.S).D c = none := fun {c} hc hn => by
      show upd W.D a (.lst vs) c = none
      rw [upd_ne hc]; exact hn
    have at_ : ∀ {k : Nat} {s : Sl}, (Vi.put ρ i (.lst xs))[k]? = some s → (i = k ∧ s = .val (.lst xs)) ∨ (i ≠ k ∧ ρ[k]? = some s) := fun {k s} e => by
      by_cases hk : i = k
      · subst hk
        rw [show (Vi.put ρ i (.lst xs))[i]? = some (Sl.val (.lst xs)) from List.getElem?_set_self hi] at e
        cases e
        exact .inl ⟨rfl, rfl⟩
      · rw [show (Vi.put ρ i (.lst xs))[k]? = ρ[k]? from List.getElem?_set_ne hk] at e
        exact .inr ⟨hk, e⟩
    refine ⟨⟨upd W.D a (.lst vs), W.ι, W.S⟩, rfl, l, ⟨⟨fun c u e => ?_, fun c ps e => ?_, j.b.ok.len, fun i c r e1 e2 => (j.b.ok.rob i c r e1 e2).mono l.1 l.2 fun _ e => e, j.b.ok.nod, fun c m => ng (fun z => h4 (z ▸ m)) (j.b.ok.off c m), j.b.ok.tabs⟩, j.b.ge.trans l, j.b.frm, fun c u e => ?_, j.b.newι⟩, ?_, fun k p e' => ?_, fun k p e' => ?_, fun q hq => ?_, fun q hq k p e' => ?_, j.nodx, fun k m p q b e1 e2 e3 e4 => ?_⟩
    · by_cases hc : c = a
      · subst hc
        rw [show (Wd.mk (upd W.D c (.lst vs)) W.ι W.S).D c = upd W.D c (.lst vs) c from rfl, upd_same] at e
        cases e
        exact ha
      · rw [show (Wd.mk (upd W.D a (.lst vs)) W.ι W.S).D c = upd W.D a (.lst vs) c from rfl, upd_ne hc] at e
        exact j.b.ok.sub c u e
    · by_cases hc : c = a
      · subst hc
        rw [show (Wd.mk (upd W.D c (.lst vs)) W.ι W.S).D c = upd W.D c (.lst vs) c from rfl, upd_same] at e
        cases e
      · rw [show (Wd.mk (upd W.D a (.lst vs)) W.ι W.S).D c = upd W.D a (.lst vs) c from rfl, upd_ne hc] at e
        exact j.b.ok.ntb c ps e
    · by_cases hc : c = a
      · subst hc
        exact .inr (.inl h2)
      · rw [show (Wd.mk (upd W.D a (.lst vs)) W.ι W.S).D c = upd W.D a (.lst vs) c from rfl, upd_ne hc] at e
        exact j.b.newD c u e
    · show σ.length = (ρ.set i (.val (.lst xs))).length
      rw [List.length_set]; exact j.len
    · rcases at_ e' with ⟨hk, z⟩ | ⟨hk, e'⟩
      · cases z
        subst hk
        exact ⟨_, h1, .lst (.inl upd_same) (r.mono l.1 l.2) z⟩
      · obtain ⟨u, f1, f2⟩ := j.val k p e'
        exact ⟨u, f1, f2.mono l.1 l.2⟩
    · rcases at_ e' with ⟨hk, z⟩ | ⟨hk, e'⟩
      · cases z
      · obtain ⟨c, f1, f2, f3, f4, f5⟩ := j.own k p e'
        have hc : c ≠ a := fun z => hk (j.sep i k _ _ a e e' h1 (z ▸ f1))
        exact ⟨c, f1, f2, ng hc f3, f4, f5.mono l.1 l.2 fun _ e => e⟩
    · obtain ⟨f2, f3, f4, f5⟩ := j.ext q hq
      have hc : q.1 ≠ a := fun z => j.sepx q hq i _ e (z ▸ h1)
      exact ⟨f2, ng hc f3, f4, f5.mono l.1 l.2 fun _ e => e⟩
    · rcases at_ e' with ⟨hk, z⟩ | ⟨hk, e'⟩
      · cases z
      · exact j.sepx q hq k p e'
    · rcases at_ e1 with ⟨_, z⟩ | ⟨_, f1⟩
      · cases z
      · rcases at_ e2 with ⟨_, z⟩ | ⟨_, f2⟩
        · cases z
        · exact j.sep k m p q b f1 f2 e3 e4
/-- an owned object is changed -/
theorem J.turnG {i : Nat} {p0 q0 : P} {a : Addr} {o u0 : HO} (j : J R T N ρ W σ H) (e : ρ[i]? = some (Sl.own p0)) (hs : σ[i]? = some (some (.ref a))) (hu : H a = some u0) (nt : ∀ ps, u0 ≠ .tbl ps) (nc : ∀ c q, u0 ≠ LamX.CodeO c q) (new : OwnC R W.D W.ι (upd H a o) a q0) :
    J R T N (ρ.set i (.own q0)) W σ (upd H a o) := by
  obtain ⟨a', h1, h2, h3, h4, h5⟩ := j.own i _ e
  rw [hs] at h1
  cases h1
  have b : B R T N W (upd H a o) := j.b.turn h2 h3 h4 hu nt nc
  have hi : i < ρ.length := (List.getElem?_eq_some_iff.mp e).1
  have at_ : ∀ {k : Nat} {s : Sl}, (ρ.set i (.own q0))[k]? = some s → (i = k ∧ s = .own q0) ∨ (i ≠ k ∧ ρ[k]? = some s) := fun {k s} e => by
    by_cases hk : i = k
    · subst hk
      rw [List.getElem?_set_self hi] at e
      cases e
      exact .inl ⟨rfl, rfl⟩
    · rw [List.getElem?_set_ne hk] at e
      exact .inr ⟨hk, e⟩
  have st : ∀ {c : Addr} {p : P}, c ≠ a → OwnC R W.D W.ι H c p → OwnC R W.D W.ι (upd H a o) c p := fun n o => o.mono (.refl _) (.refl _) fun u e => by rw [upd_ne n]; exact e
  have old : ∀ {k : Nat} {q : P}, (ρ.set i (.own q0))[k]? = some (Sl.own q) → ∃ q', ρ[k]? = some (Sl.own q') := fun {k q} e' => by
    rcases at_ e' with ⟨hk, _⟩ | ⟨_, e'⟩
    · exact ⟨_, hk ▸ e⟩
    · exact ⟨q, e'⟩
  refine ⟨b, by rw [List.length_set]; exact j.len, fun k p e' => ?_, fun k p e' => ?_, fun q hq => ?_, fun q hq k p e' => ?_, j.nodx, fun k m p q c e1 e2 e3 e4 => ?_⟩
  · rcases at_ e' with ⟨_, z⟩ | ⟨_, e'⟩
    · cases z
    · exact j.val k p e'
  · rcases at_ e' with ⟨hk, z⟩ | ⟨hk, e'⟩
    · cases z
      subst hk
      exact ⟨a, hs, h2, h3, h4, new⟩
    · obtain ⟨c, f1, f2, f3, f4, f5⟩ := j.own k p e'
      have hc : c ≠ a := fun z => hk (j.sep i k _ _ a e e' hs (z ▸ f1))
      exact ⟨c, f1, f2, f3, f4, st hc f5⟩
  · obtain ⟨f2, f3, f4, f5⟩ := j.ext q hq
    have hc : q.1 ≠ a := fun z => j.sepx q hq i _ e (z ▸ hs)
    exact ⟨f2, f3, f4, st hc f5⟩
  · obtain ⟨q', e'⟩ := old e'
    exact j.sepx q hq k q' e'
  · obtain ⟨p', f1⟩ := old e1
    obtain ⟨q', f2⟩ := old e2
    exact j.sep k m p' q' c f1 f2 e3 e4
/-- an owned list is changed -/
theorem J.turn {i : Nat} {xs ys : List P} {ws : List V} {a : Addr} (j : J R T N ρ W σ H) (e : ρ[i]? = some (Sl.own (.lst xs))) (hs : σ[i]? = some (some (.ref a))) (r : RpL R W.D W.ι ys ws) (hz : ys.length ≤ lim) :
    J R T N (ρ.set i (.own (.lst ys))) W σ (upd H a (.lst ws)) := by
  obtain ⟨a', h1, h2, h3, h4, h5⟩ := j.own i _ e
  rw [hs] at h1
  cases h1
  obtain ⟨z, vs, ha, r0⟩ := h5
  exact j.turnG e hs ha (fun ps z => by cases z) (fun c q => lst_ncode c q) ⟨hz, ws, upd_same, r⟩
/-- an owned dict is frozen: what it is is told for good -/
theorem J.frzd {i : Nat} {t : Bool} {ks vs : List P} (j : J R T N ρ W σ H) (e : ρ[i]? = some (Sl.own (.dct t ks vs))) : ∃ a u, H a = some u ∧ Mut (some u) ∧ ∀ od, ∃ W', W'.S = W.S ∧ W.le W' ∧ J R T N (Vi.put ρ i (.dct t ks vs)) W' σ (upd H a (.frz od u)) := by
  obtain ⟨a, h1, h2, h3, h4, h5⟩ := j.own i _ e
  obtain ⟨u, hu, nt, nu, mu, nc⟩ := h5.2.there
  refine ⟨a, u, hu, mu, fun od => ?_⟩
  have b := j.b.turn (o := .frz od u) h2 h3 h4 hu nt nc
  have l : W.le ⟨upd W.D a (.frz od u), W.ι, W.S⟩ := ⟨Sub.new _ h3, .refl _⟩
  have hi : i < ρ.length := (List.getElem?_eq_some_iff.mp e).1
  have ng : ∀ {c : Addr}, c ≠ a → W.D c = none → (Wd.mk (upd W.D a (.frz od u)) W.ι W.S).D c = none := fun {c} hc hn => by
    show upd W.D a (.frz od u) c = none
    rw [upd_ne hc]; exact hn
  have at_ : ∀ {k : Nat} {s : Sl}, (Vi.put ρ i (.dct t ks vs))[k]? = some s → (i = k ∧ s = .val (.dct t ks vs)) ∨ (i ≠ k ∧ ρ[k]? = some s) := fun {k s} e => by
    by_cases hk : i = k
    · subst hk
      rw [show (Vi.put ρ i (.dct t ks vs))[i]? = some (Sl.val (.dct t ks vs)) from List.getElem?_set_self hi] at e
      cases e
      exact .inl ⟨rfl, rfl⟩
    · rw [show (Vi.put ρ i (.dct t ks vs))[k]? = ρ[k]? from List.getElem?_set_ne hk] at e
      exact .inr ⟨hk, e⟩
  have hh : ∀ {c : Addr} {v : HO}, c ≠ a → H c = some v → upd H a (.frz od u) c = some v := fun {c v} hc q => by rw [upd_ne hc]; exact q
  refine ⟨⟨upd W.D a (.frz od u), W.ι, W.S⟩, rfl, l, ⟨⟨fun c v q => ?_, fun c ps q => ?_, b.ok.len, fun i c r e1 e2 => (b.ok.rob i c r e1 e2).mono l.1 l.2 fun _ e => e, b.ok.nod, fun c m => ng (fun z => h4 (z ▸ m)) (b.ok.off c m), b.ok.tabs⟩, b.ge.trans l, b.frm, fun c v q => ?_, b.newι⟩, ?_, fun k p e' => ?_, fun k p e' => ?_, fun q hq => ?_, fun q hq k p e' => ?_, j.nodx, fun k m p q b e1 e2 e3 e4 => ?_⟩
  · by_cases hc : c = a
    · subst hc
      rw [show (Wd.mk (upd W.D c (.frz od u)) W.ι W.S).D c = upd W.D c (.frz od u) c from rfl, upd_same] at q
      rw [upd_same]; exact q
    · rw [show (Wd.mk (upd W.D a (.frz od u)) W.ι W.S).D c = upd W.D a (.frz od u) c from rfl, upd_ne hc] at q
      exact b.ok.sub c v q
  · by_cases hc : c = a
    · subst hc
      rw [show (Wd.mk (upd W.D c (.frz od u)) W.ι W.S).D c = upd W.D c (.frz od u) c from rfl, upd_same] at q
      cases q
    · rw [show (Wd.mk (upd W.D a (.frz od u)) W.ι W.S).D c = upd W.D a (.frz od u) c from rfl, upd_ne hc] at q
      exact b.ok.ntb c ps q
  · by_cases hc : c = a
    · subst hc
      exact .inr (.inl h2)
    · rw [show (Wd.mk (upd W.D a (.frz od u)) W.ι W.S).D c = upd W.D a (.frz od u) c from rfl, upd_ne hc] at q
      exact b.newD c v q
  · show σ.length = (ρ.set i (.val (.dct t ks vs))).length
    rw [List.length_set]; exact j.len
  · rcases at_ e' with ⟨hk, z⟩ | ⟨hk, e'⟩
    · cases z
      subst hk
      refine ⟨_, h1, ?_⟩
      obtain ⟨hz, hd⟩ := h5
      cases t with
      | false =>
        obtain ⟨kvs, q1, q2, q3⟩ := hd
        rw [hu] at q1
        cases q1
        subst q2
        exact .dctK (o := od) upd_same (q3.mono l.1 l.2) (by rw [List.length_map] at hz; exact hz)
      | true =>
        obtain ⟨kvs, q1, q2, q3, q4⟩ := hd
        rw [hu] at q1
        cases q1
        subst q2
        exact .dctT (o := od) upd_same (q3.mono l.1 l.2) (by rw [List.length_map] at hz; exact hz) fun p hp => ⟨l.1.tpA (q4 p hp).1, (q4 p hp).2⟩
    · obtain ⟨w, f1, f2⟩ := j.val k p e'
      exact ⟨w, f1, f2.mono l.1 l.2⟩
  · rcases at_ e' with ⟨hk, z⟩ | ⟨hk, e'⟩
    · cases z
    · obtain ⟨c, f1, f2, f3, f4, f5⟩ := j.own k p e'
      have hc : c ≠ a := fun z => hk (j.sep i k _ _ a e e' h1 (z ▸ f1))
      exact ⟨c, f1, f2, ng hc f3, f4, f5.mono l.1 l.2 fun _ e => hh hc e⟩
  · obtain ⟨f2, f3, f4, f5⟩ := j.ext q hq
    have hc : q.1 ≠ a := fun z => j.sepx q hq i _ e (z ▸ h1)
    exact ⟨f2, ng hc f3, f4, f5.mono l.1 l.2 fun _ e => hh hc e⟩
  · rcases at_ e' with ⟨hk, z⟩ | ⟨hk, e'⟩
    · cases z
    · exact j.sepx q hq k p e'
  · rcases at_ e1 with ⟨_, z⟩ | ⟨_, f1⟩
    · cases z
    · rcases at_ e2 with ⟨_, z⟩ | ⟨_, f2⟩
      · cases z
      · exact j.sep k m p q b f1 f2 e3 e4
/-- an object of the store is changed -/
theorem J.rturn {r : Nat} {xs ys : List P} {ws : List V} {a : Addr} (j : J R T N ρ W σ H) (hr : W.ι[r]? = some a) (hS : W.S[r]? = some (.cell xs)) (rl : RpL R W.D W.ι ys ws) :
    J R T N ρ ⟨W.D, W.ι, W.S.set r (.cell ys)⟩ σ (upd H a (.lst ws)) := by
  obtain ⟨vs, ha, r0⟩ := j.b.ok.rob r a _ hr hS
  have hm : a ∈ W.ι := List.mem_of_getElem? hr
  have hD := j.b.ok.off a hm
  have st : ∀ {c : Addr} {p : P}, c ≠ a → OwnC R W.D W.ι H c p → OwnC R W.D W.ι (upd H a (.lst ws)) c p := fun n o => o.mono (.refl _) (.refl _) fun u e => by rw [upd_ne n]; exact e
  have keep : ∀ c u, c ≠ a → H c = some u → upd H a (.lst ws) c = some u := fun c u n e => by rw [upd_ne n]; exact e
  refine ⟨⟨⟨fun c u e => keep c u (fun z => by rw [z, hD] at e; cases e) (j.b.ok.sub c u e), j.b.ok.ntb, by rw [List.length_set]; exact j.b.ok.len, fun i c ro e1 e2 => ?_, j.b.ok.nod, j.b.ok.off, fun p hp => ?_⟩, ⟨j.b.ge.1, j.b.ge.2⟩, fun c u e n nt => ?_, j.b.newD, j.b.newι⟩, j.len, j.val, fun k p e => ?_, fun q hq => ?_, j.sepx, j.nodx, j.sep⟩
  · by_cases hi : r = i
    · subst hi
      have e1 : W.ι[r]? = some c := e1
      rw [hr] at e1
      cases e1
      have hl : r < W.S.length := (List.getElem?_eq_some_iff.mp hS).1
      rw [List.getElem?_set_self hl] at e2
      cases e2
      exact ⟨ws, upd_same, rl⟩
    · rw [List.getElem?_set_ne hi] at e2
      have hc : c ≠ a := fun z => hi ((List.getElem?_inj (List.getElem?_eq_some_iff.mp hr).1 j.b.ok.nod).mp (by rw [hr, ← z]; exact (show W.ι[i]? = some c from e1).symm))
      exact (j.b.ok.rob i c ro e1 e2).mono (.refl _) (.refl _) fun u e => keep c u hc e
  · obtain ⟨ps, g1, g2, g3⟩ := j.b.ok.tabs p hp
    refine ⟨ps, keep _ _ (fun z => by rw [z, ha] at g1; cases g1) g1, g2, fun pos cv e => ?_⟩
    obtain ⟨c, e1, e2⟩ := g3 pos cv e
    exact ⟨c, e1, keep _ _ (fun z => by rw [z, ha] at e2; exact lst_ncode _ _ (Option.some.inj e2)) e2⟩
  · have hb := j.b.frm c u e n nt
    by_cases hc : c = a
    · subst hc
      rcases j.b.newι c hm with z | z
      · exact absurd z n
      · exact (z.not e nt).elim
    · exact keep c u hc hb
  · obtain ⟨c, f1, f2, f3, f4, f5⟩ := j.own k p e
    exact ⟨c, f1, f2, f3, f4, st (fun z => f4 (z ▸ hm)) f5⟩
  · obtain ⟨f2, f3, f4, f5⟩ := j.ext q hq
    exact ⟨f2, f3, f4, st (fun z => f4 (z ▸ hm)) f5⟩
/-- a new object of the store -/
theorem J.rmake {a : Addr} {ps : List P} {vs : List V} (j : J R T N ρ W σ H) (h : H a = none) (rl : RpL R W.D W.ι ps vs) : J R T N ρ ⟨W.D, W.ι ++ [a], W.S ++ [.cell ps]⟩ σ (upd H a (.lst vs)) := by
  have hι := j.b.at_iota h
  have hD := j.b.ok.sub.none h
  have l : W.le ⟨W.D, W.ι ++ [a], W.S ++ [.cell ps]⟩ := ⟨.refl _, ⟨[a], rfl⟩⟩
  have keep : ∀ c u, H c = some u → upd H a (.lst vs) c = some u := fun c u e => by rw [upd_ne (ne_of_none e h)]; exact e
  have nm : ∀ {c : Addr} {u : HO}, H c = some u → c ∉ W.ι → c ∉ W.ι ++ [a] := fun {c u} e n m => by
    rcases List.mem_append.mp m with m | m
    · exact n m
    · rw [List.mem_singleton] at m
      rw [m, h] at e; cases e
  refine ⟨⟨⟨fun c u e => keep c u (j.b.ok.sub c u e), j.b.ok.ntb, by rw [List.length_append, List.length_append, j.b.ok.len]; rfl, fun i c ro e1 e2 => ?_, ?_, fun c m => ?_, j.b.ok.tabs.ext keep⟩, j.b.ge.trans l, fun c u e n nt => keep c u (j.b.frm c u e n nt), j.b.newD, fun c m => ?_⟩, j.len, fun k p e => ?_, fun k p e => ?_, fun q hq => ?_, j.sepx, j.nodx, j.sep⟩
  · by_cases hi : i < W.ι.length
    · have e1 : (W.ι ++ [a])[i]? = some c := e1
      have e2 : (W.S ++ [RObj.cell ps])[i]? = some ro := e2
      rw [List.getElem?_append_left hi] at e1
      rw [List.getElem?_append_left (by rw [← j.b.ok.len]; exact hi)] at e2
      exact (j.b.ok.rob i c ro e1 e2).mono (.refl _) l.2 (keep c)
    · have e1 : (W.ι ++ [a])[i]? = some c := e1
      have e2 : (W.S ++ [RObj.cell ps])[i]? = some ro := e2
      rw [List.getElem?_append_right (by omega)] at e1
      rw [List.getElem?_append_right (by rw [← j.b.ok.len]; omega), ← j.b.ok.len] at e2
      have hz : i - W.ι.length = 0 := by
        have := (List.getElem?_eq_some_iff.mp e1).1
        simp at this
        omega
      rw [hz] at e1 e2
      cases e1
      cases e2
      exact ⟨vs, upd_same, rl.mono l.1 l.2⟩
  · refine List.nodup_append.mpr ⟨j.b.ok.nod, by simp, fun x hx y hy e => ?_⟩
    rw [List.mem_singleton] at hy
    subst hy
    subst e
    exact hι hx
  · rcases List.mem_append.mp m with m | m
    · exact j.b.ok.off c m
    · rw [List.mem_singleton] at m
      rw [m]; exact hD
  · rcases List.mem_append.mp m with m | m
    · exact j.b.newι c m
    · rw [List.mem_singleton] at m
      rw [m]; exact .inr (j.b.fresh h)
  · obtain ⟨u, f1, f2⟩ := j.val k p e
    exact ⟨u, f1, f2.mono l.1 l.2⟩
  · obtain ⟨c, f1, f2, f3, f4, f5⟩ := j.own k p e
    obtain ⟨u, hu, _⟩ := f5.there
    exact ⟨c, f1, f2, f3, nm hu f4, f5.mono l.1 l.2 (keep c)⟩
  · obtain ⟨f2, f3, f4, f5⟩ := j.ext q hq
    obtain ⟨u, hu, _⟩ := f5.there
    exact ⟨f2, f3, nm hu f4, f5.mono l.1 l.2 (keep q.1)⟩
end
end Vi
/-! Vi, statements, construct by construct. -/
namespace Vi
open PySem PySem.Spec PyProof.Rows L2

section
variable {X : Cx} {Γ : Wh} {d : Dn} {pos pos' : Pos} {e : Expr}
abbrev KE (X : Cx) (Γ : Wh) (d : Dn) (e : Expr) (c : CE) : Prop := PE X e (tE Γ fun ρ => denE d ρ c)
abbrev KO (X : Cx) (Γ : Wh) (d : Dn) (e : Expr) (c : CP) : Prop := PE X e (tO Γ fun ρ => denO d ρ c)
abbrev KT (X : Cx) (Γ : Wh) (d : Dn) (e : Expr) (c : CT) : Prop := PT X e (tT Γ fun ρ => denT d ρ c)
abbrev KW (X : Cx) (Γ : Wh) (d : Dn) (e : Expr) (c : CT) : Prop := PW X e (tT Γ fun ρ => denT d ρ c)
abbrev KEs (X : Cx) (Γ : Wh) (d : Dn) (e : List Expr) (c : CEs) : Prop := PA X e (tEs Γ fun ρ => denEs d ρ c)
abbrev KOs (X : Cx) (Γ : Wh) (d : Dn) (e : List Expr) (c : CPs) : Prop := PA X e (tOs Γ fun ρ => denOs d ρ c)
abbrev KS (X : Cx) (Γ : Wh) (d : Dn) (e : Stmt) (c : CS) : Prop := PS X e (tS Γ (denS d c))
abbrev KSs (X : Cx) (Γ : Wh) (d : Dn) (e : List Stmt) (c : CS) : Prop := PSs X e (tS Γ (denS d c))

theorem z_seq {st : Stmt} {rest : List Stmt} {a b : CS} (h1 : KS X Γ d st a) (h2 : KSs X Γ d rest b) : KSs X Γ d (st :: rest) (.seq a b) :=
  (pss_cons h1 h2).imp fun D σ H ⟨ρ, W, j, h⟩ => ⟨ρ, W, j, GS.seq h⟩
theorem z_one {st : Stmt} {a : CS} (h1 : KS X Γ d st a) : KSs X Γ d [st] a := (pss_one h1).imp fun _ _ _ h => h
theorem z_nil : KSs X Γ d [] .pas := pss_nil.imp fun D σ H ⟨ρ, W, j, h⟩ => h σ W H rfl (.refl _) j
theorem z_pass : KS X Γ d (.Pass pos) .pas := ps_pass.imp fun D σ H ⟨ρ, W, j, h⟩ => h σ W H rfl (.refl _) j
theorem z_brk : KS X Γ d (.Break pos) .brk := ps_break.imp fun D σ H ⟨ρ, W, j, h⟩ => h σ W H rfl (.refl _) j
theorem z_cnt : KS X Γ d (.Continue pos) .cnt := ps_continue.imp fun D σ H ⟨ρ, W, j, h⟩ => h σ W H rfl (.refl _) j
/-- freeze first -/
theorem frz_imp {i : Nat} {b : CS} {D : Ends} {σ : L2.St} {H : Hp} : tS Γ (denS d (.seq (.frz i) b)) D σ H → tS Γ (denS d b) D σ H := fun ⟨ρ, W, j, h⟩ => by
  have h : GS Γ W (((match ρ[i]? with | some (Sl.own (.lst v)) => M.pure (Fl.nx (put ρ i (.lst v))) | some (Sl.own _) => M.no | _ => M.pure (Fl.nx ρ)).bind (thenF (denS d b))) W.S) D := h
  cases q : ρ[i]? with
  | none => rw [q] at h; exact ⟨ρ, W, j, h⟩
  | some s =>
    rw [q] at h
    cases s with
    | own v =>
      cases v with
      | lst v =>
        obtain ⟨W', e, l, j'⟩ := j.frz q
        refine ⟨put ρ i (.lst v), W', j', ?_⟩
        rw [e]
        exact GS.le h l
      | _ => exact (show False from h).elim
    | un => exact ⟨ρ, W, j, h⟩
    | val v => exact ⟨ρ, W, j, h⟩
/-- freeze a dict first -/
theorem z_frzd {st : Stmt} {i : Nat} {b : CS} (h : KS X Γ d st b) : KS X Γ d st (.seq (.frzd i) b) := by
  refine ⟨fun pins s σ H D I ⟨ρ, W, j, hh⟩ => ?_⟩
  have hh : GS Γ W (((match ρ[i]? with | some (Sl.own (.dct t ks vs)) => M.pure (Fl.nx (put ρ i (.dct t ks vs))) | some (Sl.own _) => M.no | _ => M.pure (Fl.nx ρ)).bind (thenF (denS d b))) W.S) D := hh
  cases q : ρ[i]? with
  | none => rw [q] at hh; exact h.run pins s σ H D I ⟨ρ, W, j, hh⟩
  | some sl =>
    rw [q] at hh
    cases sl with
    | own v =>
      cases v with
      | dct t ks vs =>
        obtain ⟨a, u, hu, mu, go⟩ := j.frzd q
        obtain ⟨od, I1⟩ := I.lock hu mu
        obtain ⟨W', e, l, j'⟩ := go od
        refine h.run pins s σ _ D I1 ⟨put ρ i (.dct t ks vs), W', j', ?_⟩
        rw [e]
        exact GS.le hh l
      | _ => exact (show False from hh).elim
    | un => exact h.run pins s σ H D I ⟨ρ, W, j, hh⟩
    | val v => exact h.run pins s σ H D I ⟨ρ, W, j, hh⟩
theorem z_frz {st : Stmt} {i : Nat} {b : CS} (h : KS X Γ d st b) : KS X Γ d st (.seq (.frz i) b) := PS.imp h fun _ _ _ => frz_imp
theorem z_set {i : Nat} {x : Str} {c : CE} {pos' : Pos} (hN : X.N.Nodup) (hi : X.N[i]? = some x) (hx : Loc X.env.scope x) (he : KE X Γ d e c) (hs : swapsWith e (some (.Name x pos')) pos.line X.env = pure false) (hf : X.fn x = true ∨ X.env.scope.names.lookup x = some .local) :
    KS X Γ d (.Assign [.Name x pos'] e pos) (.set i c) := by
  refine (ps_set hN hi hx he hs hf).imp fun D σ H ⟨ρ, W, j, h⟩ => ⟨ρ, W, j, GC.imp (GS.bind h) fun x H1 ⟨p, W1, j1, l1, r1, h1⟩ => ?_⟩
  exact GS.nx h1 (j1.put r1)
theorem z_drop {c : CE} (he : KE X Γ d e c) (hs : swapsWith e none pos.line X.env = pure false) : KS X Γ d (.Expr e pos) (.drop c) := by
  refine (ps_expr he hs).imp fun D σ H ⟨ρ, W, j, h⟩ => ⟨ρ, W, j, GC.imp (GS.bind h) fun x H1 ⟨p, W1, j1, l1, r1, h1⟩ => ?_⟩
  exact GS.nx h1 j1
theorem z_ret {c : CE} (he : KE X Γ d e c) : KS X Γ d (.Return (some e) pos) (.ret c) := by
  refine (ps_ret he).imp fun D σ H ⟨ρ, W, j, h⟩ => ⟨ρ, W, j, GC.imp (GS.bind h) fun x H1 ⟨p, W1, j1, l1, r1, h1⟩ => ?_⟩
  exact h1 x W1 H1 rfl j1.b r1
theorem z_if {t : CT} {a b : List Stmt} {ca cb : CS} (ht : KT X Γ d e t) (ha : KSs X Γ d a ca) (hb : KSs X Γ d b cb) : KS X Γ d (.If e a b pos) (.ife t ca cb) := by
  refine (ps_if ht ha hb).imp fun D σ H ⟨ρ, W, j, h⟩ => ⟨ρ, W, j, GC.imp (GS.bind h) fun x H1 ⟨p, W1, j1, l1, r1, h1⟩ => ?_⟩
  obtain rfl : p = x := r1
  cases p with
  | true => exact ⟨ρ, W1, j1, h1⟩
  | false => exact ⟨ρ, W1, j1, h1⟩

/-! ### what is new -/
def GN (Γ : Wh) (ρ : Env) (σ : L2.St) (W : Wd) (r : Rs P) (Q : VK) : Prop := match r with
  | .ok v S' => isBox v = true ∧ ∀ a W' H', W'.S = S' → W.le W' → J Γ.R Γ.T (Γ.N.and a v) ρ W' σ H' → Q (.ref a) H'
  | .err e S' => ∀ cv oe W' H', W'.S = S' → B Γ.R Γ.T Γ.N W' H' → ExR Γ.R W' H' e cv oe → Γ.E cv oe H'
  | .no => False
def tN (Γ : Wh) (dd : Env → M P) : TE := fun σ H Q => ∃ ρ W, J Γ.R Γ.T Γ.N ρ W σ H ∧ GN Γ ρ σ W (dd ρ W.S) Q
abbrev KN (X : Cx) (Γ : Wh) (d : Dn) (e : Expr) (c : CE) : Prop := PE X e (tN Γ fun ρ => denE d ρ c)
section
variable {α β : Type} {rel : Env → L2.St → Wd → α → β → Prop} {ρ : Env} {σ : L2.St} {W W1 : Wd} {H : Hp} {Q : VK} {D : Ends}
theorem GN.le {r : Rs P} (h : GN Γ ρ σ W r Q) (l : W.le W1) : GN Γ ρ σ W1 r Q := by
  cases r with
  | ok v S => exact ⟨h.1, fun a W' H' e l' j => h.2 a W' H' e (l.trans l') j⟩
  | err e S => exact h
  | no => exact h
theorem GN.bind {m : M α} {f : α → M P} (h : GN Γ ρ σ W (m.bind f W.S) Q) :
    GC Γ rel ρ σ W (m W.S) (fun x H1 => ∃ a W1, J Γ.R Γ.T Γ.N ρ W1 σ H1 ∧ W.le W1 ∧ rel ρ σ W1 a x ∧ GN Γ ρ σ W1 (f a W1.S) Q) := by
  unfold M.bind at h
  cases e : m W.S with
  | ok a S =>
    rw [e] at h
    refine fun x W' H' e l j q => ⟨a, W', j, l, q, ?_⟩
    rw [e]
    exact GN.le h l
  | err x S => rw [e] at h; exact h
  | no => rw [e] at h; exact h
theorem GN.mk {xs : List P} {vs : List V} (h : GN Γ ρ σ W (M.pure (.lst xs) W.S) Q) (j : J Γ.R Γ.T Γ.N ρ W σ H) (r : RpL Γ.R W.D W.ι xs vs) (hz : xs.length ≤ lim) {a : Addr} (ha : H a = none) : Q (.ref a) (upd H a (.lst vs)) :=
  h.2 a W _ rfl (.refl _) (j.made ha r hz)
theorem GS.ofN {m : M P} {i : Nat} (h : GS Γ W (m.bind (fun v => if isBox v then M.pure (.nx (ρ.set i (.own v))) else M.no) W.S) D) : GN Γ ρ σ W (m W.S) (fun x H1 => D.nx (σ.set i (some x)) H1) := by
  unfold M.bind at h
  cases e : m W.S with
  | ok v S =>
    rw [e] at h
    have h : GS Γ W ((if isBox v then M.pure (Fl.nx (ρ.set i (.own v))) else M.no) S) D := h
    cases hb : isBox v with
    | true =>
      rw [if_pos hb] at h
      exact ⟨hb, fun a W1 H1 e1 l1 j1 => h _ W1 H1 e1 l1 j1.take⟩
    | false =>
      rw [if_neg (by rw [hb]; decide)] at h
      exact (show False from h).elim
  | err x S => rw [e] at h; exact h
  | no => rw [e] at h; exact h
end
theorem n_lst {es : List Expr} {cs : CEs} (h : KEs X Γ d es cs) : KN X Γ d (.List es pos) (.lst cs) := by
  refine (pe_lst h).imp fun σ H Q ⟨ρ, W, j, h⟩ => ⟨ρ, W, j, GC.imp (GN.bind (m := denEs d ρ cs) h) fun x H1 ⟨p, W1, j1, l1, r1, h1⟩ => ?_⟩
  by_cases hz : p.length ≤ lim
  · rw [if_pos hz] at h1
    exact ⟨by rw [RpL.length r1]; exact lim_eq ▸ hz, fun a ha => h1.mk j1 r1 hz ha⟩
  · rw [if_neg hz] at h1; exact (show False from h1).elim
/-- a list that is the def's own from now on -/
theorem z_own {i : Nat} {x : Str} {c : CE} {pos' : Pos} (hN : X.N.Nodup) (hi : X.N[i]? = some x) (hx : Loc X.env.scope x) (he : KN X Γ d e c) (hs : swapsWith e (some (.Name x pos')) pos.line X.env = pure false) (hf : X.fn x = true ∨ X.env.scope.names.lookup x = some .local) :
    KS X Γ d (.Assign [.Name x pos'] e pos) (.own i c) :=
  (ps_set hN hi hx he hs hf).imp fun D σ H ⟨ρ, W, j, h⟩ => ⟨ρ, W, j, GS.ofN h⟩

/-! ### changes -/
theorem z_app {i : Nat} {x : Str} {c : CE} {p1 p2 p3 : Pos} (hN : X.N[i]? = some x) (hv : Vis X.env.scope x) (hd : (x == ("__debug__" : Str)) = false) (hcd : (x == ("__classdict__" : Str)) = false) (he : KE X Γ d e c)
    (hbase : attributeBase (.Name x p1) "append" X.env (eval (.Name x p1) X.env) = eval (.Name x p1) X.env)
    (hfew : ((backTo p3 (starEach [e] X.env)).all (fun x => !x.1) && (backToKw p3 (keywordEach [] X.env)).all (fun x => x.1.isSome)
      && decide ([e].length + ([] : List Keyword).length + (if ([] : List Keyword).isEmpty then 0 else 1) < 30)) = true)
    (hline : (p2.endLine == p3.line) = true) (hs : starEach [e] X.env = (false, eval e X.env) :: starEach [] X.env)
    (hsw : swapsWith (.Call (.Attribute (.Name x p1) "append" p2) [e] [] p3) none pos.line X.env = pure false) :
    KS X Γ d (.Expr (.Call (.Attribute (.Name x p1) "append" p2) [e] [] p3) pos) (.app i c) := by
  refine (ps_expr (pe_bm PySem.F.plainAttrs_list PySem.F.slot_list_append PySem.F.type_list_append mt_append (pe_var hN hv hd hcd) (pa_cons he pa_nil hs) hbase hfew hline hs (by rfl)) hsw).imp fun D σ H ⟨ρ, W, j, h⟩ => ?_
  have h : GS Γ W ((match ρ[i]? with
    | some (.own (.lst xs)) => (denE d ρ c).bind fun v => if xs.length < lim then M.pure (Fl.nx (ρ.set i (.own (.lst (xs ++ [v]))))) else M.no
    | _ => M.no) W.S) D := h
  cases q : ρ[i]? with
  | none => rw [q] at h; exact (show False from h).elim
  | some s =>
    rw [q] at h
    cases s with
    | un => exact (show False from h).elim
    | val v => exact (show False from h).elim
    | own v =>
      cases v with
      | lst xs =>
        obtain ⟨a, h1, _, _, _, z, vs, ha, r0⟩ := j.own i _ q
        refine ⟨.ref a, h1, .inl ⟨rfl, vs, .inl (.inl ha)⟩, ρ, W, j, GC.imp (GS.bind h) fun x H1 ⟨p, W1, j1, l1, r1, h2⟩ => ?_⟩
        obtain ⟨a', h1', _, _, _, z', vs', ha', r0'⟩ := j1.own i _ q
        rw [h1] at h1'
        cases h1'
        by_cases hz : xs.length < lim
        · rw [if_pos hz] at h2
          refine ⟨a, vs', x, rfl, rfl, ha', by rw [r0'.length]; exact lim_eq ▸ hz, GS.nx h2 (j1.turn q h1 (r0'.app (.cons r1 .nil)) ?_)⟩
          rw [List.length_append]
          exact hz
        · rw [if_neg hz] at h2; exact (show False from h2).elim
      | _ => exact (show False from h).elim
/-- cup[k] = v, the list handed about -/
theorem z_rseti {i : Nat} {x : Str} {k v : Expr} {ck cv : CE} {p1 p2 : Pos} (hN : X.N[i]? = some x) (hvi : Vis X.env.scope x) (hd : (x == ("__debug__" : Str)) = false) (hcd : (x == ("__classdict__" : Str)) = false) (hk : KE X Γ d k ck) (hv : KE X Γ d v cv)
    (ha : ∀ v, assign (.Subscript (.Name x p1) k p2) X.env v = (do
      let ov ← holding [v] (eval (.Name x p1) X.env)
      let iv ← holding [v, ov] (eval k X.env)
      standAt p2
      holding [v, ov, iv] (setItem ov iv v)
      release [v, ov, iv] []))
    (hs : swapsWithSole [.Subscript (.Name x p1) k p2] v pos.line X.env = pure false) (hw : swappedStores [.Subscript (.Name x p1) k p2] v X.env = pure none)
    (h1 : (assignEach [.Subscript (.Name x p1) k p2] X.env).map (·.2) = [assign (.Subscript (.Name x p1) k p2) X.env]) :
    KS X Γ d (.Assign [.Subscript (.Name x p1) k p2] v pos) (.rseti i ck cv) := by
  refine (ps_asg hv (pg_sub (pe_var hN hvi hd hcd) hk set_list ha) hs hw h1).imp fun D σ H ⟨ρ, W, j, h⟩ => ?_
  have h : GS Γ W ((match get ρ i with
    | some (.ref r) => (denE d ρ cv).bind fun v => (denE d ρ ck).bind fun j => match j with
      | .int j => (setRef r j v).bind fun _ => M.pure (Fl.nx ρ)
      | _ => M.no
    | _ => M.no) W.S) D := h
  cases q : get ρ i with
  | none => rw [q] at h; exact (show False from h).elim
  | some o =>
    rw [q] at h
    cases o with
    | ref r =>
      have q' : ρ[i]? = some (Sl.val (.ref r)) := by
        unfold get at q
        split at q
        · rename_i e; cases q; exact e
        · cases q
      refine ⟨ρ, W, j, GC.imp (GS.bind h) fun x H1 ⟨p, W1, j1, l1, r1, h1⟩ => ?_⟩
      obtain ⟨u, e1, ru⟩ := j1.val i _ q'
      refine ⟨u, e1, ρ, W1, j1, GC.imp (GS.bind h1) fun y H2 ⟨n, W2, j2, l2, r2, h2⟩ => ?_⟩
      cases n with
      | int n =>
        cases r2
        cases ru with
        | ref ea =>
          have h2 : GS Γ W2 ((setRef r n p).bind (fun _ => M.pure (.nx ρ)) W2.S) D := h2
          unfold setRef M.bind at h2
          dsimp only at h2
          cases q2 : W2.S[r]? with
          | none => rw [q2] at h2; exact (show False from h2).elim
          | some ro =>
            cases ro with
            | cell xs =>
              rw [q2] at h2
              dsimp only at h2
              have ea2 := l2.2.get ea
              obtain ⟨vs, ha, rv⟩ := j2.b.ok.rob r _ _ ea2 q2
              cases q3 : Vi.ixN xs.length n with
              | none => rw [q3] at h2; exact (show False from h2).elim
              | some m =>
                rw [q3] at h2
                refine ⟨_, vs, n, m, rfl, rfl, ha, by rw [rv.length]; exact q3, ?_⟩
                exact h2 σ ⟨W2.D, W2.ι, W2.S.set r (.cell (xs.set m p))⟩ _ rfl ⟨.refl _, .refl _⟩ (j2.rturn ea2 q2 (rv.set (r1.mono l2.1 l2.2) m))
      | _ => exact (show False from h2).elim
    | _ => exact (show False from h).elim
end
end Vi
/-! Vi, statements: several names, loops, raise. -/
namespace Vi
open PySem PySem.Spec PyProof.Rows L2

section
variable {X : Cx} {Γ : Wh} {d : Dn} {pos pos' : Pos} {e : Expr}
theorem puts_set : ∀ {is : List Nat} {ps : List P} {vs : List V} {ρ ρ' : Env} {σ : L2.St} {W : Wd} {H : Hp} {R : Rc} {T : List (Addr × Str)} {N : En}, J R T N ρ W σ H → RpL R W.D W.ι ps vs → puts ρ is ps = some ρ' → J R T N ρ' W ((is.zip vs).foldl (fun σ q => σ.set q.1 (some q.2)) σ) H
  | [], [], _, ρ, _, σ, _, _, _, _, _, j, .nil, e => by
    cases e
    exact j
  | i :: is, p :: ps, _, ρ, ρ', σ, _, _, _, _, _, j, .cons r rr, e => puts_set (is := is) (j.put r) rr e
  | [], _ :: _, _, _, _, _, _, _, _, _, _, _, _, e => by cases e
  | _ :: _, [], _, _, _, _, _, _, _, _, _, _, _, e => by cases e
theorem z_par2 {i j : Nat} {x y : Str} {a b : Expr} {cs : CEs} {px py pt : Pos} {kt k2 pt2} (hc : X.calm = true) (hN : X.N.Nodup) (hi : X.N[i]? = some x) (hj : X.N[j]? = some y) (hij : i ≠ j)
    (hx : X.env.scope.names.lookup x = some .local) (hy : X.env.scope.names.lookup y = some .local) (ha : KEs X Γ d [a, b] cs)
    (hw : swappedStores [.Tuple [.Name x px, .Name y py] kt pt] (.Tuple [a, b] k2 pt2) X.env = pure (some [x, y]))
    (hs : swapsWithSole [.Tuple [.Name x px, .Name y py] kt pt] (.Tuple [a, b] k2 pt2) pos.line X.env = pure false) :
    KS X Γ d (.Assign [.Tuple [.Name x px, .Name y py] kt pt] (.Tuple [a, b] k2 pt2) pos) (.par [i, j] cs) := by
  refine (ps_par hc hN hi hj hij hx hy ha hw hs).imp fun D σ H ⟨ρ, W, jj, h⟩ => ⟨ρ, W, jj, GC.imp (GS.bind (m := denEs d ρ cs) h) fun vs H1 ⟨p, W1, j1, l1, r1, h1⟩ => ?_⟩
  cases q : puts ρ [i, j] p with
  | none => rw [q] at h1; exact (show False from h1).elim
  | some ρ' =>
    rw [q] at h1
    have hl := puts_len q
    have hl2 := RpL.length r1
    rw [hl] at hl2
    match vs, hl2 with
    | [v, w], _ => exact ⟨v, w, rfl, GS.nx h1 (puts_set j1 r1 q)⟩
theorem z_par3 {i j l : Nat} {x y z : Str} {a b c : Expr} {cs : CEs} {px py pz pt : Pos} {kt k2 pt2} (hc : X.calm = true) (hN : X.N.Nodup) (hi : X.N[i]? = some x) (hj : X.N[j]? = some y) (hl : X.N[l]? = some z) (hij : i ≠ j) (hil : i ≠ l) (hjl : j ≠ l)
    (hx : X.env.scope.names.lookup x = some .local) (hy : X.env.scope.names.lookup y = some .local) (hz : X.env.scope.names.lookup z = some .local) (ha : KEs X Γ d [a, b, c] cs)
    (hw : swappedStores [.Tuple [.Name x px, .Name y py, .Name z pz] kt pt] (.Tuple [a, b, c] k2 pt2) X.env = pure (some [x, y, z]))
    (hs : swapsWithSole [.Tuple [.Name x px, .Name y py, .Name z pz] kt pt] (.Tuple [a, b, c] k2 pt2) pos.line X.env = pure false) :
    KS X Γ d (.Assign [.Tuple [.Name x px, .Name y py, .Name z pz] kt pt] (.Tuple [a, b, c] k2 pt2) pos) (.par [i, j, l] cs) := by
  refine (ps_par3 hc hN hi hj hl hij hil hjl hx hy hz ha hw hs).imp fun D σ H ⟨ρ, W, jj, h⟩ => ⟨ρ, W, jj, GC.imp (GS.bind (m := denEs d ρ cs) h) fun vs H1 ⟨p, W1, j1, l1, r1, h1⟩ => ?_⟩
  cases q : puts ρ [i, j, l] p with
  | none => rw [q] at h1; exact (show False from h1).elim
  | some ρ' =>
    rw [q] at h1
    have hl := puts_len q
    have hl2 := RpL.length r1
    rw [hl] at hl2
    match vs, hl2 with
    | [v, w, u], _ => exact ⟨v, w, u, rfl, GS.nx h1 (puts_set j1 r1 q)⟩
/-- a tuple of names -/
theorem z_unp {tgx : Expr} {is : List Nat} {c : CE} (hK : Γ.R.K = X.K) (he : KE X Γ d e c) (hg : PG X tgx (gT X.K (.t is))) (hs : swapsWithSole [tgx] e pos.line X.env = pure false) (hw : swappedStores [tgx] e X.env = pure none)
    (h1 : (assignEach [tgx] X.env).map (·.2) = [assign tgx X.env]) : KS X Γ d (.Assign [tgx] e pos) (.unp is c) := by
  refine (ps_asg he hg hs hw h1).imp fun D σ H ⟨ρ, W, j, h⟩ => ⟨ρ, W, j, GC.imp (GS.bind h) fun x H1 ⟨p, W1, j1, l1, r1, h1⟩ => ?_⟩
  cases p with
  | tup vs =>
    have h1 : GS Γ W1 (((M.ofO (puts ρ is vs)).bind fun ρ' => M.pure (Fl.nx ρ')) W1.S) D := h1
    cases q : puts ρ is vs with
    | none => rw [q] at h1; exact (show False from h1).elim
    | some ρ' =>
      rw [q] at h1
      exact store_tg (tg := .t is) (own := is) hK j1 r1 q (fun i hi => hi) fun σ' j' _ _ => GS.nx h1 j'
  | _ => exact (show False from h1).elim
theorem z_raise {x m : Str} {jj : Nat} {p p2 pos2 : Pos} {C : Addr} {bmB : List Value} {Bn newId initId : String} {c : Nat} (hc : X.calm = true) (tk : L2N.Takes X (fun cls dd _ H => Γ.E cls dd H)) (F : ExcBaseFacts Bn newId initId bmB) (q : PySem.W.excIn X.K C bmB newId = true) (gC : X.mg x = some (.ref C)) (kC : PySem.W.keepIn X.K (.ref C) = true) (r : Raises X (.ref C)) (hg : Gl X x)
    (hdb : (x == ("__debug__" : Str)) = false) (hcad : Γ.R.cad c = some C) : KS X Γ d (.Raise (some (.Call (.Name x p) [.Constant (.str m) jj p2] [] pos)) none pos2) (.rais c) := by
  refine (L2N.ps_raise hc tk (L2N.pmk_own F q gC kC r hg hdb)).imp fun D σ H ⟨ρ, W, j, h⟩ => ?_
  exact h (.ref C) none W H rfl j.b ⟨C, hcad, rfl, rfl, rfl⟩

/-! ### loops -/
theorem forF_cons {b : P → Env → M Fl} {x : P} {r : List P} {ρ : Env} : forF b (x :: r) ρ = (b x ρ).bind fun
      | .nx ρ' => forF b r ρ'
      | .ct ρ' => forF b r ρ'
      | .bk ρ' => M.pure (.nx ρ')
      | .rt v => M.pure (.rt v) := rfl
theorem GS.turn {W : Wd} {D : Ends} {m : M Fl} {f : Env → M Fl} (h : GS Γ W (m.bind (fun
      | .nx ρ' => f ρ'
      | .ct ρ' => f ρ'
      | .bk ρ' => M.pure (.nx ρ')
      | .rt v => M.pure (.rt v)) W.S) D) : GS Γ W (m W.S) { D with nx := fun σ' H' => ∃ ρ' W', J Γ.R Γ.T Γ.N ρ' W' σ' H' ∧ W.le W' ∧ GS Γ W' (f ρ' W'.S) D, ct := fun σ' H' => ∃ ρ' W', J Γ.R Γ.T Γ.N ρ' W' σ' H' ∧ W.le W' ∧ GS Γ W' (f ρ' W'.S) D, bk := D.nx } := by
  unfold M.bind at h
  cases e : m W.S with
  | ok a S =>
    rw [e] at h
    cases a with
    | nx ρ' =>
      intro σ' W' H' e l j
      refine ⟨ρ', W', j, l, ?_⟩
      rw [e]
      exact GS.le h l
    | ct ρ' =>
      intro σ' W' H' e l j
      refine ⟨ρ', W', j, l, ?_⟩
      rw [e]
      exact GS.le h l
    | bk ρ' => exact h
    | rt v => exact h
  | err x S => rw [e] at h; exact h
  | no => rw [e] at h; exact h
theorem GS.ofO {W : Wd} {D : Ends} {α : Type} {o : Option α} {f : α → M Fl} (h : GS Γ W ((M.ofO o).bind f W.S) D) : ∃ v, o = some v ∧ GS Γ W (f v W.S) D := by
  cases o with
  | none => exact (show False from h).elim
  | some v => exact ⟨v, rfl, h⟩
theorem z_for {tgx iter : Expr} {body : List Stmt} {tg : Tg} {it : CI} {cb : CS} (hK : Γ.R.K = X.K) (hp : PassesOwn (model X.prog X.w) X.A X.env X.xe) (hc : X.calm = true) (hi : PI X tgx iter (tI Γ [] fun ρ => denI d ρ it)) (hg : PG X tgx (gT X.K tg)) (hb : KSs X Γ d body cb)
    (hs : ∀ x, foldedSetIterable iter X.env x = pure x) : KS X Γ d (.For tgx iter body [] pos) (.forr tg it cb) := by
  refine (ps_for hp hc hi hg hb hs).imp fun D σ H ⟨ρ, W, j, h⟩ => ⟨ρ, W, j, GC.imp (GS.bind (m := denI d ρ it) h) fun Jt H1 ⟨xs, W1, j1, l1, r1, h1⟩ => ?_⟩
  obtain ⟨os, G, Y, zl, hos, wk, hG, hY⟩ := r1
  have eos : os = [] := by
    cases os with
    | nil => rfl
    | cons q os =>
      obtain ⟨i, hi, _⟩ := hos q (by simp)
      cases hi
  subst eos
  have own : ∀ W' H', Own Γ.R [] W' H' := fun W' H' q hq => by cases hq
  refine ⟨fun i m σ H => m = xs.length - i ∧ i ≤ xs.length ∧ ∃ ρi Wi, J Γ.R Γ.T Γ.N ρi Wi σ H ∧ W1.le Wi ∧ GS Γ Wi (forF (fun x ρ => (M.ofO (store ρ tg x)).bind fun ρ' => denS d cb ρ') (xs.drop i) ρi Wi.S) D,
    ⟨_, rfl, Nat.zero_le _, ρ, W1, j1, .refl _, h1⟩, fun i m σ H hW => ?_⟩
  obtain ⟨em, hi, ρi, Wi, ji, li, hh⟩ := hW
  by_cases hlt : i < xs.length
  · refine .inr ⟨wk.goes i H hlt (hG Wi H li ji.b.ok.sub (own _ _)), fun σ' H' => ∃ ρ' W', J Γ.R Γ.T Γ.N ρ' W' σ' H' ∧ W1.le W' ∧ GS Γ W' (forF (fun x ρ => (M.ofO (store ρ tg x)).bind fun ρ' => denS d cb ρ') (xs.drop (i + 1)) ρ' W'.S) D, fun σ' H' ⟨ρ', W', g1, g2, g3⟩ => ⟨xs.length - (i + 1), by omega, rfl, hlt, ρ', W', g1, g2, g3⟩, fun x H' hy => ?_⟩
    obtain ⟨p, ep, yl⟩ := hY i Wi H x H' hlt li ji.b.ok.sub (own _ _) (wk.yields i H x H' hlt (hG Wi H li ji.b.ok.sub (own _ _)) hy)
    obtain ⟨W2, eS, l2, j2, r2⟩ := yl.to ji
    have ed : xs.drop i = p :: xs.drop (i + 1) := by
      obtain ⟨h1, h2⟩ := List.getElem?_eq_some_iff.mp ep
      rw [List.drop_eq_getElem_cons h1, h2]
    rw [ed, forF_cons, ← eS] at hh
    have hh := GS.turn (GS.le hh l2)
    obtain ⟨ρ', est, hh⟩ := GS.ofO hh
    refine store_tg (own := tgS tg) hK j2 r2 est (fun i hi => hi) fun σ2 j3 _ _ => ⟨ρ', W2, j3, ?_⟩
    exact hh.imp (fun σ H ⟨ρ', W', g1, g2, g3⟩ => ⟨ρ', W', g1, (li.trans l2).trans g2, g3⟩) (fun _ _ h => h) (fun σ H ⟨ρ', W', g1, g2, g3⟩ => ⟨ρ', W', g1, (li.trans l2).trans g2, g3⟩) fun _ _ h => h
  · have ei : i = xs.length := by omega
    subst ei
    rw [List.drop_length] at hh
    exact .inl ⟨wk.stops H (hG Wi H li ji.b.ok.sub (own _ _)), GS.nx hh ji⟩
theorem z_while {t : CT} {body : List Stmt} {cb : CS} (hp : PassesOwn (model X.prog X.w) X.A X.env X.xe) (hc : KT X Γ d e t) (hb : KSs X Γ d body cb) : KS X Γ d (.While e body [] pos) (.whil t cb) := by
  refine (ps_while hp hc hb).imp fun D σ H ⟨ρ, W, j, h⟩ => ?_
  refine ⟨fun m σ H => ∃ ρ W, J Γ.R Γ.T Γ.N ρ W σ H ∧ GS Γ W (whileF (fun ρ => denT d ρ t) (fun ρ => denS d cb ρ) m ρ W.S) D, ⟨turnsMax, ρ, W, j, h⟩, fun m σ H ⟨ρ, W, j, h⟩ => ?_⟩
  cases m with
  | zero => exact (show False from h).elim
  | succ m =>
    refine ⟨ρ, W, j, GC.imp (GS.bind (m := denT d ρ t) h) fun x H1 ⟨p, W1, j1, l1, r1, h1⟩ => ?_⟩
    obtain rfl : p = x := r1
    cases p with
    | false => exact GS.nx h1 j1
    | true =>
      refine ⟨fun σ' H' => ∃ ρ W, J Γ.R Γ.T Γ.N ρ W σ' H' ∧ GS Γ W (whileF (fun ρ => denT d ρ t) (fun ρ => denS d cb ρ) m ρ W.S) D, fun σ' H' hh => ⟨m, Nat.lt_succ_self m, hh⟩, ρ, W1, j1, ?_⟩
      exact (GS.turn (m := denS d cb ρ) h1).imp (fun σ H ⟨ρ', W', g1, g2, g3⟩ => ⟨ρ', W', g1, g3⟩) (fun _ _ h => h) (fun σ H ⟨ρ', W', g1, g2, g3⟩ => ⟨ρ', W', g1, g3⟩) fun _ _ h => h
end
end Vi
/-! Vi, a list walked and a pair unpacked while an exception is handled. -/
namespace ViHot
open PySem PySem.Spec PyProof.Rows HotX
theorem HotAt_other {A : Around} {x1 it : Addr} {h h' : Heap} (hot : HotAt A x1 h) (hne : x1 ≠ it) (k : ∀ b o, b ≠ it → h.get? b = some o → h'.get? b = some o) : HotAt A x1 h' := by
  obtain ⟨hh, o1, vs1, h1, d1, c1⟩ := hot
  exact ⟨hh, o1, vs1, k _ _ hne h1, d1, c1⟩
section
variable {prog : Program} {w : World} {A : Around} {E : Value → Shared → Prop} {s : Shared}
/-- a list's end while x1 is handled -/
theorem next_list_end {it l x1 : Addr} {i : Nat} {items} {Q : Option Value → Shared → Prop} (hot : HotAt A x1 s.heap) (hne : x1 ≠ it)
    (hit : s.heap.IsListIter it l i) (hl : s.heap.IsList l items) (hx : items[i]? = none)
    (hQ : ∀ h', Heap.ExtBut it s.heap h' → Q none { s with heap := h' }) : wpAny (model prog w) A (pyNext (.ref it)) Q E s := by
  obtain ⟨o, ho, hc, hd⟩ := id hit
  obtain ⟨ol, hol, _, nl, hdl⟩ := hl
  unfold pyNext
  refine wpAny_bind (wpAny_attempt (wpAny_callSpecial?_slot (name := Str.ofString "__next__") hit.typeIs slot_listiter_next
    (wpAny_call_entry slot_listiter_next hit.typeIs entry_listiter_next ?_ (args_listiter_next _))))
  show wpAny _ _ (field (.ref it) 0 >>= _) _ _ s
  refine wpAny_bind (wpAny_field ho hd (x := .ref l) rfl ?_)
  show wpAny _ _ (if (Value.ref l == Value.none) = true then _ else _) _ _ s
  rw [if_neg (show ¬ ((Value.ref l == Value.none) = true) from Bool.false_ne_true)]
  show wpAny _ _ (field (.ref it) 1 >>= _) _ _ s
  refine wpAny_bind (wpAny_field ho hd (x := .int i 0) rfl ?_)
  show wpAny _ _ (seqItems? (.ref l) >>= _) _ _ s
  refine wpAny_bind (wpAny_seqItems hol hdl ?_)
  simp only [Int.toNat_natCast, hx]
  refine wpAny_bind (wpAny_rule (wpAny_bind (wpAny_setField ho hd (by simp) ?_)))
  show wpAny _ _ (newExc (.type "StopIteration") [] >>= _) _ _ _
  refine wpAny_bind ?_
  simp only [newExc, newTuple]
  refine wpAny_bind (wpAny_newObj_type ?_ (by size_fits))
  refine wpAny_bind (m := firstArgMember _ _) (wpAny_of_eq (a := Value.none) (by first | rfl | (simp only [firstArgMember]; rfl)) ?_)
  refine wpAny_newObj_type ?_ (by size_fits)
  obtain ⟨hh, o1, vs1, h1, d1, c1⟩ := hot
  have h1' := (Heap.SameBut.update (h := s.heap) (a := it) (f := Obj.mapFields (·.setIfInBounds 0 Value.none))).extBut _ _ hne h1
  refine raiseNew_hot ⟨hh, o1, vs1, Heap.get?_push_of_some _ (Heap.get?_push_of_some _ h1'), d1, c1⟩ (Nat.ne_of_lt (Heap.lt_size (Heap.get?_push_of_some _ h1'))) (Heap.get?_push_size _ rfl) rfl (by first | (simp; done) | (simp; omega) | (simp only [Array.size_append]; simp; omega)) ?_
  refine wpAny_bind (wpAny_isInstance (T := "StopIteration") (b := true) ⟨_, Heap.get?_update_self _ (Heap.get?_push_size _ rfl) rfl, rfl⟩ isSubtype_stop ?_)
  refine wpAny_pure (hQ _ fun b o hb e => ?_)
  have e' := (Heap.SameBut.update (h := s.heap) (a := it) (f := Obj.mapFields (·.setIfInBounds 0 Value.none))).extBut _ _ hb e
  rw [Heap.get?_update_other _ _ (Nat.ne_of_gt (Heap.lt_size (Heap.get?_push_of_some _ e')))]
  exact Heap.get?_push_of_some _ (Heap.get?_push_of_some _ e')
theorem next_tuple_end_hot {it t x1 : Addr} {i : Nat} {items} {Q : Option Value → Shared → Prop} (hot : HotAt A x1 s.heap) (hne : x1 ≠ it)
    (hit : IsTupIter s.heap it t i) (ht : IsTup s.heap t items) (hx : items[i]? = none)
    (hQ : ∀ h', Heap.ExtBut it s.heap h' → Q none { s with heap := h' }) : wpAny (model prog w) A (pyNext (.ref it)) Q E s := by
  obtain ⟨o, ho, hc, hd⟩ := id hit
  obtain ⟨ol, hol, _, nl, hdl⟩ := ht
  unfold pyNext
  refine wpAny_bind (wpAny_attempt (wpAny_callSpecial?_slot (name := Str.ofString "__next__") hit.typeIs slot_tupleiter_next
    (wpAny_call_entry slot_tupleiter_next hit.typeIs entry_tupleiter_next ?_ (args_tupleiter_next _))))
  show wpAny _ _ (field (.ref it) 0 >>= _) _ _ s
  refine wpAny_bind (wpAny_field ho hd (x := .ref t) rfl ?_)
  show wpAny _ _ (if (Value.ref t == Value.none) = true then _ else _) _ _ s
  rw [if_neg (show ¬ ((Value.ref t == Value.none) = true) from Bool.false_ne_true)]
  show wpAny _ _ (field (.ref it) 1 >>= _) _ _ s
  refine wpAny_bind (wpAny_field ho hd (x := .int i 0) rfl ?_)
  show wpAny _ _ (seqItems? (.ref t) >>= _) _ _ s
  refine wpAny_bind (wpAny_seqItems hol hdl ?_)
  simp only [Int.toNat_natCast, hx]
  refine wpAny_bind (wpAny_rule (wpAny_bind (wpAny_setField ho hd (by simp) ?_)))
  show wpAny _ _ (newExc (.type "StopIteration") [] >>= _) _ _ _
  refine wpAny_bind ?_
  simp only [newExc, newTuple]
  refine wpAny_bind (wpAny_newObj_type ?_ (by size_fits))
  refine wpAny_bind (m := firstArgMember _ _) (wpAny_of_eq (a := Value.none) (by first | rfl | (simp only [firstArgMember]; rfl)) ?_)
  refine wpAny_newObj_type ?_ (by size_fits)
  obtain ⟨hh, o1, vs1, h1, d1, c1⟩ := hot
  have h1' := (Heap.SameBut.update (h := s.heap) (a := it) (f := Obj.mapFields (·.setIfInBounds 0 Value.none))).extBut _ _ hne h1
  refine raiseNew_hot ⟨hh, o1, vs1, Heap.get?_push_of_some _ (Heap.get?_push_of_some _ h1'), d1, c1⟩ (Nat.ne_of_lt (Heap.lt_size (Heap.get?_push_of_some _ h1'))) (Heap.get?_push_size _ rfl) rfl (by first | (simp; done) | (simp; omega) | (simp only [Array.size_append]; simp; omega)) ?_
  refine wpAny_bind (wpAny_isInstance (T := "StopIteration") (b := true) ⟨_, Heap.get?_update_self _ (Heap.get?_push_size _ rfl) rfl, rfl⟩ isSubtype_stop ?_)
  refine wpAny_pure (hQ _ fun b o hb e => ?_)
  have e' := (Heap.SameBut.update (h := s.heap) (a := it) (f := Obj.mapFields (·.setIfInBounds 0 Value.none))).extBut _ _ hb e
  rw [Heap.get?_update_other _ _ (Nat.ne_of_gt (Heap.lt_size (Heap.get?_push_of_some _ e')))]
  exact Heap.get?_push_of_some _ (Heap.get?_push_of_some _ e')
theorem unpackItems_hot {t x1 : Addr} {items : Array Value} {Q : List Value → Shared → Prop} (hot : HotAt A x1 s.heap) (ht : IsTup s.heap t items)
    (hQ : ∀ h', Heap.ExtBut s.heap.objs.size s.heap h' → Q items.toList { s with heap := h' }) : wpAny (model prog w) A (unpackItems (.ref t) items.size none) Q E s := by
  have hlt : t ≠ s.heap.objs.size := by obtain ⟨o, ho, _⟩ := ht; exact Nat.ne_of_lt (Heap.lt_size ho)
  have hl1 : x1 ≠ s.heap.objs.size := by obtain ⟨_, o, _, ho, _⟩ := hot; exact Nat.ne_of_lt (Heap.lt_size ho)
  unfold unpackItems
  refine wpAny_bind ?_
  · unfold notIterableAtAll
    refine wpAny_bind (wpAny_specialOf ht.typeIs slot_tuple_iter.lookup ?_)
    refine wpAny_pure ?_
    simp only [Bool.false_eq_true, if_false]
    refine wpAny_bind (wpAny_holding (iter_tuple ht ?_))
    refine wpAny_bind (wpAny_holding (draw_tuple hlt items.size 0 _ _ ⟨_, Heap.get?_push_size _ rfl, rfl, rfl⟩ (ht.push _) (by omega) fun h₁ hit₁ hs₁ => ?_))
    have hall : List.take items.size (List.drop 0 items.toList) = items.toList := by
      rw [List.drop_zero]; exact List.take_of_length_le (by simp)
    rw [hall]
    rw [if_neg (by simp)]
    have ht₁ : IsTup h₁ t items := (ht.push _).extBut hs₁.extBut hlt
    have hot₁ : HotAt A x1 h₁ := HotAt_other (h := s.heap) hot hl1 fun b o hb e => hs₁.extBut b o hb (Heap.get?_push_of_some _ e)
    refine wpAny_bind (wpAny_holding (next_tuple_end_hot hot₁ hl1 hit₁ ht₁ (by simp) fun h₂ he₂ => ?_))
    simp only [Option.isSome_none, Bool.false_eq_true, if_false]
    refine wpAny_pure (hQ h₂ fun b o hb e => he₂ b o hb (hs₁.extBut b o hb (Heap.get?_push_of_some _ e)))
theorem assign_Tuple_hot {env : Env} {elts : List Expr} {k} {pos : Pos} {t x1 : Addr} {items : Array Value} {Q : Unit → Shared → Prop} (hot : HotAt A x1 s.heap) (ht : IsTup s.heap t items)
    (hn : (assignEach elts env).length = items.size) (hstar : (assignEach elts env).findIdx? (·.1) = none)
    (h : ∀ h', Heap.ExtBut s.heap.objs.size s.heap h' → wpAny (model prog w) A (assignInOrder ((assignEach elts env).map (·.2)) items.toList) Q E { s with heap := h' }) :
    wpAny (model prog w) A (assign (.Tuple elts k pos) env (.ref t)) Q E s := by
  rw [assign_Tuple]
  refine wpAny_bind (wpAny_standAt ?_)
  unfold unpack
  rw [hn, hstar]
  exact wpAny_bind (wpAny_holding (unpackItems_hot hot ht h))
end
end ViHot
/-! Vi, a list comprehension over pairs while an exception is handled. -/
namespace ViHot
open PySem PySem.Spec PyProof.Rows HotX L2
section
variable {X : Cx}
def tLcH (K : PySem.W.Frag) (te : TE) (n : Nat) (gs : TGs) (tt : TT) (ev : TE) (vs : List Nat) : TE := fun σ H Q => te σ H fun x H1 => ∃ a xs, x = .ref a ∧ SqL K H1 a xs ∧ ∀ D, H1 D = none → ∃ W : Nat → Hp → Prop, W 0 (upd H1 D (.lst [])) ∧
  ∀ i H, W i H → SqL K H a xs ∧ (xs.length ≤ i → Q (.ref D) H) ∧ ∀ v, xs[i]? = some v → ∃ t ys, v = .ref t ∧ SqT K H t ys ∧ ys.length = n ∧ gs ys (wipe σ vs) H fun σ2 H2 => wipe σ2 vs = wipe σ vs ∧ tt σ2 H2 fun b H3 =>
    if b = true then ev σ2 H3 fun y H4 => ∃ acc, H4 D = some (.lst acc) ∧ acc.length < sizeLine ∧ W (i + 1) (upd H4 D (.lst (acc ++ [y]))) else W (i + 1) H3
theorem pe_lcH {elt iter : Expr} {ifs elts : List Expr} {scope : Scope} {own : List (Str × Nat)} {pos tpos : Pos} {k n : Nat} {te ev : TE} {gs : TGs} {tt : TT} {p : Addr × Obj} (hot : L2H.Hot1 X.A p) (hpin : p ∈ X.pn) (hN : X.N.Nodup) (hi : PE X iter te) (ok : BlkOk X.N X.env.scope scope own)
    (hg : ∀ (s : Shared) (H : Hp) (C : Addr) (cl : List (Str × Addr)) (fp : List Addr), PGs (X.blk s H scope (compEnvC scope cl C X.env) fp) elts gs) (ht : ∀ (s : Shared) (H : Hp) (C : Addr) (cl : List (Str × Addr)) (fp : List Addr), PTs (X.blk s H scope (compEnvC scope cl C X.env) fp) ifs tt)
    (he : ∀ (s : Shared) (H : Hp) (C : Addr) (cl : List (Str × Addr)) (fp : List Addr), PE (X.blk s H scope (compEnvC scope cl C X.env) fp) elt ev)
    (hn : ∀ (C : Addr) (cl : List (Str × Addr)), (assignEach elts (compEnvC scope cl C X.env)).length = n) (hst : ∀ (C : Addr) (cl : List (Str × Addr)), (assignEach elts (compEnvC scope cl C X.env)).findIdx? (·.1) = none)
    (hs : ∀ x, foldedSetIterable iter X.env x = pure x) :
    PE X (.ListComp elt [⟨.Tuple elts k tpos, iter, ifs, 0⟩] scope pos) (tLcH X.K te n gs tt ev (own.map (·.2))) := by
  refine ⟨fun pins s σ H Q I h => ?_⟩
  rw [eval_ListComp]
  have hfree : ∀ y ∈ scope.names, y.2 = .free → ∃ c, X.env.cells.lookup y.1 = some c := fun y hy e => by
    rcases ok.free y hy e with k | k
    · exact I.ok.has _ (.inl k)
    · exact I.ok.has _ (.inr k)
  refine wpAny_comprehension_free (use := none) rfl hs (closure_ok hfree) ok.kind (fun y hy e => by rw [ok.uniq y hy, e])
    (thn (hi.run pins s σ H _ I h) fun xv s1 ⟨x, H1, I1, r1, a, xs, ex, hq, q⟩ => ?_)
  subst ex
  cases r1
  obtain ⟨its, rv, pl, hz⟩ := I1.list hq
  refine wpAny_pyIter_list pl.isList ?_
  -- the iterator
  generalize hit0 : s1.heap.objs.size = it
  generalize hs2 : ({ s1 with heap := s1.heap.push { cls := .type "list_iterator", data := .fields #[.ref a, .int 0 0] } } : Shared) = s2
  have I2 : Inv X pins σ H1 s2 := by
    rw [← hs2]; exact I1.kept (t' := s1.toks) fun b o e => Heap.get?_push_of_some _ e
  have st2 : s2.heap.IsListIter it a 0 := by
    rw [← hs2, ← hit0]
    exact ⟨_, Heap.get?_push_size _ rfl, rfl, rfl⟩
  have f2 : FpOk X pins H1 it := by
    rw [← hit0]
    exact I1.fpOk (Nat.le_refl _) (I1.hok.fresh (Nat.le_refl _))
  refine wpAny_newObj_type (newEnv_comp ?_) (by show 0 ≤ sizeLine; decide)
  generalize hD : s2.heap.objs.size = D
  have hDn : H1 D = none := I2.hok.fresh (Nat.le_of_eq hD)
  obtain ⟨W, w0, turn⟩ := q D hDn
  -- the new list
  generalize hs3 : ({ s2 with heap := s2.heap.push { cls := .type "list", data := .seq ([] : List Value).toArray } } : Shared) = s3
  have I3 : Inv X pins σ (upd H1 D (.lst [])) s3 := by
    rw [← hs3]
    refine I2.laid (t' := s2.toks) (fun b o e => Heap.get?_push_of_some _ e) (Nat.le_of_eq hD) ⟨Nat.zero_le _, [], 0, .nil, ?_⟩
    rw [← hD]
    exact Heap.get?_push_size _ rfl
  have h3 : s3.heap = s2.heap.push { cls := .type "list", data := .seq ([] : List Value).toArray } := by rw [← hs3]
  have szi : it < s2.heap.objs.size := by
    obtain ⟨o, e, _⟩ := id st2
    exact Heap.lt_size e
  have f3' : FpOk X pins (upd H1 D (.lst [])) it := by
    refine ⟨?_, f2.2⟩
    rw [upd_ne (by rw [← hD]; exact Nat.ne_of_lt szi)]
    exact f2.1
  have f3 : ∀ b ∈ [it], FpOk X pins (upd H1 D (.lst [])) b ∧ b < s3.heap.objs.size := fun b hb => by
    obtain rfl : b = it := by simpa using hb
    exact ⟨f3', by rw [h3, Heap.size_push]; exact Nat.lt_succ_of_lt szi⟩
  have lift : ∀ {h h' : Heap} {i : Nat}, h.IsListIter it a i → (∀ o, h.get? it = some o → h'.get? it = some o) → h'.IsListIter it a i := fun {h h' i} ⟨o, e, r⟩ k => ⟨o, k o e, r⟩
  have st3 : s3.heap.IsListIter it a 0 := lift st2 fun o e => by rw [h3]; exact Heap.get?_push_of_some _ e
  have I4 := block_start I3 ok hN f3
  have pg := hg s3 (upd H1 D (.lst [])) s3.heap.objs.size (cellsFrom (s3.heap.objs.size + 1) scope.names (cloFrom X.env.cells scope.names [])) [it]
  have pt := ht s3 (upd H1 D (.lst [])) s3.heap.objs.size (cellsFrom (s3.heap.objs.size + 1) scope.names (cloFrom X.env.cells scope.names [])) [it]
  have pe := he s3 (upd H1 D (.lst [])) s3.heap.objs.size (cellsFrom (s3.heap.objs.size + 1) scope.names (cloFrom X.env.cells scope.names [])) [it]
  have hn := hn s3.heap.objs.size (cellsFrom (s3.heap.objs.size + 1) scope.names (cloFrom X.env.cells scope.names []))
  have hst := hst s3.heap.objs.size (cellsFrom (s3.heap.objs.size + 1) scope.names (cloFrom X.env.cells scope.names []))
  -- the handled exception
  obtain ⟨hh, v1, e1, c1⟩ := hot
  obtain ⟨px, pn, pL, pF, _⟩ := I3.pin p (List.mem_append_left _ hpin)
  have pit : p.1 ≠ it := fun z => by
    obtain ⟨_, _, _, _, _, f6⟩ := f3'
    exact f6 p (List.mem_append_left _ hpin) z
  show codeAny _ _ (.compStart (.ListComp elt [⟨.Tuple elts k tpos, iter, ifs, 0⟩] scope pos) 0 (.ref it) (.ref D) (compEnvC scope (cellsFrom (s3.heap.objs.size + 1) scope.names (cloFrom X.env.cells scope.names [])) s3.heap.objs.size X.env)) (compPost (model X.prog X.w) X.A X.xe none (EP X pins σ Q) (.ref D) s3.heap.objs.size) { s3 with heap := pushCells (s3.heap.push { cls := .type "dict", data := .dict #[] }) scope.names }
  generalize hce : compEnvC scope (cellsFrom (s3.heap.objs.size + 1) scope.names (cloFrom X.env.cells scope.names [])) s3.heap.objs.size X.env = ce at I4 pg pt pe hn hst ⊢
  have cL : ce.locals = s3.heap.objs.size := by subst hce; rfl
  generalize hH3 : upd H1 D (.lst []) = H3 at I3 I4 pg pt pe w0 f3 f3' pn
  generalize hs4 : ({ s3 with heap := pushCells (s3.heap.push { cls := .type "dict", data := .dict #[] }) scope.names } : Shared) = s4 at I4 ⊢
  have st4 : s4.heap.IsListIter it a 0 := lift st3 fun o e => by rw [← hs4]; exact pushCells_keeps _ _ _ _ (Heap.get?_push_of_some _ e)
  have fpo : ∀ {σ' : L2.St} {H' : Hp} {s' : Shared}, Inv (X.blk s3 H3 scope ce [it]) [] σ' H' s' → H' it = none → FpOk (X.blk s3 H3 scope ce [it]) [] H' it := fun {σ' H' s'} I' hn =>
    ⟨hn, (I'.ok.exf it (by simp)).1, I'.ok.exfs it (by simp), .inl (by simp), fun x c e => (I'.ok.exf it (by simp)).2 x c e, fun p hp => absurd (show p ∈ ([] : List (Addr × Obj)) ++ [] from hp) (by simp)⟩
  have hotIn : ∀ {σ' : L2.St} {H' : Hp} {pins' : List (Addr × Obj)} {s' : Shared}, Inv (X.blk s3 H3 scope ce [it]) pins' σ' H' s' → HotAt X.A p.1 s'.heap := fun {σ' H' pins' s'} I' => by
    refine ⟨hh, p.2, v1, I'.base.keep p.1 p.2 px pn (fun m => ?_) (fun m => ?_), e1, c1⟩
    · rcases List.mem_cons.mp (I3.stkSub _ m) with z | z
      · exact pL z
      · exact pF z
    · exact pit (by simpa using m)
  have loop : codeAny (model X.prog X.w) X.A (.compLoop (.ListComp elt [⟨.Tuple elts k tpos, iter, ifs, 0⟩] scope pos) 0 (.ref it) (.ref D) ce) (compPost (model X.prog X.w) X.A X.xe none (EP X pins σ Q) (.ref D) s3.heap.objs.size) s4 := by
    refine compLoop_any (fun m s' => ∃ i H', m = xs.length - i ∧ Inv (X.blk s3 H3 scope ce [it]) [] (wipe σ (own.map (·.2))) H' s' ∧ s'.heap.IsListIter it a i ∧ H' it = none ∧ W i H') ?_ xs.length ⟨0, H3, rfl, I4, st4, f3'.1, w0⟩
    rintro m s5 ⟨i, H5, em, I5, st5, n5, w5⟩
    obtain ⟨hq5, hend, hstep⟩ := turn i H5 w5
    obtain ⟨its5, rv5, p5, hz5⟩ := I5.list hq5
    have hl5 := rv5.length
    obtain ⟨f0, g1, g2, g3, g4, g5⟩ := fpo I5 n5
    by_cases hi : i < xs.length
    · obtain ⟨v, hv⟩ : ∃ v, xs[i]? = some v := ⟨_, List.getElem?_eq_getElem hi⟩
      obtain ⟨t, ys, rfl, hT, hy, step⟩ := hstep v hv
      obtain ⟨u, hu, ru⟩ := rv5.get hv
      cases ru
      refine wpAny_pyNext_list_item st5 p5.isList (x := .ref t) (by simpa using hu) fun h' st' sb => ?_
      have I6 : Inv (X.blk s3 H3 scope ce [it]) [] (wipe σ (own.map (·.2))) H5 { s5 with heap := h' } := I5.turned (t' := s5.toks) (fun b o hb e => (sb.2 b hb).trans e) f0 g1 g3 g4 g5
      obtain ⟨o, e, c, dd⟩ := id st'
      refine go_of (s := { s5 with heap := h' }) e c dd (by decide) ?_
      -- pinned within
      have I7 : Inv (X.blk s3 H3 scope ce [it]) ([] ++ pinsAt [it] h') (wipe σ (own.map (·.2))) H5 { s5 with heap := h' } := I6.pinned (fp := [it]) (fun b hb => by
        obtain rfl : b = it := by simpa using hb
        exact fpo I6 n5) fun b hb => by
        obtain rfl : b = it := by simpa using hb
        exact ⟨o, e, fun v z => by rw [dd] at z; cases z⟩
      obtain ⟨itsT, rT, pT, zT⟩ := I7.tuple hT
      refine assign_Tuple_hot (hotIn I7) pT (by rw [hn, ← hy, rT.length]; simp) hst fun h'' hx => ?_
      have I8 : Inv (X.blk s3 H3 scope ce [it]) ([] ++ pinsAt [it] h') (wipe σ (own.map (·.2))) H5 { s5 with heap := h'' } := I7.kept (t' := s5.toks) fun b o e => hx b o (Nat.ne_of_lt (Heap.lt_size e)) e
      refine thnF (pg.run _ _ _ H5 ys _ _ I8 (by simpa using rT) step) fun _ s8 ⟨σ8, H8, J8, hw8, q8⟩ => ?_
      refine thnF (pt.run _ s8 σ8 H8 _ J8 q8) fun b s9 ⟨H9, I9, q9⟩ => ?_
      have fin : ∀ {s' : Shared} {H' : Hp}, Inv (X.blk s3 H3 scope ce [it]) ([] ++ pinsAt [it] h') σ8 H' s' → W (i + 1) H' → ∃ m', m' < m ∧ ∃ i H', m' = xs.length - i ∧ Inv (X.blk s3 H3 scope ce [it]) [] (wipe σ (own.map (·.2))) H' s' ∧ s'.heap.IsListIter it a i ∧ H' it = none ∧ W i H' := fun {s' H'} I' w' => by
        have pin' := I'.pin (it, o) (List.mem_append_right _ (List.mem_append_right _ (mem_pinsAt (by simp) e)))
        have hl : (wipe σ (own.map (·.2))).length = σ8.length := by rw [← hw8, wipe_length]
        refine ⟨xs.length - (i + 1), by omega, i + 1, H', rfl, (I'.unpinned (pins := [])).weak hl (fun j v e => ?_), ⟨o, pin'.1, c, dd⟩, pin'.2.1, w'⟩
        rw [← hw8] at e
        exact (wipe_some e).1
      cases b with
      | false =>
        simp only [Bool.false_eq_true, if_false] at q9 ⊢
        exact fin I9 q9
      | true =>
        simp only [if_true] at q9 ⊢
        refine thnF (pe.run _ s9 σ8 H9 _ I9 q9) fun z s10 ⟨yv, H10, I10, r10, acc, hD10, hz10, nx⟩ => ?_
        exact app_ok (X := X.blk s3 H3 scope ce [it]) I10 hD10 hz10 r10 fun s11 I11 => fin I11 nx
    · refine next_list_end (hotIn I5) pit st5 p5.isList (by simp; omega) fun h' eb => ?_
      have I6 : Inv (X.blk s3 H3 scope ce [it]) [] (wipe σ (own.map (·.2))) H5 { s5 with heap := h' } := I5.turned (t' := s5.toks) (fun b o hb e => eb b o hb e) f0 g1 g3 g4 g5
      have I7 : Inv X pins σ H5 { s5 with heap := h' } := I3.call' (ch := [it]) I6.os I6.base I6.hok I6.bare fun b hb => by
        obtain rfl : b = it := by simpa using hb
        exact ⟨f3'.2.2.2.1, f3'.2.1, f3'.2.2.2.2.1, f3'.2.2.2.2.2⟩
      have nC : H5 s3.heap.objs.size = none := by
        have z : H5 ce.locals = none := I6.free
        rw [cL] at z
        exact z
      obtain ⟨m', hm', _⟩ := I6.loc
      have hm' : h'.Ns ce.locals m' := hm'
      rw [cL] at hm'
      obtain ⟨k0, k1, k2, k3, k4, k5⟩ := I3.fpOk (Nat.le_refl _) nC
      exact ⟨m', hm', fun h'' sb => ⟨.ref D, H5, I7.turned (t' := s5.toks) (fun b o hb e => (sb.2 b hb).trans e) k0 k1 k3 k4 k5, rfl, hend (by omega)⟩⟩
  exact codeAny_compStart_list loop (wpAny_pyIter_listiter st4 loop)
end
end ViHot
/-! Vi, a lambda handed to a def that tries it: the context of what it raises is told. -/
namespace ViLam
open PySem PySem.Spec PyProof.Rows L2 LamX
/-- the lambda's body, its wish told with the context -/
abbrev lamN (X : Cx) (A : Around) (outer : List Env) (s : Shared) (H : Hp) (E : XK) (scope : Scope) (f c' : Addr) : Cx :=
  (lamCx X A outer s H E scope f c').wish fun e s' => wpAny (model X.prog X.w) (A.deeper (lamEnv X scope s.heap.objs.size f c')) (leaving (lamEnv X scope s.heap.objs.size f c') e) (fun _ s'' => L2N.CX X.prog X.w outer H s E e s'') (fun e' s'' => L2N.CX X.prog X.w outer H s E e' s'') s'
section
variable {X : Cx} {pins : List (Addr × Obj)} {σ : L2.St} {H HZ : Hp} {s s1 : Shared}
theorem act {CXg : CXT} {Eg : XK} {Ng : List Str} {qg : Str} {sg : Scope} {g f c' : Addr} {cdg pm ctv : Value} {params : Arguments} {body : Expr} {scope : Scope} {k i : Nat} {a : Str} {pn : List (Addr × Obj)} {xe : Value → Shared → Prop} {W : WX} {E : XK} {tb : TE} {p1 p2 : Pos}
    (I : Inv X pins σ H s) (L : LamS X.env.scope scope) (hf : s.heap.get? f = some (PySem.W.kla_obj "<lambda>" (X.env.qual ++ "<lambda>") params body scope (cloFrom X.env.cells scope.names []) pm c' ctv)) (hfn : H f = none) (hfr : f ∉ frs X.stack)
    (hbind : bindArgs (PySem.W.kla_fn "<lambda>" (X.env.qual ++ "<lambda>") params body scope (cloFrom X.env.cells scope.names []) pm (.ref c') ctv) ⟨[], []⟩ = pure [])
    (tk : L2N.Takes ((cxOf CXg X.prog X.w X.K X.mg X.base Ng qg sg g cdg X.A X.stack s H Eg).tr pn xe) W) (hW : ∀ cls d σ' H', E cls d H' → W cls d σ' H') (hr : Room (k + 1) (X.A.deeper (envOfC qg sg s.heap.objs.size g cdg)))
    (hbody : ∀ (A : Around) (outer : List Env) (s : Shared) (H : Hp), Room k (A.deeper (lamEnv X scope s.heap.objs.size f c')) → PE (lamN X A outer s H E scope f c') body tb)
    (hN : Ng[i]? = some a) (hv : Vis sg a) (hd : (a == ("__debug__" : Str)) = false) (hcd : (a == ("__classdict__" : Str)) = false) :
    PE ((cxOf CXg X.prog X.w X.K X.mg X.base Ng qg sg g cdg X.A X.stack s H Eg).tr pn xe) (.Call (.Name a p1) [] [] p2)
      (fun σZ HZ Q => σZ[i]? = some (some (.ref f)) ∧ HZ c' = some (CodeO c' (X.env.qual ++ "<lambda>")) ∧ tb σ HZ Q) := by
  refine ⟨fun pinsZ sZ σZ HZ Q IZ h => ?_⟩
  obtain ⟨hs, hc, ht⟩ := h
  refine wpAny_Call_Name_kw (thn ((pe_var (pos := p1) (i := i) hN hv hd hcd).run pinsZ sZ σZ HZ (fun v H1 => v = .ref f ∧ H1 = HZ) IZ ⟨.ref f, hs, rfl, rfl⟩) fun u s1 ⟨v, H1, I1, r1, ev, eH⟩ => ?_)
  subst ev
  rw [eH] at I1
  obtain rfl : u = Value.ref f := r1
  have of1 : s1.heap.get? f = some (PySem.W.kla_obj "<lambda>" (X.env.qual ++ "<lambda>") params body scope (cloFrom X.env.cells scope.names []) pm c' ctv) := I1.base.keep f _ hf hfn hfr (fun z => nomatch (show f ∈ ([] : List Addr) from z))
  refine PySem.W.callWith_F0 ⟨_, _, _, _, of1⟩ ?_
  have un : Un (frs X.stack) [] H HZ s.heap s1.heap := I1.base
  obtain ⟨⟨oc, vs, t, hoc, hdc, hvc⟩, _, _⟩ := I1.hok c' _ hc
  have rc : codeAny (model X.prog X.w) (X.A.deeper (envOfC qg sg s.heap.objs.size g cdg)) (.call (.ref f) ⟨[], []⟩) (CR (L2N.CX X.prog X.w) (envOfC qg sg s.heap.objs.size g cdg :: X.stack) X.prog X.w HZ s1 Q E) s1 := by
    refine PySem.W.kla_callFunE hr.depth of1 rfl L.co L.gen rfl ⟨c', oc, vs, t, rfl, hoc, hdc, hvc⟩ ?_
    rw [hbind]
    refine wpAny_pure (wpAny_newFunctionEnv (fun y hy => (L.own y hy).2) (fun y hy => absurd hy (by simp)) (fun h₁ hns hsb => ⟨I1.nolimit.fresh _ hsb, ?_⟩) L.kind)
    show codeAny _ _ (.expr body (lamEnv X scope s1.heap.objs.size f c')) _ _
    have kp : ∀ b o, s1.heap.get? b = some o → h₁.get? b = some o := fun b o e => hsb.extBut b o (Nat.ne_of_lt (Heap.lt_size e)) (Heap.get?_push_of_some _ e)
    have J : Inv (lamCx X (X.A.deeper (envOfC qg sg s.heap.objs.size g cdg)) (envOfC qg sg s.heap.objs.size g cdg :: X.stack) s1 HZ E scope f c') [] σ HZ { s1 with heap := h₁, toks := s1.toks + ([] : List (Str × Value)).length } :=
      lam_start2 I L I1.env0 hr.hd un hns kp
    refine PySem.W.kla_codeExpr (wpAny_mono ((hbody _ _ s1 HZ (hr.deeper _)).run [] _ _ HZ Q (J.wish _) ht) (fun v s' hq => ?_) fun e s' hq => hq)
    obtain ⟨w', H', J', rv, q⟩ := hq
    exact ⟨w', H', J'.os, J'.bare, J'.base, J'.hok, rv, q⟩
  have hx : Passes (L2N.CX X.prog X.w) ((cxOf CXg X.prog X.w X.K X.mg X.base Ng qg sg g cdg X.A X.stack s H Eg).tr pn xe) E := L2N.passes_call tk hW
  refine wpAny_call (codeAny_mono rc fun r s' hq => ?_)
  cases r with
  | error e => exact hx pinsZ σZ HZ s1 e s' I1 hq
  | ok fl =>
    cases fl with
    | ret u => exact I1.after hq
    | next => exact False.elim hq
    | brk => exact False.elim hq
    | cont => exact False.elim hq
end
/-- the def that tries what it got -/
def Gives (X : Cx) (Ng : List Str) (x : Str) (sg : Scope) (g : Addr) (cdg : Value) (bg : List Stmt) (a : Str) (q : Str) (TT : (XK → Hp → VK → Prop) → Hp → VK → Prop) : Prop :=
  ∀ (f c' : Addr) (s : Shared) (H : Hp) (Q : VK) (tl : XK → Hp → VK → Prop),
    (∀ (W : WX) (pn : List (Addr × Obj)) (xe : Value → Shared → Prop) (E : XK) (p1 p2 : Pos), L2N.Takes ((cxOf C8.CX0 X.prog X.w X.K X.mg X.base Ng x sg g cdg X.A X.stack s H C8.E0).tr pn xe) W → (∀ cls d σ' H', E cls d H' → W cls d σ' H') →
      PE ((cxOf C8.CX0 X.prog X.w X.K X.mg X.base Ng x sg g cdg X.A X.stack s H C8.E0).tr pn xe) (.Call (.Name a p1) [] [] p2) (fun σZ HZ Q => σZ[0]? = some (some (.ref f)) ∧ HZ c' = some (CodeO c' q) ∧ tl E HZ Q)) →
    H c' = some (CodeO c' q) → TT tl H Q →
    ∃ t, PSs (cxOf C8.CX0 X.prog X.w X.K X.mg X.base Ng x sg g cdg X.A X.stack s H C8.E0).nox bg t ∧ t { nx := fun _ H' => Q .non H', rt := Q } (L2.start Ng [.ref f]) H
section
variable {X : Cx}
theorem lamcall {T : List (Addr × Str)} {TT : (XK → Hp → VK → Prop) → Hp → VK → Prop} {x a : Str} {g c P : Addr} {k : Nat} {pg : Arguments} {bg : List Stmt} {sg : Scope} {dV kV doc pm cdv ct oc : Value} {an od : Option Addr} {osl : Array (Option Value)} {Ng : List Str}
    {params : Arguments} {body : Expr} {scope : Scope} {t : XK → TE} {p lpos pos : Pos} (hg : Gl X x) (hm : X.mg x = some (.ref g)) (hk : PySem.W.keepIn X.K (.ref g) = true)
    (lk : X.K.lookup g = some ⟨oc, od, .func (PySem.W.fnOf x x pg bg sg dV kV doc pm an cdv ct), osl⟩) (hcg : PySem.W.codeIn X.K cdv x = true) (hb : L2.Binds X.K (PySem.W.fnOf x x pg bg sg dV kV doc pm an cdv ct) [a] []) (Sg : FnScope Ng [a] sg) (hNg : Ng[0]? = some a) (hva : Vis sg a)
    (hG : Gives X Ng x sg g cdv bg a (X.env.qual ++ "<lambda>") TT)
    (TB : TabB X.base X.mg c P) (hcode : X.env.code = .ref c) (hmT : (P, X.env.qual ++ "<lambda>") ∈ T) (hu : ∀ p ∈ T, p.1 = P → p.2 = X.env.qual ++ "<lambda>") (hr : Room (k + 2) X.A) (L : LamS X.env.scope scope) (hdef : defaultsOf params X.env = ([], []))
    (hbind : ∀ (q : Str) (cl : List (Str × Addr)) (pm cv ctv : Value), bindArgs (PySem.W.kla_fn "<lambda>" q params body scope cl pm cv ctv) ⟨[], []⟩ = pure [])
    (hbody : ∀ (A : Around) (outer : List Env) (s : Shared) (H : Hp) (E : XK) (f c' : Addr), Room k (A.deeper (lamEnv X scope s.heap.objs.size f c')) → PE (lamN X A outer s H E scope f c') body (t E))
    (hdb : (x == ("__debug__" : Str)) = false) (hd : (a == ("__debug__" : Str)) = false) (hcd : (a == ("__classdict__" : Str)) = false) :
    PE X (.Call (.Name x p) [.Lambda params body scope lpos] [] pos) (tLam T TT t) := by
  refine ⟨fun pins s σ H Q I h => ?_⟩
  obtain ⟨hT, h⟩ := h
  refine wpAny_Call_Name_kw (ld_glob I hg hm ?_ hdb)
  refine PySem.W.callWith_K (h₀ := X.base) I.ok.mod.kin hk ?_ (by rfl) (by rfl)
  show wpAny _ _ (spliced ((false, eval (.Lambda params body scope lpos) X.env) :: backTo pos (starEach [] X.env))) _ _ s
  refine Calls.spliced_cons (lam_make2 I TB hcode hmT hu hT hdef (L.has I.ok) fun f c' pm' ctv H1 s' I1 eN T1 hf hfn hfr hco => ?_)
  refine Calls.spliced_nil ⟨I1.kIn, ?_⟩
  have rc : codeAny (model X.prog X.w) X.A (.call (.ref g) ⟨[.ref f], []⟩) (CR C8.CX0 X.stack X.prog X.w H1 s' Q C8.E0) s' := by
    refine run_ofS (N := Ng) (ps := [a]) (us := [.ref f]) (vs := [.ref f]) lk hcg Sg hr I1.env0 (hb s' [.ref f] I1.kIn rfl) (.cons rfl .nil) rfl fun hr' => ?_
    obtain ⟨t', ht', hq'⟩ := hG f c' s' H1 Q (fun E H' Q' => t E σ H' Q') (fun W pn xe E p1 p2 tk hW => act (i := 0) I1 L hf hfn hfr (hbind _ _ _ _ _) tk hW hr' (fun A outer s H hr2 => hbody A outer s H E f c' hr2) hNg hva hd hcd) hco (h H1 eN T1)
    exact ⟨t', ht'.nox, hq'⟩
  refine wpAny_call (codeAny_mono rc fun r s2 hq => ?_)
  cases r with
  | error e => exact (show False from hq).elim
  | ok fl =>
    cases fl with
    | ret u => exact I1.after hq
    | next => exact False.elim hq
    | brk => exact False.elim hq
    | cont => exact False.elim hq
end
end ViLam
/-! Vi, what a lambda raises, told by the def that tries it. -/
namespace Vi
open PySem PySem.Spec PyProof.Rows L2
/-- a call's end from W0 and H0 -/
def GV (R : Rc) (T : List (Addr × Str)) (W0 : Wd) (H0 : Hp) (r : Rs P) (Q : VK) (E : XK) : Prop := match r with
  | .ok v S' => ∀ x W' H', W'.S = S' → B R T { W := W0, H := H0 } W' H' → Rp R W'.D W'.ι v x → Q x H'
  | .err e S' => ∀ cv oe W' H', W'.S = S' → B R T { W := W0, H := H0 } W' H' → ExR R W' H' e cv oe → E cv oe H'
  | .no => False
/-- what the def that tries makes of the lambda's reading -/
def TTe (R : Rc) (T : List (Addr × Str)) (p : Pg) : (XK → Hp → VK → Prop) → Hp → VK → Prop := fun tl H Q => ∃ (W : Wd) (m : M P), WOk R T W H ∧ (∀ E Q', GV R T W H (m W.S) Q' E → tl E H Q') ∧ GV R T W H (runC p m W.S) Q (fun _ _ _ => False)
section
variable {R : Rc} {T : List (Addr × Str)} {N : En} {ρ : Env} {W : Wd} {σ : L2.St} {H H1 : Hp}
theorem WOk.ext (w : WOk R T W H) (e : LamX.ExtN H H1) (t : LamX.Tabs T H1) : WOk R T W H1 where
  sub := fun a o h => e a o (w.sub a o h) fun ps z => w.ntb a ps (z ▸ h)
  ntb := w.ntb
  len := w.len
  rob := fun i a r h1 h2 => by
    have q := w.rob i a r h1 h2
    obtain ⟨o, ho, nt⟩ := q.there
    exact q.mono (.refl _) (.refl _) fun o' e' => e a o' e' fun ps z => by rw [ho] at e'; cases e'; exact nt ps z
  nod := w.nod
  off := w.off
  tabs := t
theorem J.stretch (j : J R T N ρ W σ H) (e : LamX.ExtN H H1) (t : LamX.Tabs T H1) : J R T N ρ W σ H1 := by
  have st : ∀ {c : Addr} {p : P}, OwnC R W.D W.ι H c p → OwnC R W.D W.ι H1 c p := fun {c p} o => by
    obtain ⟨u, hu, nt⟩ := o.there
    exact o.mono (.refl _) (.refl _) fun o' e' => e c o' e' fun ps z => by rw [hu] at e'; cases e'; exact nt ps z
  exact ⟨⟨j.b.ok.ext e t, j.b.ge, fun a o h n nt => e a o (j.b.frm a o h n nt) nt, j.b.newD, j.b.newι⟩, j.len, j.val, fun i p h => by
    obtain ⟨a, h1, h2, h3, h4, h5⟩ := j.own i p h
    exact ⟨a, h1, h2, h3, h4, st h5⟩, fun q hq => by
    obtain ⟨h2, h3, h4, h5⟩ := j.ext q hq
    exact ⟨h2, h3, h4, st h5⟩, j.sepx, j.nodx, j.sep⟩
theorem unown_get {i : Nat} {s : Sl} (h : (unown ρ)[i]? = some s) : s = .un ∨ ∃ p, s = .val p ∧ ρ[i]? = some (.val p) := by
  unfold unown at h
  rw [List.getElem?_map] at h
  obtain ⟨u, hu, e⟩ := Option.map_eq_some_iff.mp h
  cases u with
  | un => exact .inl e.symm
  | val p => exact .inr ⟨p, e.symm, hu⟩
  | own p => exact .inl e.symm
theorem J.inner (j : J R T N ρ W σ H) (w : WOk R T W H1) : J R T { W := W, H := H1 } (unown ρ) W σ H1 := by
  refine ⟨.refl w, by unfold unown; rw [List.length_map]; exact j.len, fun i p e => ?_, fun i p e => ?_, fun q hq => (by cases hq), fun q hq => (by cases hq), List.nodup_nil, fun i k p q a e1 => ?_⟩
  · rcases unown_get e with z | ⟨p', z, e'⟩
    · cases z
    · cases z; exact j.val i p e'
  · rcases unown_get e with z | ⟨p', z, e'⟩ <;> cases z
  · rcases unown_get e1 with z | ⟨p', z, e'⟩ <;> cases z
end
section
variable {X : Cx} {Γ : Wh} {d : Dn} {pg0 : Pg}
theorem s_told {x a : Str} {g c P : Addr} {k : Nat} {pg : Arguments} {bg : List Stmt} {sg : Scope} {dV kV doc pm cdv ct oc : Value} {an od : Option Addr} {osl : Array (Option Value)} {Ng : List Str}
    {params : Arguments} {body : Expr} {scope : Scope} {ce : CE} {p lpos pos : Pos} (hg : Gl X x) (hm : X.mg x = some (.ref g)) (hk : PySem.W.keepIn X.K (.ref g) = true)
    (lk : X.K.lookup g = some ⟨oc, od, .func (PySem.W.fnOf x x pg bg sg dV kV doc pm an cdv ct), osl⟩) (hcg : PySem.W.codeIn X.K cdv x = true) (hb : L2.Binds X.K (PySem.W.fnOf x x pg bg sg dV kV doc pm an cdv ct) [a] []) (Sg : FnScope Ng [a] sg) (hNg : Ng[0]? = some a) (hva : Vis sg a)
    (hG : ViLam.Gives X Ng x sg g cdv bg a (X.env.qual ++ "<lambda>") (TTe Γ.R Γ.T pg0))
    (TB : LamX.TabB X.base X.mg c P) (hcode : X.env.code = .ref c) (hmT : (P, X.env.qual ++ "<lambda>") ∈ Γ.T) (hu : ∀ p ∈ Γ.T, p.1 = P → p.2 = X.env.qual ++ "<lambda>") (hr : Room (k + 2) X.A) (L : LamX.LamS X.env.scope scope) (hdef : defaultsOf params X.env = ([], []))
    (hbind : ∀ (q : Str) (cl : List (Str × Addr)) (pm cv ctv : Value), bindArgs (PySem.W.kla_fn "<lambda>" q params body scope cl pm cv ctv) ⟨[], []⟩ = pure [])
    (hFC : d.FC = runC pg0)
    (hbody : ∀ (A : Around) (outer : List PySem.Env) (s : Shared) (H : Hp) (E : XK) (f c' : Addr) (N : En), Room k (A.deeper (LamX.lamEnv X scope s.heap.objs.size f c')) → KE (ViLam.lamN X A outer s H E scope f c') ⟨Γ.R, Γ.T, N, E⟩ { d with F := d.F2 } body ce)
    (hdb : (x == ("__debug__" : Str)) = false) (hd : (a == ("__debug__" : Str)) = false) (hcd : (a == ("__classdict__" : Str)) = false) :
    KE X Γ d (.Call (.Name x p) [.Lambda params body scope lpos] [] pos) (.told ce) := by
  refine (ViLam.lamcall (T := Γ.T) (t := fun E σ H Q => ∃ N, tE ⟨Γ.R, Γ.T, N, E⟩ (fun ρ => denE { d with F := d.F2 } ρ ce) σ H Q) hg hm hk lk hcg hb Sg hNg hva hG TB hcode hmT hu hr L hdef hbind
    (fun A outer s H E f c' hr2 => ⟨fun pins s' σ H' Q I ⟨N, h⟩ => (hbody A outer s H E f c' N hr2).run pins s' σ H' Q I h⟩) hdb hd hcd).imp fun σ H Q ⟨ρ, W, j, h⟩ => ?_
  have h : GC Γ (relE Γ) ρ σ W (d.FC (denE { d with F := d.F2 } (unown ρ) ce) W.S) Q := h
  have h : GC Γ (relE Γ) ρ σ W (runC pg0 (denE { d with F := d.F2 } (unown ρ) ce) W.S) Q := by
    have e : d.FC (denE { d with F := d.F2 } (unown ρ) ce) = runC pg0 (denE { d with F := d.F2 } (unown ρ) ce) := congrFun hFC _
    rw [← e]; exact h
  refine ⟨j.b.ok.tabs, fun H1 e1 t1 => ⟨W, denE { d with F := d.F2 } (unown ρ) ce, j.b.ok.ext e1 t1, fun E Q' hv => ⟨{ W := W, H := H1 }, unown ρ, W, j.inner (j.b.ok.ext e1 t1), ?_⟩, ?_⟩⟩
  · show GC _ _ _ _ _ (denE { d with F := d.F2 } (unown ρ) ce W.S) Q'
    cases q : denE { d with F := d.F2 } (unown ρ) ce W.S with
    | ok v S' =>
      rw [q] at hv
      exact fun x W' H' e l j' r => hv x W' H' e j'.b r
    | err v S' =>
      rw [q] at hv
      exact fun cv oe W' H' e b r => hv cv oe W' H' e b r
    | no => rw [q] at hv; exact hv
  · cases q : runC pg0 (denE { d with F := d.F2 } (unown ρ) ce) W.S with
    | ok v S' =>
      rw [q] at h
      exact fun x W' H' e b r => h x W' H' e b.ge ((j.stretch e1 t1).step b) r
    | err v S' =>
      exfalso
      unfold runC at q
      split at q
      · cases q
      · split at q
        · split at q <;> cases q
        · cases q
      · cases q
    | no => rw [q] at h; exact h
end

/-! ### the def that tries -/
/-- more is tracked, nothing is changed -/
theorem B.more {R : Rc} {T : List (Addr × Str)} {N : En} {W : Wd} {H H1 : Hp} (b : B R T N W H) (e : ∀ a o, H a = some o → H1 a = some o) : B R T N W H1 :=
  ⟨b.ok.ext (fun a o h _ => e a o h) (b.ok.tabs.ext e), b.ge, fun a o h n nt => e a o (b.frm a o h n nt), b.newD, b.newι⟩
/-- a wish with the slots' number -/
theorem takes_len {X : Cx} {W : WX} (tk : L2N.Takes X W) : L2N.Takes X (fun cls d σ H => σ.length = X.N.length → W cls d σ H) := fun u s' ⟨a, Bh, sI, pins, σ, H, cls, d, e, I, nb, up, sky, na, os, ag, w⟩ =>
  tk u s' ⟨a, Bh, sI, pins, σ, H, cls, d, e, I, nb, up, sky, na, os, ag, w I.len⟩
/-- what the except suite makes of the exception: the string s, nothing else changed -/
def tSuite (R : Rc) (p : Pg) (n ei : Nat) (a : Addr) (cls : Value) (d : Option Addr) : TS := fun D σ H => ∃ c C s, R.cad c = some C ∧ cls = .ref C ∧ d = none ∧ p.hd c .non = some s ∧ σ.length = n ∧ σ[ei]? = some (some (.ref a)) ∧ ∀ H', (∀ b o, H b = some o → H' b = some o) → D.rt (.str s) H'
theorem gives {X : Cx} {R : Rc} {T : List (Addr × Str)} {pg : Pg} {Ng : List Str} {x a q cn en : Str} {sg : Scope} {g CB : Addr} {cdg : Value} {ei j : Nat} {b₀ : Stmt} {suite : List Stmt} {p1 p2 p3 p4 p5 p6 p7 p8 : Pos}
    (hN : Ng.Nodup) (hei : Ng[ei]? = some en) (hen : sg.names.lookup en = some .local) (hge : sg.names.lookup cn = some .globalImplicit) (hdn : (cn == ("__debug__" : Str)) = false) (hme : X.mg cn = some (.ref CB)) (h0 : 0 < Ng.length) (hei0 : ei < Ng.length)
    (hex : ∀ c C, R.cad c = some C → PySem.W.exmOne X.K (.ref C) (.ref CB) = some (pg.sub c pg.base))
    (hsw : ∀ env : PySem.Env, swapsWith (.Call (.Name a p1) [] [] p2) none p3.line env = pure false)
    (hsu : ∀ (s : Shared) (H : Hp) (ae : Addr) (oe : Obj) (cls : Value) (d : Option Addr) (pn : List (Addr × Obj)), L2N.Zn cls d oe → (∃ vs, oe.data = .fields vs) → PSs ((cxOf C8.CX0 X.prog X.w X.K X.mg X.base Ng x sg g cdg X.A X.stack s H C8.E0).nox.suite ae ((ae, oe) :: pn)) (b₀ :: suite) (tSuite R pg Ng.length ei ae cls d)) :
    ViLam.Gives X Ng x sg g cdg [.Try [.Expr (.Call (.Name a p1) [] [] p2) p3] [.ExceptHandler (some (.Name cn p4)) (some en) (b₀ :: suite) p7] [] [] p8, .Return (some (.Constant (.str pg.dflt) j p5)) p6] a q (TTe R T pg) := by
  intro f c' s H Q tl act hc ⟨W, m, wok, htl, hQ⟩
  have hgl : Gl (cxOf C8.CX0 X.prog X.w X.K X.mg X.base Ng x sg g cdg X.A X.stack s H C8.E0).nox cn := hge
  have hloc : (cxOf C8.CX0 X.prog X.w X.K X.mg X.base Ng x sg g cdg X.A X.stack s H C8.E0).nox.env.kindOf en = some .local := hen
  refine ⟨_, pss_cons (L2N.ps_try_as (X := (cxOf C8.CX0 X.prog X.w X.K X.mg X.base Ng x sg g cdg X.A X.stack s H C8.E0).nox) (c := .ref CB) (i := ei) (Wout := fun _ _ _ _ => False)
      (tb := fun W D σ H => ∃ Ech : XK, (∀ cls d σ' H', Ech cls d H' → σ'.length = Ng.length → W cls d σ' H') ∧ σ[0]? = some (some (.ref f)) ∧ H c' = some (LamX.CodeO c' q) ∧ tl Ech H fun _ H' => D.nx σ H')
      rfl rfl hN hei hloc ⟨hgl, hdn, .inl hme⟩ (fun u s' xx => by
        obtain ⟨_, _, _, _, _, _, _, _, _, _, _, _, _, _, _, _, z⟩ := xx
        exact z.elim) (fun W pn xe tk _ => ?_) (fun ae oe cls d pn hz hf => hsu s H ae oe cls d pn hz hf)) (pss_one (ps_ret pe_str)), ?_⟩
  · refine ⟨fun pins s' σ H' D I h' => ?_⟩
    obtain ⟨Ech, hW, h1, h2, h3⟩ := h'
    have hp := act _ pn xe Ech p1 p2 (takes_len tk) hW
    exact (pss_one (ps_expr (pos := p3) hp (hsw _))).run pins s' σ H' D I ⟨h1, h2, h3⟩
  · show ∃ Ech : XK, _ ∧ _ ∧ _ ∧ _
    unfold runC at hQ
    have hs0 : (L2.start Ng [V.ref f])[0]? = some (some (V.ref f)) := by unfold L2.start; simp
    cases e : m W.S with
    | ok v S' =>
      rw [e] at hQ
      refine ⟨fun _ _ _ => False, fun _ _ _ _ z => z.elim, hs0, hc, htl _ _ ?_⟩
      rw [e]
      exact fun x W' H' eS b r => hQ _ W' H' eS b (.str _)
    | err ex S' =>
      rw [e] at hQ
      dsimp only at hQ
      refine ⟨fun cls d H' => ∃ W', W'.S = S' ∧ B R T { W := W, H := H } W' H' ∧ ExR R W' H' ex cls d, fun cls d σ' H' ⟨W', eS, b, r⟩ hl => ?_, hs0, hc, htl _ _ ?_⟩
      · obtain ⟨C, r1, r2, r3, r4⟩ := r
        refine ⟨pg.sub ex.c pg.base, by rw [r2]; exact hex _ _ r1, fun hb ae hae => ?_, fun hb => ?_⟩
        · rw [hb] at hQ
          cases hh : pg.hd ex.c ex.a with
          | none =>
            rw [if_pos rfl, hh] at hQ
            exact (show False from hQ).elim
          | some st =>
            rw [if_pos rfl, hh] at hQ
            rw [r4] at hh
            refine ⟨ex.c, C, st, r1, r2, r3, hh, ?_, ?_, fun H'' he => hQ _ W' H'' eS (b.more he) (.str _)⟩
            · rw [List.length_set]; exact hl
            · exact List.getElem?_set_self (by rw [hl]; exact hei0)
        · rw [hb, if_neg Bool.false_ne_true] at hQ
          exact (show False from hQ).elim
      · rw [e]
        exact fun cv oe W' H' eS b r => ⟨W', eS, b, r⟩
    | no => rw [e] at hQ; exact (show False from hQ).elim
end Vi
/-! Vi, defs and levels. -/
namespace Vi
open PySem PySem.Spec PyProof.Rows L2
theorem runs_le (p : Pg) {m : Nat} : ∀ {n : Nat}, m ≤ n → runs p n m = run p m
  | 0, h => by
    obtain rfl : m = 0 := by omega
    rfl
  | n + 1, h => by
    by_cases hm : m ≤ n
    · rw [← runs_le p hm]
      funext f vs
      show (if m ≤ n then runs p n m f vs else _) = _
      rw [if_pos hm]
    · obtain rfl : m = n + 1 := by omega
      rfl
/-- what a body at the level n + 1 leans on -/
abbrev dnD (p : Pg) (n : Nat) : Dn := dnB p (runs p n) n
theorem run_succ (p : Pg) (n f : Nat) (vs : List P) : run p (n + 1) f vs = match p.body f with
    | some b => runB (dnD p n) b vs
    | none => M.no := by
  show (if n + 1 ≤ n then _ else _) = _
  exact if_neg (by omega)
theorem dnD_F (p : Pg) : ∀ n, (dnD p n).F = run p n
  | 0 => rfl
  | 1 => rfl
  | n + 2 => rfl
theorem dnD_sub (p : Pg) : ∀ n, (dnD p n).sub = p.sub
  | 0 => rfl
  | 1 => rfl
  | n + 2 => rfl
theorem dnD_two (p : Pg) (n : Nat) : dnD p (n + 2) = ⟨run p (n + 2), run p n, runC p, p.sub⟩ := by
  show Dn.mk (runs p (n + 2) (n + 2)) (runs p (n + 2) n) (runC p) p.sub = _
  rw [runs_le p (show n ≤ n + 2 by omega)]
  rfl
/-- within a lambda -/
abbrev dnL (p : Pg) (n : Nat) : Dn := ⟨run p n, run p n, runC p, p.sub⟩

section
variable {Pr : Program} {w : World} {K : PySem.W.Frag} {mg : Str → Option Value} {base : Heap} {R : Rc} {T : List (Addr × Str)} {p : Pg}
/-- a def by its body -/
theorem fnok {d : Dn} {b : Body} {k : Nat} {f : Addr} {x qual : Str} {st : Stmt} {kV doc pm cdv ct oc : Value} {an od : Option Addr} {osl : Array (Option Value)} {N ps : List Str}
    (lk : K.lookup f = some ⟨oc, od, .func (PySem.W.fnOf x qual (defArgs st) (defBody st) (defScope st) .none kV doc pm an cdv ct), osl⟩) (hcd : PySem.W.codeIn K cdv qual = true) (S : FnScope N ps (defScope st)) (hn : b.n = N.length) (hp : b.np = ps.length)
    (hbody : ∀ (A : Around) (outer : List PySem.Env) (s : Shared) (H : Hp) (E : XK) (N0 : En), Room k (A.deeper (envOfC qual (defScope st) s.heap.objs.size f cdv)) →
      KSs (cxOf (L2N.CX Pr w) Pr w K mg base N qual (defScope st) f cdv A outer s H E) ⟨R, T, N0, E⟩ d (defBody st) b.s) :
    FnOk Pr w K mg base (L2N.CX Pr w) (k + 1) f (PySem.W.fnOf x qual (defArgs st) (defBody st) (defScope st) .none kV doc pm an cdv ct) ps (spF R T (runB d b)) := by
  have len : ∀ vs H Q E, spF R T (runB d b) vs H Q E → vs.length = ps.length := fun vs H Q E ⟨W, qs, wok, rl, h⟩ => by
    rw [rl.length, ← hp]
    by_cases hl : qs.length = b.np
    · exact hl
    · exfalso
      unfold runB at h
      rw [if_neg hl] at h
      exact h
  refine fn_of lk hcd S len fun A outer s H vs Q E hr hsp => ?_
  have hvl := len _ _ _ _ hsp
  obtain ⟨W, qs, wok, rl, h⟩ := hsp
  have hql : qs.length = b.np := by rw [hp, ← hvl, rl.length]
  have hle : ps.length ≤ N.length := by
    have := congrArg List.length S.pre
    rw [List.length_take] at this
    omega
  refine ⟨_, hbody A outer s H E { W := W, H := H } hr, qs.map .val ++ List.replicate (b.n - qs.length) .un, W, ?_, ?_⟩
  · have at_ : ∀ {i : Nat} {s : Sl}, (qs.map Sl.val ++ List.replicate (b.n - qs.length) Sl.un)[i]? = some s → s ≠ .un → ∃ q, qs[i]? = some q ∧ s = .val q := fun {i s} e ns => by
      by_cases hi : i < qs.length
      · rw [List.getElem?_append_left (by rw [List.length_map]; exact hi), List.getElem?_map] at e
        obtain ⟨q, h1, h2⟩ := Option.map_eq_some_iff.mp e
        exact ⟨q, h1, h2.symm⟩
      · rw [List.getElem?_append_right (by rw [List.length_map]; omega), List.getElem?_replicate] at e
        split at e
        · exact absurd (Option.some.inj e).symm ns
        · cases e
    refine ⟨.refl wok, ?_, fun i q e => ?_, fun i q e => ?_, fun q hq => (by cases hq), fun q hq => (by cases hq), List.nodup_nil, fun i k q1 q2 a e1 => ?_⟩
    · unfold L2.start
      rw [List.length_append, List.length_append, List.length_map, List.length_map, List.length_replicate, List.length_replicate, rl.length, hn]
    · obtain ⟨q', h1, h2⟩ := at_ e (fun z => by cases z)
      cases h2
      obtain ⟨v, h3, h4⟩ := rl.get h1
      refine ⟨v, ?_, h4⟩
      unfold L2.start
      have hi := (List.getElem?_eq_some_iff.mp h3).1
      rw [List.getElem?_append_left (by rw [List.length_map]; exact hi), List.getElem?_map, h3]
      rfl
    · obtain ⟨q', h1, h2⟩ := at_ e (fun z => by cases z)
      cases h2
    · obtain ⟨q', h1, h2⟩ := at_ e1 (fun z => by cases z)
      cases h2
  · unfold runB at h
    rw [if_pos hql] at h
    unfold M.bind at h
    cases e : denS d b.s (qs.map Sl.val ++ List.replicate (b.n - qs.length) Sl.un) W.S with
    | ok fl S' =>
      rw [e] at h
      cases fl with
      | nx ρ' => exact fun σ' W' H' eS l j => h _ W' H' eS j.b .non
      | rt v => exact fun x W' H' eS b r => h x W' H' eS b r
      | bk ρ' => exact (show False from h).elim
      | ct ρ' => exact (show False from h).elim
    | err x S' =>
      rw [e] at h
      exact h
    | no => rw [e] at h; exact h
/-- no promise, kept at once -/
theorem fn_none {k : Nat} {f : Addr} {fd : FuncData} {ps : List Str} {CX : CXT} : FnOk Pr w K mg base CX k f fd ps (spF R T fun _ => M.no) :=
  ⟨fun vs H Q E ⟨W, qs, wok, rl, h⟩ => (show False from h).elim, fun A outer s H args us vs Q E _ _ _ _ ⟨W, qs, wok, rl, h⟩ => (show False from h).elim⟩
/-- an exception passes from a def's body, from a lambda's; none from a comprehension -/
theorem pass_fn {X : Cx} {E : XK} (tk : L2N.Takes X (fun cls d _ H => E cls d H)) : Passes (L2N.CX X.prog X.w) X E := L2N.passes_call tk fun _ _ _ _ h => h
theorem pass_no {X : Cx} {E : XK} (h : ∀ a b c, ¬ E a b c) : Passes (L2N.CX X.prog X.w) X E := fun _ _ _ _ _ _ _ hh => by
  obtain ⟨_, _, _, _, _, _, _, _, _, _, _, _, z⟩ := hh
  exact (h _ _ _ z).elim
theorem takes_fn {N : List Str} {qual : Str} {scope : Scope} {f : Addr} {cd : Value} {A : Around} {outer : List PySem.Env} {s : Shared} {H : Hp} {E : XK} : L2N.Takes (cxOf (L2N.CX Pr w) Pr w K mg base N qual scope f cd A outer s H E) (fun cls d _ H => E cls d H) := L2N.takes_of rfl rfl rfl rfl
theorem takes_lam {X : Cx} {A : Around} {outer : List PySem.Env} {s : Shared} {H : Hp} {E : XK} {scope : Scope} {f c' : Addr} : L2N.Takes (ViLam.lamN X A outer s H E scope f c') (fun cls d _ H => E cls d H) := L2N.takes_of rfl rfl rfl rfl
theorem own_fn {N : List Str} {qual : Str} {scope : Scope} {f : Addr} {cd : Value} {A : Around} {outer : List PySem.Env} {s : Shared} {H : Hp} {E : XK} : PassesOwn (model Pr w) (A.deeper (envOfC qual scope s.heap.objs.size f cd)) (envOfC qual scope s.heap.objs.size f cd) (cxOf (L2N.CX Pr w) Pr w K mg base N qual scope f cd A outer s H E).xe := PassesOwn.leaving
end
end Vi
/-! Vi, the rules by the core's terms. -/
namespace Vi
open PySem PySem.Spec PyProof.Rows L2
section
variable {X : Cx} {Γ : Wh} {d : Dn} {a b c e : Expr} {pos pos' : Pos}
theorem k_var {i : Nat} {x : Str} (hN : X.N[i]? = some x) (hv : Vis X.env.scope x) (hd : (x == ("__debug__" : Str)) = false) (hcd : (x == ("__classdict__" : Str)) = false) : KE X Γ d (.Name x pos) (.var i) := s_var hN hv hd hcd
theorem o_look {i : Nat} {x : Str} (hN : X.N[i]? = some x) (hv : Vis X.env.scope x) (hd : (x == ("__debug__" : Str)) = false) (hcd : (x == ("__classdict__" : Str)) = false) : KO X Γ d (.Name x pos) (.look i) := s_look hN hv hd hcd
theorem o_e {ce : CE} (h : KE X Γ d e ce) : KO X Γ d e (.e ce) := h.vop
theorem k_int {i : Int} {j} : KE X Γ d (.Constant (.int i) j pos) (.con (.int i)) := s_con pe_int fun _ _ => .int _
theorem k_bl {i : Bool} {j} : KE X Γ d (.Constant (.bool i) j pos) (.con (.bl i)) := s_con pe_bl fun _ _ => .bl _
theorem k_str {i : Str} {j} : KE X Γ d (.Constant (.str i) j pos) (.con (.str i)) := s_con pe_str fun _ _ => .str _
theorem k_non {j} : KE X Γ d (.Constant .none j pos) (.con .non) := s_con pe_non fun _ _ => .non
/-- a module's constant -/
theorem k_globI {x : Str} {i : Int} {t : Tok} (hg : Gl X x) (hm : X.mg x = some (.int i t)) (hd : (x == ("__debug__" : Str)) = false) : KE X Γ d (.Name x pos) (.glob (.int i)) := s_con (v := .int i) (pe_glob hg hm ⟨t, rfl⟩ hd) fun _ _ => .int _
theorem k_globS {x : Str} {i : Str} {t : Tok} (hg : Gl X x) (hm : X.mg x = some (.str i t)) (hd : (x == ("__debug__" : Str)) = false) : KE X Γ d (.Name x pos) (.glob (.str i)) := s_con (v := .str i) (pe_glob hg hm ⟨t, rfl⟩ hd) fun _ _ => .str _
theorem k_op {o : Bop} {ca cb : CP} (hK : Γ.R.K = X.K) (ha : KO X Γ d a ca) (hb : KO X Γ d b cb) : KE X Γ d (.BinOp a (opOf o) b pos) (.op o ca cb) := s_op hK ha hb
theorem k_cmp {o : Cop} {ca cb : CP} (hK : Γ.R.K = X.K) (hu : X.A.units + 65 < cLine) (hm : behindInMarks (cmpOf o) b = false) (ha : KO X Γ d a ca) (hb : KO X Γ d b cb) : KE X Γ d (.Compare a [cmpOf o] [b] pos) (.cmp o ca cb) := s_cmp hK hu hm ha hb
theorem k_chn {o o' : Cop} {ca cb cc : CE} (hK : Γ.R.K = X.K) (hu : X.A.units + 65 < cLine) (hm : lastMarks [cmpOf o, cmpOf o'] [b, c] = false) (ha : KE X Γ d a ca) (hb : KE X Γ d b cb) (hc : KE X Γ d c cc) : KE X Γ d (.Compare a [cmpOf o, cmpOf o'] [b, c] pos) (.chn o o' ca cb cc) := s_chn hK hu hm ha hb hc
theorem k_neg {ca : CE} (ha : KE X Γ d a ca) : KE X Γ d (.UnaryOp .USub a pos) (.neg ca) := s_neg ha
theorem k_not {ca : CE} (hK : Γ.R.K = X.K) (ha : KE X Γ d a ca) : KE X Γ d (.UnaryOp .Not a pos) (.not ca) := s_not hK ha
theorem k_and {ca cb : CE} {rest : List Expr} (ha : KE X Γ d a ca) (hb : KE X Γ d (.BoolOp .And (b :: rest) pos) cb) : KE X Γ d (.BoolOp .And (a :: b :: rest) pos) (.and ca cb) := s_and ha hb
theorem k_or {ca cb : CE} {rest : List Expr} (ha : KE X Γ d a ca) (hb : KE X Γ d (.BoolOp .Or (b :: rest) pos) cb) : KE X Γ d (.BoolOp .Or (a :: b :: rest) pos) (.or ca cb) := s_or ha hb
theorem k_one {op} {ca : CE} (ha : KE X Γ d a ca) : KE X Γ d (.BoolOp op [a] pos) ca := pe_one ha
theorem k_ife {t : CT} {ca cb : CE} (ht : KT X Γ d c t) (ha : KE X Γ d a ca) (hb : KE X Γ d b cb) : KE X Γ d (.IfExp c a b pos) (.ife t ca cb) := s_ife ht ha hb
theorem k_tup {es : List Expr} {cs : CEs} {k : Nat} (h : KEs X Γ d es cs) : KE X Γ d (.Tuple es k pos) (.tup cs) := s_tup h
theorem k_lst {es : List Expr} {cs : CEs} (h : KEs X Γ d es cs) : KE X Γ d (.List es pos) (.lst cs) := s_lst h
theorem k_nil : KEs X Γ d [] .nil := a_nil
theorem k_cons {es : List Expr} {ca : CE} {cs : CEs} (ha : KE X Γ d a ca) (hs : KEs X Γ d es cs) (hst : starEach (a :: es) X.env = (false, eval a X.env) :: starEach es X.env) : KEs X Γ d (a :: es) (.cons ca cs) := a_cons ha hs hst
theorem ko_nil : KOs X Γ d [] .nil := o_nil
theorem ko_cons {es : List Expr} {ca : CP} {cs : CPs} (ha : KO X Γ d a ca) (hs : KOs X Γ d es cs) (hst : starEach (a :: es) X.env = (false, eval a X.env) :: starEach es X.env) : KOs X Γ d (a :: es) (.cons ca cs) := o_cons ha hs hst
theorem k_blt {T : Blt} {cs : CPs} {x : Str} {es : List Expr} {id : String} (hK : Γ.R.K = X.K) (hc : X.calm = true) (nb : isIsi T = false) (hV : bltV T = .builtin id)
    (hg : Gl X x) (hm : X.mg x = none) (hv : bootBuiltins x = some (.builtin id)) (ha : KOs X Γ d (a :: es) cs) (hn : x ≠ "__name__") (hdb : (x == ("__debug__" : Str)) = false)
    (he : starEach (a :: es) X.env = (false, eval a X.env) :: starEach es X.env) (hpl : (backTo pos (starEach es X.env)).any (·.1) = false) : KE X Γ d (.Call (.Name x pos') (a :: es) [] pos) (.blt T cs) := s_blt hK hc nb hV hg hm hv ha hn hdb he hpl
theorem k_bltT {T : Blt} {cs : CPs} {x : Str} {es : List Expr} {id : String} (hK : Γ.R.K = X.K) (hc : X.calm = true) (nb : isIsi T = false) (hV : bltV T = .type id)
    (hg : Gl X x) (hm : X.mg x = none) (hv : bootBuiltins x = some (.type id)) (ha : KOs X Γ d (a :: es) cs) (hn : x ≠ "__name__") (hdb : (x == ("__debug__" : Str)) = false)
    (he : starEach (a :: es) X.env = (false, eval a X.env) :: starEach es X.env) (hpl : (backTo pos (starEach es X.env)).any (·.1) = false) : KE X Γ d (.Call (.Name x pos') (a :: es) [] pos) (.blt T cs) := s_bltT hK hc nb hV hg hm hv ha hn hdb he hpl
theorem k_isi {t : Ty} {ca : CP} {x y : Str} {py : Pos} (hK : Γ.R.K = X.K) (nt : isCls t = false)
    (hg : Gl X x) (hm : X.mg x = none) (hv : bootBuiltins x = some (.builtin "isinstance")) (hgy : Gl X y) (hmy : X.mg y = none) (hvy : bootBuiltins y = some (.type (tyNm t))) (ha : KO X Γ d a ca) (hn : x ≠ "__name__") (hdb : (x == ("__debug__" : Str)) = false)
    (hny : y ≠ "__name__") (hdby : (y == ("__debug__" : Str)) = false) (he : starEach [a, .Name y py] X.env = (false, eval a X.env) :: starEach [.Name y py] X.env) : KE X Γ d (.Call (.Name x pos') [a, .Name y py] [] pos) (.blt (.isi t) (.cons ca .nil)) := s_isi hK nt hg hm hv hgy hmy hvy ha hn hdb hny hdby he
theorem k_join {o : Expr} {co : CE} {ca : CP} {apos : Pos} (hK : Γ.R.K = X.K) (ho : KE X Γ d o co) (ha : KO X Γ d a ca) (hs : starEach [a] X.env = [(false, eval a X.env)])
    (hbase : attributeBase o "join" X.env (eval o X.env) = eval o X.env) (hline : (apos.endLine == pos.line) = true) : KE X Γ d (.Call (.Attribute o "join" apos) [a] [] pos) (.mth .join co (.cons ca .nil)) := s_join hK ho ha hs hbase hline
theorem k_ix {ca : CP} {cb : CE} (hK : Γ.R.K = X.K) (ha : KO X Γ d a ca) (hb : KE X Γ d b cb) (hs : PlainIx b) : KE X Γ d (.Subscript a b pos) (.ix ca cb) := s_ix hK ha hb hs
abbrev KC (X : Cx) (Γ : Wh) (d : Dn) (e : Option Expr) (c : CO) : Prop := PO X e (tG Γ relC fun ρ => denCO d ρ c)
theorem kc_non : KC X Γ d none .non := c_none
theorem kc_som {ca : CE} (ha : KE X Γ d a ca) : KC X Γ d (some a) (.som ca) := c_some ha
theorem k_slc {ca : CP} {cl ch : CO} {lo hi : Option Expr} {p2 : Pos} (hK : Γ.R.K = X.K) (ha : KO X Γ d a ca) (hl : KC X Γ d lo cl) (hh : KC X Γ d hi ch) : KE X Γ d (.Subscript a (.Slice lo hi none p2) pos) (.slc ca cl ch) := s_slc hK ha hl hh
/-! tests -/
theorem kt_val {ca : CP} (hK : Γ.R.K = X.K) (ha : KO X Γ d a ca) (he : ∀ whole, isTrue a X.env whole = (do let v ← whole; standAt a.pos; holding [v] (truthy v))) : KT X Γ d a (.val ca) := t_val hK ha he
theorem kt_cmp {o : Cop} {ca cb : CP} (hK : Γ.R.K = X.K) (hu : X.A.units + 65 < cLine) (hm : behindInMarks (cmpOf o) b = false) (ha : KO X Γ d a ca) (hb : KO X Γ d b cb) : KT X Γ d (.Compare a [cmpOf o] [b] pos) (.val (.e (.cmp o ca cb))) := t_cmp hK hu hm ha hb
theorem kt_not {t : CT} (ha : KT X Γ d a t) : KT X Γ d (.UnaryOp .Not a pos) (.not t) := t_not ha
theorem kw_and {t u : CT} {rest : List Expr} (ha : KT X Γ d a t) (hb : KW X Γ d (.BoolOp .And (b :: rest) pos) u) : KW X Γ d (.BoolOp .And (a :: b :: rest) pos) (.and t u) := w_and ha hb
theorem kw_or {t u : CT} {rest : List Expr} (ha : KT X Γ d a t) (hb : KW X Γ d (.BoolOp .Or (b :: rest) pos) u) : KW X Γ d (.BoolOp .Or (a :: b :: rest) pos) (.or t u) := w_or ha hb
theorem kw_and1 {t : CT} (ha : KT X Γ d a t) : KW X Γ d (.BoolOp .And [a] pos) t := pw_and1 ha
theorem kw_or1 {t : CT} (ha : KT X Γ d a t) : KW X Γ d (.BoolOp .Or [a] pos) t := pw_or1 ha
theorem kt_w {t : CT} (h : KW X Γ d a t) : KT X Γ d a t := h.pt
/-! a new object of the store -/
theorem k_newref {es : List Expr} {cs : CEs} (h : KEs X Γ d es cs) : KE X Γ d (.List es pos) (.newref cs) := by
  refine (pe_lst h).imp fun σ H Q ⟨ρ, W, j, h⟩ => ⟨ρ, W, j, GC.imp (GC.bind (m := denEs d ρ cs) h) fun x H1 ⟨p, W1, j1, l1, r1, h1⟩ => ?_⟩
  by_cases hz : p.length ≤ lim
  · rw [if_pos hz] at h1
    refine ⟨by rw [RpL.length r1]; exact lim_eq ▸ hz, fun a ha => ?_⟩
    refine h1 (.ref a) ⟨W1.D, W1.ι ++ [a], W1.S ++ [.cell p]⟩ _ rfl ⟨.refl _, ⟨[a], rfl⟩⟩ (j1.rmake ha r1) (.ref ?_)
    rw [← j1.b.ok.len]
    show (W1.ι ++ [a])[W1.ι.length]? = some a
    simp
  · rw [if_neg hz] at h1; exact (show False from h1).elim
/-! what is walked -/
abbrev KI (X : Cx) (Γ : Wh) (d : Dn) (look : List Nat) (tg e : Expr) (c : CI) : Prop := PI X tg e (tI Γ look fun ρ => denI d ρ c)
theorem ki_e {tg : Expr} {ce : CE} {look : List Nat} (hK : Γ.R.K = X.K) (h : KE X Γ d e ce) : KI X Γ d look tg e (.seq (.e ce)) := by
  refine i_seq hK (de := fun ρ => denE d ρ ce) (h.imp fun σ H Q ⟨ρ, W, j, h⟩ => ⟨ρ, W, j, ?_⟩)
  have h : GC Γ (relL Γ look) ρ σ W (denE d ρ ce W.S) Q := h
  show GC Γ (relE Γ) ρ σ W (denE d ρ ce W.S) Q
  cases q : denE d ρ ce W.S with
  | ok v S =>
    rw [q] at h
    exact fun x W' H' e l j q => h x W' H' e l j (.inl q)
  | err x S => rw [q] at h; exact h
  | no => rw [q] at h; exact h
theorem ki_look {tg : Expr} {i : Nat} {x : Str} (hK : Γ.R.K = X.K) (hN : X.N[i]? = some x) (hv : Vis X.env.scope x) (hd : (x == ("__debug__" : Str)) = false) (hcd : (x == ("__classdict__" : Str)) = false) : KI X Γ d [i] tg (.Name x pos) (.seq (.look i)) := by
  refine i_seq hK (de := fun ρ => denO d ρ (.look i)) ((pe_var hN hv hd hcd).imp fun σ H Q ⟨ρ, W, j, h⟩ => ?_)
  have h : GC Γ (relL Γ [i]) ρ σ W (M.ofO (getT ρ i) W.S) Q := h
  cases q : getT ρ i with
  | none => rw [q] at h; exact (show False from h).elim
  | some v =>
    rw [q] at h
    unfold getT at q
    split at q
    · cases q
      rename_i q
      obtain ⟨u, h1, h2⟩ := j.val i _ q
      exact ⟨u, h1, h u W H rfl (.refl _) j (.inl h2)⟩
    · cases q
      rename_i q
      obtain ⟨u, h1, h2⟩ := j.own i _ q
      exact ⟨.ref u, h1, h (.ref u) W H rfl (.refl _) j (.inr ⟨i, by simp, q, h1⟩)⟩
    · cases q
theorem ki_rng1 {tg : Expr} {p : Pos} {ca : CE} {look : List Nat} (hg : Gl X "range") (hm : X.mg "range" = none) (ha : KE X Γ d a ca) (hs : starEach [a] X.env = [(false, eval a X.env)]) : KI X Γ d look tg (.Call (.Name "range" p) [a] [] pos) (.rng1 ca) := i_rng1 hg hm ha hs
theorem ki_rng2 {tg : Expr} {p : Pos} {ca cb : CE} {look : List Nat} (hg : Gl X "range") (hm : X.mg "range" = none) (ha : KE X Γ d a ca) (hb : KE X Γ d b cb) (hs : starEach [a, b] X.env = [(false, eval a X.env), (false, eval b X.env)]) (hs2 : starEach [b] X.env = [(false, eval b X.env)]) : KI X Γ d look tg (.Call (.Name "range" p) [a, b] [] pos) (.rng2 ca cb) := i_rng2 hg hm ha hb hs hs2
theorem ki_zip {p tpos : Pos} {elts : List Expr} {kk : Nat} {ca cb : CE} {look : List Nat} (hK : Γ.R.K = X.K) (hg : Gl X "zip") (hm : X.mg "zip" = none) (ha : KE X Γ d a ca) (hb : KE X Γ d b cb)
    (hs : starEach [a, b] X.env = (false, eval a X.env) :: starEach [b] X.env) (hs2 : starEach [b] X.env = [(false, eval b X.env)]) : KI X Γ d look (.Tuple elts kk tpos) (.Call (.Name "zip" p) [a, b] [] pos) (.zip ca cb) := i_zip hK hg hm ha hb hs hs2
/-! comprehensions -/
theorem kq_yes : PTs X [] (tT Γ fun ρ => denQ d ρ .yes) := ⟨fun pins s σ H Q I ⟨ρ, W, j, h⟩ => pts_nil.run pins s σ H Q I (GC.pure j h rfl)⟩
theorem kq_one {t : CT} (h : KT X Γ d a t) : PTs X [a] (tT Γ fun ρ => denQ d ρ (.one t)) := pts_one h
theorem k_lc {tgx iter elt : Expr} {ifs : List Expr} {scope : Scope} {own : List (Str × Nat)} {tg : Tg} {it : CI} {q : CQ} {ce : CE} {look : List Nat} (hK : Γ.R.K = X.K) (hc : X.calm = true) (hN : X.N.Nodup) (hi : KI X Γ d look tgx iter it) (ok : BlkOk X.N X.env.scope scope own) (hl : ∀ i ∈ look, i ∉ own.map (·.2)) (ht : ∀ i ∈ tgS tg, i ∈ own.map (·.2))
    (hg : ∀ (s : Shared) (H : Hp) (C : Addr) (cl : List (Str × Addr)) (fp : List Addr), PG (X.blk s H scope (compEnvC scope cl C X.env) fp) tgx (gT X.K tg))
    (hq : ∀ (s : Shared) (H : Hp) (C : Addr) (cl : List (Str × Addr)) (fp : List Addr) (os : List (Addr × P)), PTs (X.blk s H scope (compEnvC scope cl C X.env) fp) ifs (tT (Γ.inner os) fun ρ => denQ d ρ q))
    (he : ∀ (s : Shared) (H : Hp) (C : Addr) (cl : List (Str × Addr)) (fp : List Addr) (os : List (Addr × P)), KE (X.blk s H scope (compEnvC scope cl C X.env) fp) (Γ.inner os) d elt ce)
    (hs : ∀ x, foldedSetIterable iter X.env x = pure x) : KE X Γ d (.ListComp elt [⟨tgx, iter, ifs, 0⟩] scope pos) (.lc (own.map (·.2)) tg it q ce) := s_lc hK hc hN hi ok hl ht hg hq he hs
/-- name = value, by whatever rule stored the value -/
theorem z_put {i : Nat} {st : Stmt} {ce : CE} (h : PS X st (tAsg (tE Γ fun ρ => denE d ρ ce) (gName i))) : KS X Γ d st (.set i ce) :=
  PS.imp h fun D σ H ⟨ρ, W, j, h⟩ => ⟨ρ, W, j, GC.imp (GS.bind h) fun x H1 ⟨p, W1, j1, l1, r1, h1⟩ => GS.nx h1 (j1.put r1)⟩
theorem z_setLc {i : Nat} {y : Str} {py spos : Pos} {tgx iter elt : Expr} {ifs : List Expr} {scope : Scope} {own : List (Str × Nat)} {tg : Tg} {it : CI} {q : CQ} {ce : CE} {look : List Nat} (hK : Γ.R.K = X.K) (hc : X.calm = true) (hN : X.N.Nodup) (hy : X.N[i]? = some y) (hyl : X.env.scope.names.lookup y = some .local) (hsw : swapsWith (.ListComp elt [⟨tgx, iter, ifs, 0⟩] scope pos) (some (.Name y py)) spos.line X.env = pure true)
    (hi : KI X Γ d look tgx iter it) (ok : BlkOk X.N X.env.scope scope own) (hl : ∀ i ∈ look, i ∉ own.map (·.2)) (ht : ∀ i ∈ tgS tg, i ∈ own.map (·.2))
    (hg : ∀ (s : Shared) (H : Hp) (C : Addr) (cl : List (Str × Addr)) (fp : List Addr), PG (X.blk s H scope (compEnvC scope cl C X.env) fp) tgx (gT X.K tg))
    (hq : ∀ (s : Shared) (H : Hp) (C : Addr) (cl : List (Str × Addr)) (fp : List Addr) (os : List (Addr × P)), PTs (X.blk s H scope (compEnvC scope cl C X.env) fp) ifs (tT (Γ.inner os) fun ρ => denQ d ρ q))
    (he : ∀ (s : Shared) (H : Hp) (C : Addr) (cl : List (Str × Addr)) (fp : List Addr) (os : List (Addr × P)), KE (X.blk s H scope (compEnvC scope cl C X.env) fp) (Γ.inner os) d elt ce)
    (hs : ∀ x, foldedSetIterable iter X.env x = pure x) : KS X Γ d (.Assign [.Name y py] (.ListComp elt [⟨tgx, iter, ifs, 0⟩] scope pos) spos) (.set i (.lc (own.map (·.2)) tg it q ce)) :=
  z_put (s_setLc hK hc hN hy hyl hsw hi ok hl ht hg hq he hs)
/-! names -/
def visB (sc : Scope) (x : Str) : Bool := match sc.names.lookup x with
  | some .local => true
  | some .cell => true
  | some .free => true
  | _ => false
theorem vis_of {sc : Scope} {x : Str} (h : visB sc x = true) : Vis sc x := by
  unfold visB at h
  split at h <;> first | (rename_i q; exact .inl q) | (rename_i q; exact .inr (.inl q)) | (rename_i q; exact .inr (.inr q)) | cases h
def locB (sc : Scope) (x : Str) : Bool := match sc.names.lookup x with
  | some .local => true
  | some .cell => true
  | _ => false
theorem loc_of {sc : Scope} {x : Str} (h : locB sc x = true) : Loc sc x := by
  unfold locB at h
  split at h <;> first | (rename_i q; exact .inl q) | (rename_i q; exact .inr q) | cases h
theorem gl_of {x : Str} (h : X.env.kindOf x = some .globalImplicit) : Gl X x := h
/-! calls -/
/-- what is known of a def that is called -/
structure Kn (Pr : Program) (w : World) (K : PySem.W.Frag) (mg : Str → Option Value) (base : Heap) (R : Rc) (T : List (Addr × Str)) (p : Pg) (n i : Nat) (x : Str) : Prop where
  ex : ∃ (f : Addr) (fd : FuncData) (ps : List Str), FnOk Pr w K mg base (L2N.CX Pr w) n f fd ps (spF R T (run p n i)) ∧ mg x = some (.ref f) ∧ PySem.W.keepIn K (.ref f) = true ∧ Binds K fd ps []
theorem k_call {p : Pg} {cs : CEs} {x : Str} {es : List Expr} {n i : Nat} (kn : Kn X.prog X.w X.K X.mg X.base Γ.R Γ.T p n i x) (hF : d.F = run p n) (hr : Room n X.A) (hx : Passes (L2N.CX X.prog X.w) X Γ.E) (hg : Gl X x)
    (ha : KEs X Γ d (a :: es) cs) (hdb : (x == ("__debug__" : Str)) = false) (he : starEach (a :: es) X.env = (false, eval a X.env) :: starEach es X.env) (hpl : (backTo pos (starEach es X.env)).any (·.1) = false) :
    KE X Γ d (.Call (.Name x pos') (a :: es) [] pos) (.call i cs) := by
  obtain ⟨f, fd, ps, h1, h2, h3, h4⟩ := kn.ex
  have h := s_call (F := run p n i) h1 hr hg h2 h3 h4 hx ha hdb he hpl (pos := pos) (pos' := pos')
  rw [← hF] at h
  exact h
theorem k_call0 {p : Pg} {x : Str} {n i : Nat} (kn : Kn X.prog X.w X.K X.mg X.base Γ.R Γ.T p n i x) (hF : d.F = run p n) (hr : Room n X.A) (hx : Passes (L2N.CX X.prog X.w) X Γ.E) (hg : Gl X x) (hdb : (x == ("__debug__" : Str)) = false) :
    KE X Γ d (.Call (.Name x pos') [] [] pos) (.call i .nil) := by
  obtain ⟨f, fd, ps, h1, h2, h3, h4⟩ := kn.ex
  have h := s_call0 (F := run p n i) h1 hr hg h2 h3 h4 hx hdb (pos := pos) (pos' := pos') (Γ := Γ)
  rw [← hF] at h
  exact h
/-- what is known of the def that tries -/
structure Tl (Pr : Program) (w : World) (K : PySem.W.Frag) (mg : Str → Option Value) (base : Heap) (R : Rc) (T : List (Addr × Str)) (p : Pg) (x : Str) : Prop where
  ex : ∃ (a : Str) (g : Addr) (pg : Arguments) (bg : List Stmt) (sg : Scope) (dV kV doc pm cdv ct oc : Value) (an od : Option Addr) (osl : Array (Option Value)) (Ng : List Str), mg x = some (.ref g) ∧ PySem.W.keepIn K (.ref g) = true ∧
    K.lookup g = some ⟨oc, od, .func (PySem.W.fnOf x x pg bg sg dV kV doc pm an cdv ct), osl⟩ ∧ PySem.W.codeIn K cdv x = true ∧ L2.Binds K (PySem.W.fnOf x x pg bg sg dV kV doc pm an cdv ct) [a] [] ∧ FnScope Ng [a] sg ∧ Ng[0]? = some a ∧ Vis sg a ∧
    (a == ("__debug__" : Str)) = false ∧ (a == ("__classdict__" : Str)) = false ∧
    ∀ (X : Cx) (q : Str), X.prog = Pr → X.w = w → X.K = K → X.mg = mg → X.base = base → ViLam.Gives X Ng x sg g cdv bg a q (TTe R T p)
theorem k_told {p : Pg} {x : Str} {c P : Addr} {n : Nat} {params : Arguments} {body : Expr} {scope : Scope} {ce : CE} {pp lpos : Pos} (tl : Tl X.prog X.w X.K X.mg X.base Γ.R Γ.T p x) (hd : d = dnD p n) (hr : Room n X.A) (hg : Gl X x)
    (TB : LamX.TabB X.base X.mg c P) (hcode : X.env.code = .ref c) (hmT : (P, X.env.qual ++ "<lambda>") ∈ Γ.T) (hu : ∀ p ∈ Γ.T, p.1 = P → p.2 = X.env.qual ++ "<lambda>") (L : LamX.LamS X.env.scope scope) (hdef : defaultsOf params X.env = ([], []))
    (hbind : ∀ (q : Str) (cl : List (Str × Addr)) (pm cv ctv : Value), bindArgs (PySem.W.kla_fn "<lambda>" q params body scope cl pm cv ctv) ⟨[], []⟩ = pure [])
    (hbody : ∀ (k : Nat), n = k + 2 → ∀ (A : Around) (outer : List PySem.Env) (s : Shared) (H : Hp) (E : XK) (f c' : Addr) (N : En), Room k (A.deeper (LamX.lamEnv X scope s.heap.objs.size f c')) → KE (ViLam.lamN X A outer s H E scope f c') ⟨Γ.R, Γ.T, N, E⟩ (dnL p k) body ce)
    (hdb : (x == ("__debug__" : Str)) = false) : KE X Γ d (.Call (.Name x pp) [.Lambda params body scope lpos] [] pos) (.told ce) := by
  subst hd
  match n, hr, hbody with
  | 0, _, _ => exact ⟨fun pins s σ H Q I ⟨ρ, W, j, h⟩ => (show False from h).elim⟩
  | 1, _, _ => exact ⟨fun pins s σ H Q I ⟨ρ, W, j, h⟩ => (show False from h).elim⟩
  | k + 2, hr, hbody =>
    obtain ⟨a, g, pg, bg, sg, dV, kV, doc, pm, cdv, ct, oc, an, od, osl, Ng, h1, h2, h3, h4, h5, h6, h7, h8, h9, h10, h11⟩ := tl.ex
    have hb : ∀ (A : Around) (outer : List PySem.Env) (s : Shared) (H : Hp) (E : XK) (f c' : Addr) (N : En), Room k (A.deeper (LamX.lamEnv X scope s.heap.objs.size f c')) → KE (ViLam.lamN X A outer s H E scope f c') ⟨Γ.R, Γ.T, N, E⟩ { dnD p (k + 2) with F := (dnD p (k + 2)).F2 } body ce := by
      rw [dnD_two]
      exact hbody k rfl
    exact s_told (pg0 := p) hg h1 h2 h3 h4 h5 h6 h7 h8 (h11 X _ rfl rfl rfl rfl rfl) TB hcode hmT hu hr L hdef hbind (by rw [dnD_two]) hb hdb h9 h10
end
theorem u65 {k : Nat} {A : Around} (r : Room k A) : A.units + 65 < cLine := by have := r.un; omega
end Vi
/-! Vi, sorted. -/
namespace Vi
open PySem PySem.Spec PyProof.Rows L2
/-! ### insertion into a list that is in order -/
section
variable {α : Type} {lt : α → α → Bool}
def insG (lt : α → α → Bool) (x : α) : List α → List α
  | [] => [x]
  | y :: r => if lt x y then x :: y :: r else y :: insG lt x r
def sortG (lt : α → α → Bool) : List α → List α → List α
  | acc, [] => acc
  | acc, x :: r => sortG lt (insG lt x acc) r
theorem insG_mem {x z : α} : ∀ {l : List α}, z ∈ insG lt x l → z = x ∨ z ∈ l
  | [], h => by simp [insG] at h; exact .inl h
  | y :: r, h => by
    unfold insG at h
    split at h
    · rcases List.mem_cons.mp h with e | h
      · exact .inl e
      · exact .inr h
    · rcases List.mem_cons.mp h with e | h
      · exact .inr (by simp [e])
      · rcases insG_mem h with e | h
        · exact .inl e
        · exact .inr (by simp [h])
theorem insG_congr {lt' : α → α → Bool} {x : α} : ∀ {l : List α}, (∀ y ∈ l, lt x y = lt' x y) → insG lt x l = insG lt' x l
  | [], _ => rfl
  | y :: r, h => by
    unfold insG
    rw [h y (by simp), insG_congr fun z hz => h z (by simp [hz])]
theorem sortG_congr {lt' : α → α → Bool} : ∀ {l acc : List α}, (∀ x ∈ acc ++ l, ∀ y ∈ acc ++ l, lt x y = lt' x y) → sortG lt acc l = sortG lt' acc l
  | [], _, _ => rfl
  | x :: r, acc, h => by
    unfold sortG
    rw [insG_congr fun y hy => h x (by simp) y (by simp [hy])]
    refine sortG_congr fun a ha b hb => h a ?_ b ?_
    · rcases List.mem_append.mp ha with ha | ha
      · rcases insG_mem ha with e | ha
        · simp [e]
        · simp [ha]
      · simp [ha]
    · rcases List.mem_append.mp hb with hb | hb
      · rcases insG_mem hb with e | hb
        · simp [e]
        · simp [hb]
      · simp [hb]
open PySem.W in
theorem insG_order {le : α → α → Bool} (T : TotalLe le) (hl : ∀ a b, lt a b = !le b a) {x : α} : ∀ {l : List α}, l.Pairwise (fun a b => le a b = true) → (insG lt x l).Pairwise (fun a b => le a b = true)
  | [], _ => by simp [insG]
  | y :: r, h => by
    obtain ⟨h1, h2⟩ := List.pairwise_cons.mp h
    unfold insG
    split
    · rename_i q
      rw [hl] at q
      have hxy : le x y = true := by
        rcases T.total x y with z | z
        · exact z
        · rw [z] at q; cases q
      refine List.pairwise_cons.mpr ⟨fun z hz => ?_, h⟩
      rcases List.mem_cons.mp hz with e | hz
      · rw [e]; exact hxy
      · exact T.trans _ _ _ hxy (h1 z hz)
    · rename_i q
      have hyx : le y x = true := by
        rw [hl] at q
        simpa using q
      refine List.pairwise_cons.mpr ⟨fun z hz => ?_, insG_order T hl h2⟩
      rcases insG_mem hz with e | hz
      · rw [e]; exact hyx
      · exact h1 z hz
open PySem.W in
theorem insG_stable {le : α → α → Bool} (T : TotalLe le) (hl : ∀ a b, lt a b = !le b a) {x c : α} : ∀ {l : List α}, l.Pairwise (fun a b => le a b = true) → (insG lt x l).filter (sameRank le c) = l.filter (sameRank le c) ++ [x].filter (sameRank le c)
  | [], _ => rfl
  | y :: r, h => by
    obtain ⟨h1, h2⟩ := List.pairwise_cons.mp h
    unfold insG
    split
    · rename_i q
      rw [hl] at q
      have hyx : le y x = false := by simpa using q
      by_cases hc : sameRank le c x = true
      · have no : ∀ z ∈ y :: r, sameRank le c z = false := fun z hz => by
          cases e : sameRank le c z with
          | false => rfl
          | true =>
            unfold sameRank at e hc
            simp only [Bool.and_eq_true] at e hc
            have hyz : le y z = true := by
              rcases List.mem_cons.mp hz with e' | hz
              · rw [e']; exact (T.total y y).elim id id
              · exact h1 z hz
            have : le y x = true := T.trans _ _ _ hyz (T.trans _ _ _ e.2 hc.1)
            rw [hyx] at this; cases this
        rw [List.filter_cons_of_pos hc]
        rw [List.filter_eq_nil_iff.mpr fun z hz => by rw [no z hz]; decide]
        rw [List.filter_cons_of_pos hc]
        rfl
      · rw [List.filter_cons_of_neg hc, List.filter_cons_of_neg (l := []) hc]
        simp
    · have ih := insG_stable T hl (x := x) (c := c) h2
      by_cases hc : sameRank le c y = true
      · rw [List.filter_cons_of_pos hc, List.filter_cons_of_pos hc, ih]
        rfl
      · rw [List.filter_cons_of_neg hc, List.filter_cons_of_neg hc, ih]
open PySem.W in
theorem sortG_both {le : α → α → Bool} (T : TotalLe le) (hl : ∀ a b, lt a b = !le b a) : ∀ {l acc : List α}, acc.Pairwise (fun a b => le a b = true) → (sortG lt acc l).Pairwise (fun a b => le a b = true) ∧ ∀ c, (sortG lt acc l).filter (sameRank le c) = (acc ++ l).filter (sameRank le c)
  | [], acc, h => ⟨h, fun c => by rw [List.append_nil]; rfl⟩
  | x :: r, acc, h => by
    obtain ⟨h1, h2⟩ := sortG_both T hl (l := r) (insG_order T hl (x := x) h)
    refine ⟨h1, fun c => ?_⟩
    unfold sortG
    rw [h2 c, List.filter_append, List.filter_append, insG_stable T hl h, List.append_assoc, ← List.filter_append, List.singleton_append]
open PySem.W in
theorem sortG_merge {le : α → α → Bool} (T : TotalLe le) (hl : ∀ a b, lt a b = !le b a) (l : List α) : sortG lt [] l = l.mergeSort le := by
  obtain ⟨h1, h2⟩ := sortG_both T hl (l := l) (acc := []) .nil
  exact sort_unique T h1 fun c => by rw [h2 c, List.nil_append]
end
theorem ins_G (x : P) : ∀ l : List P, ins x l = insG ltp x l
  | [] => rfl
  | y :: r => by unfold ins insG; rw [ins_G x r]
theorem isort_G : ∀ l acc : List P, isort acc l = sortG ltp acc l
  | [], _ => rfl
  | x :: r, acc => by unfold isort sortG; rw [ins_G, isort_G r]
theorem alkAll_mem : ∀ {xs : List P}, alkAll xs = true → ∀ a ∈ xs, ∀ b ∈ xs, alk a b = true
  | [], _, a, ha, _, _ => by cases ha
  | x :: r, h, a, ha, b, hb => by
    unfold alkAll at h
    simp only [Bool.and_eq_true, List.all_eq_true] at h
    obtain ⟨⟨h1, h2⟩, h3⟩ := h
    rcases List.mem_cons.mp ha with e | ha
    · rcases List.mem_cons.mp hb with e' | hb
      · rw [e, e']; exact h1
      · rw [e]; exact (h2 b hb).1
    · rcases List.mem_cons.mp hb with e' | hb
      · rw [e']; exact (h2 a ha).2
      · exact alkAll_mem h3 a ha b hb
theorem shps_mem {d : Nat} : ∀ {xs : List P} {x : P}, shps d xs = true → x ∈ xs → shp d x = true
  | x :: xs, y, h, hy => by
    have h' : shp d x = true ∧ shps d xs = true := by simpa [shps] using h
    rcases List.mem_cons.mp hy with e | hy
    · rw [e]; exact h'.1
    · exact shps_mem h'.2 hy
open PySem.W in
theorem isort_merge {xs : List P} (hs : shps 62 xs = true) (ha : alkAll xs = true) : isort [] xs = xs.mergeSort (dataLe false toD) := by
  rw [isort_G]
  rw [sortG_congr (lt' := fun a b => !(dataLe false toD b a))]
  · exact sortG_merge (sortLe_total _ false _) (fun a b => rfl) xs
  · intro a h1 b h2
    rw [List.nil_append] at h1 h2
    show ltp a b = !(!dataLt (toD a) (toD b))
    rw [Bool.not_not, ltp_toD 62 a b (shps_mem hs h1) (shps_mem hs h2) (alkAll_mem ha a h1 b h2)]
/-! ### the call -/
section
open PySem.W PySem.Calls
variable {prog : Program} {w : World} {A : Around} {E : Value → Shared → Prop} {s : Shared}
theorem sortsAt_few {vs : List Value} {ds : List PyData} (e : EachIs (fun v d => ∃ as, Reads s.heap v d as) vs ds) (hal : AllAlike ds) (hn : ∀ d ∈ ds, d ≠ .none) (hu : ∀ d, d ∈ ds → A.units + d.depth < cLine) (hf : vs.length ≤ 1) : SortsAt prog w A s (dataKind s.heap ds) vs := by
  have room : ∀ {d d' : PyData}, d ∈ ds → A.units + min d.depth d'.depth < cLine := fun {d d'} hd => Nat.lt_of_le_of_lt (Nat.add_le_add_left (Nat.min_le_left _ _) _) (hu d hd)
  refine ⟨fun v hv => ?_, general', ?_, fun h2 => absurd h2 (by omega)⟩
  · obtain ⟨d, hd, as, r⟩ := e.left v hv
    exact ⟨_, dataKind_some hal hd r⟩
  · intro E x y a b Q ha hb hq
    obtain ⟨d, as, hd, ra, rfl⟩ := dataKind_inv ha
    obtain ⟨d', as', hd', rb, rfl⟩ := dataKind_inv hb
    exact oneLt_alike (f := false) (fun q => by cases q) ra rb (hal d hd d' hd') (hn d hd) (room hd) hq
theorem seq_sorted {κ : Heap → PyProof.Rows.KeyKind} {l : Addr} {T : String} {o : Obj} {vs : List Value} {n : Nat} {Q : Value → Shared → Prop} (hT : T = "list" ∨ T = "tuple") (ho : s.heap.get? l = some o) (hc : o.cls = .type T) (hd : o.data = .seq vs.toArray n) (hL : vs.length ≤ sizeLine)
    (S : ∀ h' : Heap, (∀ b o, s.heap.get? b = some o → h'.get? b = some o) → SortsAt prog w A.in1.in1 { s with heap := h' } (κ h') vs)
    (h : ∀ (h0 h' : Heap) (p : Addr) (k : Nat), (∀ b o, s.heap.get? b = some o → h0.get? b = some o) → (∀ b o, s.heap.get? b = some o → h'.get? b = some o) → s.heap.get? p = none → h'.get? p = some (seqObj "list" (sortVals (κ h0) false vs vs).toArray k) → Q (.ref p) { s with heap := h' }) :
    wpAny (model prog w) A (call (.builtin "sorted") [.ref l]) Q E s := by
  refine call_function_entry_kw kind_sorted plain_sorted entry_sorted (args_sorted1 _) ?_
  unfold Builtin.«sorted»
  refine wpAny_bind (m := checkCount "sorted" 1 1 _) (wpAny_pure ?_)
  refine wpAny_bind (wpAny_collect_seq l hT ho hc hd (fun h1 k1 => ?_) (by simpa using hL))
  rw [List.toList_toArray]
  refine wpAny_bind (wpAny_newList ?_ hL)
  have hlt : ∀ b o, s.heap.get? b = some o → b < h1.objs.size := fun b o e => Heap.lt_size (k1 b o e)
  have hno : s.heap.get? h1.objs.size = none := by
    cases e : s.heap.get? h1.objs.size with
    | none => rfl
    | some o => exact absurd (hlt _ o e) (Nat.lt_irrefl _)
  have at1 : (h1.push (seqObj "list" vs.toArray 0)).get? h1.objs.size = some (seqObj "list" vs.toArray 0) := Heap.get?_push_size _ rfl
  have kp : ∀ b o, s.heap.get? b = some o → (h1.push (seqObj "list" vs.toArray 0)).get? b = some o := fun b o e => Heap.get?_push_of_some _ (k1 b o e)
  refine wpAny_bind (wpAny_holding (wpAny_call_entry_kw slot_list_sort ⟨_, at1, rfl⟩ entry_list_sort ?body (args_list_sort _)))
  case body =>
    show wpAny (model prog w) A.in1.in1 (Builtin.«list.sort» ⟨[.ref h1.objs.size], []⟩) _ _ { s with heap := h1.push (seqObj "list" vs.toArray 0) }
    have kp2 : ∀ b o, s.heap.get? b = some o → (sortingHeap (h1.push (seqObj "list" vs.toArray 0)) h1.objs.size vs).get? b = some o := fun b o e => sortingHeap_old (Nat.ne_of_lt (hlt b o e)) (kp b o e)
    refine list_sort_vals (s := { s with heap := h1.push (seqObj "list" vs.toArray 0) }) at1 (S _ kp2) hL ?_
    refine ⟨_, rfl, wpAny_pure ?_⟩
    obtain ⟨e, he⟩ := sortedHeap_at (out := (sortVals (κ (sortingHeap (h1.push (seqObj "list" vs.toArray 0)) h1.objs.size vs)) false vs vs).toArray) at1
    refine ⟨_, rfl, h _ _ _ e kp2 (fun b o q => ?_) hno he⟩
    rw [sortedHeap_old (Nat.ne_of_lt (hlt b o q)) (by rw [size_push']; exact Nat.lt_succ_of_lt (hlt b o q))]
    exact kp b o q
end
theorem ObjOk.got {P : Program} {w : World} {H : Hp} {h : Heap} {a : Addr} {u : HO} (x : ObjOk P w H h a u) : ∃ q, h.get? a = some q := by
  cases u with
  | lst xs => obtain ⟨_, _, _, _, e⟩ := x; exact ⟨_, e⟩
  | tup xs => obtain ⟨_, _, _, o, e, _⟩ := x; exact ⟨_, e⟩
  | dK kvs => obtain ⟨_, _, _, _, o, _, _, e, _⟩ := x; exact ⟨o, e⟩
  | dT kvs => obtain ⟨_, _, _, _, o, _, _, e, _⟩ := x; exact ⟨o, e⟩
  | set S n => obtain ⟨o, _, _, _, e, _⟩ := x; exact ⟨o, e⟩
  | ins C dx fs => obtain ⟨_, _, _, e, _⟩ := x; exact ⟨_, e⟩
  | own y => obtain ⟨_, e⟩ := x; exact ⟨_, e⟩
  | xd fs => obtain ⟨_, ⟨_, _, _, e, _⟩, _⟩ := x; exact ⟨_, e⟩
  | rng lo hi => obtain ⟨_, _, _, e⟩ := x; exact ⟨_, e⟩
  | frz o u => exact ⟨_, x.1⟩
  | tbl ps => exact ⟨_, show h.get? a = some _ from x⟩
  | met f y => exact ⟨_, show h.get? a = some _ from x⟩
  | ext φ => obtain ⟨_, ⟨_, e⟩, _⟩ := x; exact ⟨_, e⟩
section
open PySem.W PySem.Calls
variable {X : Cx} {R : Rc} {D H : Hp} {ι : List Addr}
def rX (R : Rc) (o : Xop) : List V → Hp → VK → Prop := fun vs H Q => ∃ D ι ps v, Sub D H ∧ VwL R D ι H ps vs ∧ xop o ps = some v ∧ Out R D ι H v Q
theorem xop_sorted {ps : List P} {v : P} (h : xop .sorted ps = some v) : ∃ x xs, ps = [x] ∧ (x = .lst xs ∨ x = .tup xs) ∧ srtOk xs = true ∧ v = .lst (isort [] xs) := by
  unfold xop at h
  split at h <;> first
    | (rename_i q; cases q; done)
    | (rename_i xs q; split at h
       · rename_i z
         cases h
         first | exact ⟨_, xs, rfl, .inl rfl, z, rfl⟩ | exact ⟨_, xs, rfl, .inr rfl, z, rfl⟩
       · cases h)
    | cases h
theorem each_rep {R : Rc} {D : Hp} {ι : List Addr} : ∀ {ps : List P} {vs : List V} {us : List Value}, RpL R D ι ps vs → Vals vs us → EachIs (fun u p => ∃ x, RelV x u ∧ Rp R D ι p x) us ps
  | _, _, _, .nil, .nil => .nil
  | _, _, _, .cons a r, .cons b t => .cons ⟨_, b, a⟩ (each_rep r t)
theorem each_back {R : Rc} {D : Hp} {ι : List Addr} : ∀ {ps : List P} {us : List Value}, EachIs (fun u p => ∃ x, RelV x u ∧ Rp R D ι p x) us ps → ∃ vs, Vals vs us ∧ RpL R D ι ps vs
  | _, _, .nil => ⟨[], .nil, .nil⟩
  | _, _, .cons ⟨x, a, b⟩ t => by
    obtain ⟨vs, h1, h2⟩ := each_back t
    exact ⟨x :: vs, .cons a h1, .cons b h2⟩
theorem each_all {α β : Type} {S S' : α → β → Prop} : ∀ {as : List α} {bs : List β}, EachIs S as bs → (∀ a b, b ∈ bs → S a b → S' a b) → EachIs S' as bs
  | _, _, .nil, _ => .nil
  | _, _, .cons a t, h => .cons (h _ _ (by simp) a) (each_all t fun a b hb => h a b (by simp [hb]))
theorem insG_len {α : Type} {lt : α → α → Bool} {x : α} : ∀ {l : List α}, (insG lt x l).length = l.length + 1
  | [] => rfl
  | y :: r => by
    unfold insG
    split
    · rfl
    · rw [List.length_cons, insG_len, List.length_cons]
theorem sortG_len {α : Type} {lt : α → α → Bool} : ∀ {l acc : List α}, (sortG lt acc l).length = acc.length + l.length
  | [], acc => rfl
  | x :: r, acc => by unfold sortG; rw [sortG_len, insG_len, List.length_cons]; omega
theorem isort_len (xs : List P) : (isort [] xs).length = xs.length := by rw [isort_G, sortG_len]; simp
theorem call_sorted (hK : R.K = X.K) (hu : X.A.units + 65 < cLine) : CallR X (.builtin "sorted") (rX R .sorted) := by
  intro pins s σ H xs us Q I rx h
  obtain ⟨D, ι, ps, v, hD, vl, hb, out⟩ := h
  obtain ⟨x0, xs0, rfl, hx, hok, rfl⟩ := xop_sorted hb
  obtain ⟨x, rfl, vx⟩ := vl.one
  -- the items
  have got : ∃ (a : Addr) (ws : List V) (its : List Value) (T : String) (o : Obj) (n : Nat), x = .ref a ∧ RpL R D ι xs0 ws ∧ Vals ws its ∧ xs0.length ≤ lim ∧ (T = "list" ∨ T = "tuple") ∧ s.heap.get? a = some o ∧ o.cls = .type T ∧ o.data = .seq its.toArray n := by
    rcases hx with rfl | rfl
    · obtain ⟨a, ws, e, ra, la, z⟩ := vx.lst hD
      obtain ⟨its, rv, ⟨o, n, ho, hc, hd, hdat⟩, hz⟩ := I.list (.inl ra)
      exact ⟨a, ws, its, "list", o, n, e, la, rv, z, .inl rfl, ho, hc, hdat⟩
    · obtain ⟨a, ws, e, ra, la, _, z⟩ := vx.tup hD
      obtain ⟨its, rv, ⟨o, ho, hc, n, hdat⟩, hz⟩ := I.tuple (hK ▸ ra)
      exact ⟨a, ws, its, "tuple", o, n, e, la, rv, z, .inr rfl, ho, hc, hdat⟩
  obtain ⟨a, ws, its, T, o, n, rfl, la, rv, z, hT, ho, hc, hdat⟩ := got
  cases rx with
  | cons r rr =>
    cases rr
    cases r
    unfold srtOk at hok
    simp only [Bool.and_eq_true] at hok
    obtain ⟨⟨hs, ha⟩, hkind⟩ := hok
    have mem := alkAll_mem ha
    have hal : AllAlike (xs0.map toD) := fun d hd d' hd' => by
      obtain ⟨p, hp, rfl⟩ := List.mem_map.mp hd
      obtain ⟨q, hq, rfl⟩ := List.mem_map.mp hd'
      exact alk_toD p q (mem p hp q hq)
    have hne : ∀ d ∈ xs0.map toD, d ≠ .none := fun d hd => by
      obtain ⟨p, hp, rfl⟩ := List.mem_map.mp hd
      have q := mem p hp p hp
      intro e
      cases p <;> simp [toD] at e <;> simp [alk] at q
    have hdep : ∀ d, d ∈ xs0.map toD → X.A.in1.in1.units + d.depth < cLine := fun d hd => by
      obtain ⟨p, hp, rfl⟩ := List.mem_map.mp hd
      have q := (shp_lay 62 p (shps_mem hs hp)).2
      show X.A.units + 1 + 1 + _ < _
      omega
    have e0 : EachIs (fun u p => ∃ x, RelV x u ∧ Rp R D ι p x) its xs0 := each_rep la rv
    have er : ∀ h' : Heap, (∀ b o, s.heap.get? b = some o → h'.get? b = some o) → EachIs (fun v b => ∃ as, Reads h' v (toD b) as) its xs0 := fun h' kp => by
      refine each_all e0 fun u p hp ⟨x, rx, rp⟩ => ?_
      obtain ⟨as, rd⟩ := Dp.reads I _ _ _ (hK ▸ rp.dp hD 62 p x (shps_mem hs hp)) rx
      exact ⟨as, PyProof.Rows.Reads.keeps (fun b o => kp b o) rd⟩
    have erD : ∀ h' : Heap, (∀ b o, s.heap.get? b = some o → h'.get? b = some o) → EachIs (fun v d => ∃ as, Reads h' v d as) its (xs0.map toD) := fun h' kp => each_map (R := fun v d => ∃ as, Reads h' v d as) toD (er h' kp)
    have hlen : its.length = xs0.length := by rw [← rv.length, la.length]
    refine seq_sorted (κ := fun h => dataKind h (xs0.map toD)) hT ho hc hdat (by rw [hlen]; exact lim_eq ▸ z) (fun h' kp => ?_) fun h0 h' p k kp0 kp hp hat => ?_
    · by_cases hf : xs0.length ≤ 1
      · exact sortsAt_few (s := { s with heap := h' }) (erD h' kp) hal hne hdep (by rw [hlen]; exact hf)
      · refine SortsAt.data (s := { s with heap := h' }) (erD h' kp) hal ?_ hdep
        simp only [Bool.or_eq_true, decide_eq_true_eq, List.all_eq_true] at hkind
        rcases hkind with (hk | hk) | hk
        · refine .inl fun d hd => ?_
          obtain ⟨p, hp, rfl⟩ := List.mem_map.mp hd
          have q := hk p hp
          cases p with
          | tup ys =>
            cases ys with
            | nil => simp [isTupC] at q
            | cons y r => exact ⟨toD y, toDs r, by simp only [toD, toDs]⟩
          | _ => simp [isTupC] at q
        · refine .inr fun d hd => ⟨hne d hd, fun xs e => ?_⟩
          obtain ⟨p, hp, rfl⟩ := List.mem_map.mp hd
          have q := hk p hp
          cases p <;> simp [toD] at e
          simp [isTupP] at q
        · exact absurd hk hf
    · have fin := sortVals_data false e0 (er h0 kp0) hal
      rw [← isort_merge hs ha] at fin
      obtain ⟨ys, hv, hr⟩ := each_back fin
      have hpn : H p = none := by
        cases e : H p with
        | none => rfl
        | some u =>
          obtain ⟨q, hq⟩ := ObjOk.got (I.hok p u e)
          rw [hp] at hq; cases hq
      have hyl : ys.length ≤ sizeLine := by rw [RpL.length hr, isort_len]; exact lim_eq ▸ z
      refine ⟨.ref p, upd H p (.lst ys), I.laidN (t' := s.toks) kp hp hpn ⟨hyl, _, k, hv, hat⟩, rfl, ?_⟩
      exact out.newL hD hr hpn (by rw [isort_len]; exact z)
end
end Vi
/-! Vi, dicts. -/
namespace Vi
open PySem PySem.Spec PyProof.Rows L2
theorem kP_of {p : P} (h : keyOk p = true) : ∃ k, p = kP k := by
  cases p <;> simp [keyOk] at h
  · exact ⟨.inl _, rfl⟩
  · exact ⟨.inr _, rfl⟩
theorem kPs_of : ∀ {ps : List P}, keysOk ps = true → ∃ ks : List Key, ps = ks.map kP
  | [], _ => ⟨[], rfl⟩
  | p :: r, h => by
    have h' : keyOk p = true ∧ keysOk r = true := by simpa [keysOk] using h
    obtain ⟨k, rfl⟩ := kP_of h'.1
    obtain ⟨ks, rfl⟩ := kPs_of h'.2
    exact ⟨k :: ks, rfl⟩
theorem eqv_kP (a b : Key) : eqv (kP a) (kP b) = decide (a = b) := by
  cases a with
  | inl i =>
    cases b with
    | inl j =>
      show eqv (.int i) (.int j) = _
      simp only [eqv]
      by_cases h : i = j
      · subst h; simp
      · have : ¬ (Sum.inl i : Key) = .inl j := fun z => h (by injection z)
        rw [decide_eq_false this]; simpa using h
    | inr y => simp [kP, eqv]
  | inr x =>
    cases b with
    | inl j => simp [kP, eqv]
    | inr y =>
      show eqv (.str x) (.str y) = _
      simp only [eqv]
      by_cases h : x = y
      · subst h; simp
      · have : ¬ (Sum.inr x : Key) = .inr y := fun z => h (by injection z)
        rw [decide_eq_false this]; simpa using h
theorem eqvs_kP : ∀ a b : List Key, eqvs (a.map kP) (b.map kP) = decide (a = b)
  | [], [] => by simp [eqvs]
  | [], _ :: _ => by simp [eqvs]
  | _ :: _, [] => by simp [eqvs]
  | x :: a, y :: b => by
    simp only [List.map_cons, eqvs]
    rw [eqv_kP, eqvs_kP a b]
    by_cases h1 : x = y <;> by_cases h2 : a = b <;> simp [h1, h2]
theorem eqv_ktP (a b : List Key) : eqv (.tup (a.map kP)) (.tup (b.map kP)) = decide (a = b) := by
  simp only [eqv]; exact eqvs_kP a b
section
variable {R : Rc} {D H : Hp} {ι : List Addr}
theorem Rp.kV_of {k : Key} {y : V} (h : Rp R D ι (kP k) y) : y = kV k := by
  cases k with
  | inl i => cases h; rfl
  | inr s => cases h; rfl
theorem RpL.kVs_of : ∀ {ks : List Key} {ys : List V}, RpL R D ι (ks.map kP) ys → ys = ks.map kV
  | [], _, .nil => rfl
  | k :: ks, _, .cons h r => by rw [Rp.kV_of h, RpL.kVs_of r]; rfl
/-- what is read -/
def Rd2 (R : Rc) (D : Hp) (ι : List Addr) : Option P → Option V → Prop
  | some q, some z => Rp R D ι q z
  | none, none => True
  | _, _ => False
theorem dgetK_rel (k : Key) : ∀ {kvs : List (Key × V)} {vs : List P}, RpL R D ι vs (kvs.map (·.2)) → Rd2 R D ι (dget (kP k) (kvs.map fun p => kP p.1) vs) (valV kvs k)
  | [], _, .nil => True.intro
  | p :: r, v :: vs, .cons h t => by
    show Rd2 R D ι (if eqv (kP p.1) (kP k) then some v else dget (kP k) (r.map fun p => kP p.1) vs) _
    rw [eqv_kP]
    by_cases e : p.1 = k
    · rw [if_pos (by simpa using e), valV_pos e]; exact h
    · rw [if_neg (by simpa using e), valV_neg e]; exact dgetK_rel k t
theorem dgetT_rel (k : List Key) : ∀ {kvs : ViDx.KX} {vs : List P}, RpL R D ι vs (kvs.map (·.2.2)) → Rd2 R D ι (dget (.tup (k.map kP)) (kvs.map fun p => P.tup (p.1.map kP)) vs) (ViDx.valX kvs k)
  | [], _, .nil => True.intro
  | p :: r, v :: vs, .cons h t => by
    show Rd2 R D ι (if eqv (.tup (p.1.map kP)) (.tup (k.map kP)) then some v else dget (.tup (k.map kP)) (r.map fun p => P.tup (p.1.map kP)) vs) _
    rw [eqv_ktP]
    by_cases e : p.1 = k
    · rw [if_pos (by simpa using e), ViDx.valX_pos e]; exact h
    · rw [if_neg (by simpa using e), ViDx.valX_neg e]; exact dgetT_rel k t
theorem dkey_K {p : P} (h : dkey false p = true) : ∃ k, p = kP k := kP_of (by simpa [dkey] using h)
theorem dkey_T {p : P} (h : dkey true p = true) : ∃ ks : List Key, p = .tup (ks.map kP) := by
  cases p <;> simp [dkey] at h
  obtain ⟨ks, rfl⟩ := kPs_of h
  exact ⟨ks, rfl⟩
theorem Rp.ktV_of {k : List Key} {y : V} (h : Rp R D ι (.tup (k.map kP)) y) : ∃ b, y = .ref b ∧ TpA R.K D b (k.map kV) ∧ k.length ≤ lim := by
  cases h with
  | tup q r z =>
    rw [RpL.kVs_of r] at q
    exact ⟨_, rfl, q, by rw [List.length_map] at z; exact z⟩
theorem DV_of (hD : Sub D H) {t : Bool} {ks vs : List P} {x y : V} {p : P} (v : Vw R D ι H (.dct t ks vs) x) (rk : Rp R D ι p y) (hk : dkey t p = true) : ∃ a o, x = .ref a ∧ ViDx.DV R.pr R.w R.K H a y o ∧ Rd2 R D ι (dget p ks vs) o := by
  cases t with
  | false =>
    obtain ⟨k, rfl⟩ := dkey_K hk
    obtain ⟨a, kvs, rfl, h1, rfl, h2, _⟩ := v.dK hD
    exact ⟨a, _, rfl, .k h1 (Rp.kV_of rk), dgetK_rel k h2⟩
  | true =>
    obtain ⟨k, rfl⟩ := dkey_T hk
    obtain ⟨a, kvs, rfl, h1, rfl, h2, _, h3⟩ := v.dT hD
    obtain ⟨b, rfl, q, _⟩ := Rp.ktV_of rk
    exact ⟨a, _, rfl, .x h1 (fun e he => hD.sqT (h3 e he).1.sqT) rfl (hD.sqT q.sqT), dgetT_rel k h2⟩
theorem isDD_of (hD : Sub D H) {t : Bool} {ks vs : List P} {x : V} (v : Vw R D ι H (.dct t ks vs) x) : ∃ a, x = .ref a ∧ ViDx.IsDD R.pr R.w H a := by
  cases t with
  | false =>
    obtain ⟨a, kvs, rfl, h1, _⟩ := v.dK hD
    exact ⟨a, rfl, .inl ⟨_, h1⟩⟩
  | true =>
    obtain ⟨a, kvs, rfl, h1, _⟩ := v.dT hD
    exact ⟨a, rfl, .inr ⟨_, h1⟩⟩
theorem dhasK (k : Key) : ∀ kvs : List (Key × V), dhas (kP k) (kvs.map fun p => kP p.1) = kvs.any fun kv => decide (kv.1 = k)
  | [] => rfl
  | p :: r => by
    have ih := dhasK k r
    unfold dhas at ih ⊢
    rw [List.map_cons, List.any_cons, List.any_cons, ih, eqv_kP]
theorem dhasT (k : List Key) : ∀ kvs : ViDx.KX, dhas (.tup (k.map kP)) (kvs.map fun p => P.tup (p.1.map kP)) = kvs.any fun kv => decide (kv.1 = k)
  | [] => rfl
  | p :: r => by
    have ih := dhasT k r
    unfold dhas at ih ⊢
    rw [List.map_cons, List.any_cons, List.any_cons, ih, eqv_ktP]
theorem dreplK_rel (k : Key) {q : P} {z : V} (h : Rp R D ι q z) : ∀ {kvs : List (Key × V)} {vs : List P}, RpL R D ι vs (kvs.map (·.2)) → RpL R D ι (drepl (kP k) q (kvs.map fun p => kP p.1) vs) ((kvs.map fun kv => if kv.1 = k then (kv.1, z) else kv).map (·.2))
  | [], _, .nil => .nil
  | p :: r, v :: vs, .cons hv t => by
    show RpL R D ι ((if eqv (kP p.1) (kP k) then q else v) :: drepl (kP k) q (r.map fun p => kP p.1) vs) _
    rw [List.map_cons, List.map_cons, eqv_kP]
    refine .cons ?_ (dreplK_rel k h t)
    by_cases e : p.1 = k
    · rw [if_pos (by simpa using e), if_pos e]; exact h
    · rw [if_neg (by simpa using e), if_neg e]; exact hv
theorem dreplT_rel (k : List Key) {q : P} {z : V} (h : Rp R D ι q z) : ∀ {kvs : ViDx.KX} {vs : List P}, RpL R D ι vs (kvs.map (·.2.2)) → RpL R D ι (drepl (.tup (k.map kP)) q (kvs.map fun p => P.tup (p.1.map kP)) vs) ((kvs.map fun kv => if kv.1 = k then (kv.1, kv.2.1, z) else kv).map (·.2.2))
  | [], _, .nil => .nil
  | p :: r, v :: vs, .cons hv t => by
    show RpL R D ι ((if eqv (.tup (p.1.map kP)) (.tup (k.map kP)) then q else v) :: drepl (.tup (k.map kP)) q (r.map fun p => P.tup (p.1.map kP)) vs) _
    rw [List.map_cons, List.map_cons, eqv_ktP]
    refine .cons ?_ (dreplT_rel k h t)
    by_cases e : p.1 = k
    · rw [if_pos (by simpa using e), if_pos e]; exact h
    · rw [if_neg (by simpa using e), if_neg e]; exact hv
theorem putK_rel (k : Key) {q : P} {z : V} (h : Rp R D ι q z) {kvs : List (Key × V)} {vs : List P} (r : RpL R D ι vs (kvs.map (·.2))) :
    dputK (kP k) (kvs.map fun p => kP p.1) = (putK kvs k z).map (fun p => kP p.1) ∧ RpL R D ι (dputV (kP k) q (kvs.map fun p => kP p.1) vs) ((putK kvs k z).map (·.2)) := by
  unfold dputK dputV putK
  rw [dhasK]
  by_cases c : (kvs.any fun kv => decide (kv.1 = k)) = true
  · rw [if_pos c, if_pos c, if_pos c]
    refine ⟨?_, dreplK_rel k h r⟩
    rw [List.map_map]
    congr 1
    funext p
    show _ = kP (if p.1 = k then (p.1, z) else p).1
    split <;> rfl
  · rw [if_neg c, if_neg c, if_neg c]
    refine ⟨by rw [List.map_append]; rfl, ?_⟩
    rw [List.map_append]
    exact r.app (.cons h .nil)
theorem putX_rel (k : List Key) (b : Addr) {q : P} {z : V} (h : Rp R D ι q z) {kvs : ViDx.KX} {vs : List P} (r : RpL R D ι vs (kvs.map (·.2.2))) :
    dputK (.tup (k.map kP)) (kvs.map fun p => P.tup (p.1.map kP)) = (ViDx.putX kvs k b z).map (fun p => P.tup (p.1.map kP)) ∧ RpL R D ι (dputV (.tup (k.map kP)) q (kvs.map fun p => P.tup (p.1.map kP)) vs) ((ViDx.putX kvs k b z).map (·.2.2)) := by
  unfold dputK dputV ViDx.putX
  rw [dhasT]
  by_cases c : (kvs.any fun kv => decide (kv.1 = k)) = true
  · rw [if_pos c, if_pos c, if_pos c]
    refine ⟨?_, dreplT_rel k h r⟩
    rw [List.map_map]
    congr 1
    funext p
    show _ = P.tup (List.map kP (if p.1 = k then (p.1, p.2.1, z) else p).1)
    split <;> rfl
  · rw [if_neg c, if_neg c, if_neg c]
    refine ⟨by rw [List.map_append]; rfl, ?_⟩
    rw [List.map_append]
    exact r.app (.cons h .nil)
theorem dputK_len (k : P) (ks : List P) : (dputK k ks).length ≤ ks.length + 1 := by
  unfold dputK
  split
  · omega
  · rw [List.length_append]; exact Nat.le_refl _
end
/-! ### the rules -/
section
variable {X : Cx} {Γ : Wh} {d : Dn} {a b c e o i k v : Expr} {pos pos' p1 p2 p3 apos cpos : Pos}
theorem bind_bind {α β γ : Type} (m : M α) (f : α → M β) (g : β → M γ) : (m.bind f).bind g = m.bind fun x => (f x).bind g := by
  funext S
  unfold M.bind
  cases m S <;> rfl
theorem pure_bind {α β : Type} (a : α) (f : α → M β) : (M.pure a).bind f = f a := rfl
theorem os0 {d : Dn} {ρ : Env} {β : Type} {f : List P → M β} : ((denOs d ρ .nil).bind f) = f [] := rfl
theorem os_c {d : Dn} {ρ : Env} {c : CP} {cs : CPs} {β : Type} {f : List P → M β} : ((denOs d ρ (.cons c cs)).bind f) = (denO d ρ c).bind fun x => (denOs d ρ cs).bind fun xs => f (x :: xs) := by
  rw [show denOs d ρ (.cons c cs) = (denO d ρ c).bind fun x => (denOs d ρ cs).bind fun xs => M.pure (x :: xs) from rfl, bind_bind]
  congr 1
  funext x
  rw [bind_bind]
  rfl
theorem os1 {d : Dn} {ρ : Env} {c : CP} {β : Type} {f : List P → M β} : ((denOs d ρ (.cons c .nil)).bind f) = (denO d ρ c).bind fun x => f [x] := by
  rw [os_c]; rfl
theorem os2 {d : Dn} {ρ : Env} {c c2 : CP} {β : Type} {f : List P → M β} : ((denOs d ρ (.cons c (.cons c2 .nil))).bind f) = (denO d ρ c).bind fun x => (denO d ρ c2).bind fun y => f [x, y] := by
  rw [os_c]
  congr 1
  funext x
  rw [os1]
theorem os3 {d : Dn} {ρ : Env} {c c2 c3 : CP} {β : Type} {f : List P → M β} : ((denOs d ρ (.cons c (.cons c2 (.cons c3 .nil)))).bind f) = (denO d ρ c).bind fun x => (denO d ρ c2).bind fun y => (denO d ρ c3).bind fun z => f [x, y, z] := by
  rw [os_c]
  congr 1
  funext x
  rw [os2]
/-- the representation is that of the program that runs -/
structure Same (Γ : Wh) (X : Cx) : Prop where
  K : Γ.R.K = X.K
  P : Γ.R.pr = X.prog
  w : Γ.R.w = X.w
/-- d[k] -/
theorem k_dget {co : CP} {ck : CE} (hS : Same Γ X) (hu : X.A.units + 65 < cLine) (ho : KO X Γ d o co) (hk : KE X Γ d k ck) (hs : NoSl k) : KE X Γ d (.Subscript o k pos) (.x .dget (.cons co (.cons (.e ck) .nil))) := by
  refine (ViDx.pe_dget (by omega) ho hk hs).imp fun σ H Q ⟨ρ, W, j, h⟩ => ⟨ρ, W, j, ?_⟩
  have h : GC Γ (relE Γ) ρ σ W (((denOs d ρ (.cons co (.cons (.e ck) .nil))).bind fun xs => M.ofO (xop .dget xs)) W.S) Q := h
  rw [os2] at h
  refine GC.imp (GC.bind h) fun x H1 ⟨p, W1, j1, l1, r1, h1⟩ => ⟨ρ, W1, j1, GC.imp (GC.bind (m := denE d ρ ck) h1) fun y H2 ⟨q, W2, j2, l2, r2, h2⟩ => ?_⟩
  have vx := (OpV.mono r1 l2).vw j2
  have hD := j2.b.ok.sub
  cases p with
  | dct t ks vs =>
    have h2 : GC Γ (relE Γ) ρ σ W2 (M.ofO (if dkey t q then Vi.dget q ks vs else none) W2.S) Q := h2
    by_cases hk : dkey t q = true
    · rw [if_pos hk] at h2
      obtain ⟨v, ev, out⟩ := GC.ofO j2 h2
      obtain ⟨A, ov, rfl, g, r⟩ := DV_of hD vx r2 hk
      rw [ev] at r
      cases ov with
      | none => exact r.elim
      | some z => exact ⟨A, z, rfl, hS.K ▸ hS.P ▸ hS.w ▸ g, out.at r⟩
    · rw [if_neg hk] at h2; exact (show False from h2).elim
  | _ => exact (show False from h2).elim
theorem dV_cast (hS : Same Γ X) {H : Hp} {A : Addr} {y : V} {ov : Option V} (g : ViDx.DV Γ.R.pr Γ.R.w Γ.R.K H A y ov) : ViDx.DV X.prog X.w X.K H A y ov := hS.K ▸ hS.P ▸ hS.w ▸ g
theorem k_dget1 {co : CP} {ck : CE} (hS : Same Γ X) (hu : X.A.units + 65 < cLine) (ho : KO X Γ d o co) (hk : KE X Γ d k ck) (m : M1 X o "get" apos k cpos) : KE X Γ d (.Call (.Attribute o "get" apos) [k] [] cpos) (.xm .dget1 co (.cons (.e ck) .nil)) := by
  refine (ViDx.pe_dget1 (by omega) ho hk m).imp fun σ H Q ⟨ρ, W, j, h⟩ => ⟨ρ, W, j, ?_⟩
  refine GC.imp (GC.bind h) fun x H1 ⟨p, W1, j1, l1, r1, h1⟩ => ?_
  cases p with
  | dct t ks vs =>
    obtain ⟨A, rfl, dd⟩ := isDD_of j1.b.ok.sub (OpV.vw r1 j1)
    have h1 : GC Γ (relE Γ) ρ σ W1 (((denOs d ρ (.cons (.e ck) .nil)).bind fun xs => M.ofO (xop .dget1 (.dct t ks vs :: xs))) W1.S) Q := h1
    rw [os1] at h1
    refine ⟨A, rfl, hS.P ▸ hS.w ▸ dd, ρ, W1, j1, GC.imp (GC.bind (m := denE d ρ ck) h1) fun y H2 ⟨q, W2, j2, l2, r2, h2⟩ => ?_⟩
    have vx := (OpV.mono r1 l2).vw j2
    have hD := j2.b.ok.sub
    have h2 : GC Γ (relE Γ) ρ σ W2 (M.ofO (if dkey t q then some ((Vi.dget q ks vs).getD .non) else none) W2.S) Q := h2
    by_cases hk : dkey t q = true
    · rw [if_pos hk] at h2
      obtain ⟨v, ev, out⟩ := GC.ofO j2 h2
      cases ev
      obtain ⟨A', ov, e, g, r⟩ := DV_of hD vx r2 hk
      cases e
      refine ⟨ov, dV_cast hS g, ?_⟩
      cases q3 : dget q ks vs with
      | none =>
        rw [q3] at r out
        cases ov with
        | none => exact out.at .non
        | some z => exact r.elim
      | some u =>
        rw [q3] at r out
        cases ov with
        | none => exact r.elim
        | some z => exact out.at r
    · rw [if_neg hk] at h2; exact (show False from h2).elim
  | _ => exact (show False from h1).elim
/-- d.get(k, x) -/
theorem k_dgetd {co : CP} {ck cx : CE} (hS : Same Γ X) (hu : X.A.units + 65 < cLine) (ho : KO X Γ d o co) (hk : KE X Γ d k ck) (hv : KE X Γ d v cx) (m : M2 X o "get" apos k v cpos) : KE X Γ d (.Call (.Attribute o "get" apos) [k, v] [] cpos) (.xm .dgetd co (.cons (.e ck) (.cons (.e cx) .nil))) := by
  refine (ViDx.pe_dget2 (by omega) ho hk hv m).imp fun σ H Q ⟨ρ, W, j, h⟩ => ⟨ρ, W, j, ?_⟩
  refine GC.imp (GC.bind h) fun x H1 ⟨p, W1, j1, l1, r1, h1⟩ => ?_
  cases p with
  | dct t ks vs =>
    obtain ⟨A, rfl, dd⟩ := isDD_of j1.b.ok.sub (OpV.vw r1 j1)
    have h1 : GC Γ (relE Γ) ρ σ W1 (((denOs d ρ (.cons (.e ck) (.cons (.e cx) .nil))).bind fun xs => M.ofO (xop .dgetd (.dct t ks vs :: xs))) W1.S) Q := h1
    rw [os2] at h1
    refine ⟨A, rfl, hS.P ▸ hS.w ▸ dd, ρ, W1, j1, GC.imp (GC.bind (m := denE d ρ ck) h1) fun y H2 ⟨q, W2, j2, l2, r2, h2⟩ => ⟨ρ, W2, j2, GC.imp (GC.bind (m := denE d ρ cx) h2) fun z H3 ⟨q3, W3, j3, l3, r3, h3⟩ => ?_⟩⟩
    have vx := (OpV.mono r1 (l2.trans l3)).vw j3
    have hD := j3.b.ok.sub
    have h3 : GC Γ (relE Γ) ρ σ W3 (M.ofO (if dkey t q then some ((Vi.dget q ks vs).getD q3) else none) W3.S) Q := h3
    by_cases hk : dkey t q = true
    · rw [if_pos hk] at h3
      obtain ⟨v, ev, out⟩ := GC.ofO j3 h3
      cases ev
      obtain ⟨A', ov, e, g, r⟩ := DV_of hD vx (Rp.mono l3.1 l3.2 r2) hk
      cases e
      refine ⟨ov, dV_cast hS g, ?_⟩
      cases q4 : dget q ks vs with
      | none =>
        rw [q4] at r out
        cases ov with
        | none => exact out.at r3
        | some z => exact r.elim
      | some u =>
        rw [q4] at r out
        cases ov with
        | none => exact r.elim
        | some z => exact out.at r
    · rw [if_neg hk] at h3; exact (show False from h3).elim
  | _ => exact (show False from h1).elim
/-- k in d -/
theorem kc_din {co : CP} {ck : CE} (hS : Same Γ X) (hu : X.A.units + 65 < cLine) (hk : KE X Γ d k ck) (ho : KO X Γ d o co) : PC X .In k o (tE Γ fun ρ => denE d ρ (.x .din (.cons (.e ck) (.cons co .nil)))) := by
  refine ⟨fun pins s σ H Q I h => (ViDx.pc_din (by omega) hk ho).run pins s σ H Q I ?_⟩
  obtain ⟨ρ, W, j, h⟩ := h
  refine ⟨ρ, W, j, ?_⟩
  have h : GC Γ (relE Γ) ρ σ W (((denOs d ρ (.cons (.e ck) (.cons co .nil))).bind fun xs => M.ofO (xop .din xs)) W.S) Q := h
  rw [os2] at h
  refine GC.imp (GC.bind (m := denE d ρ ck) h) fun x H1 ⟨q, W1, j1, l1, r1, h1⟩ => ⟨ρ, W1, j1, GC.imp (GC.bind h1) fun y H2 ⟨p, W2, j2, l2, r2, h2⟩ => ?_⟩
  have hD := j2.b.ok.sub
  have vx := OpV.vw r2 j2
  cases p with
  | dct t ks vs =>
    have h2 : GC Γ (relE Γ) ρ σ W2 (M.ofO (if dkey t q then some (.bl (Vi.dget q ks vs).isSome) else none) W2.S) Q := h2
    by_cases hk : dkey t q = true
    · rw [if_pos hk] at h2
      obtain ⟨v, ev, out⟩ := GC.ofO j2 h2
      cases ev
      obtain ⟨A, ov, rfl, g, r⟩ := DV_of hD vx (Rp.mono l2.1 l2.2 r1) hk
      refine ⟨A, ov, rfl, dV_cast hS g, ?_⟩
      have e : ov.isSome = (dget q ks vs).isSome := by
        cases q4 : dget q ks vs <;> rw [q4] at r <;> cases ov <;> first | rfl | exact r.elim
      rw [e]
      exact out.at (.bl _)
    · rw [if_neg hk] at h2; exact (show False from h2).elim
  | _ => exact (show False from h2).elim
theorem kc_dnotin {co : CP} {ck : CE} (hS : Same Γ X) (hu : X.A.units + 65 < cLine) (hk : KE X Γ d k ck) (ho : KO X Γ d o co) : PC X .NotIn k o (tE Γ fun ρ => denE d ρ (.x .dnotin (.cons (.e ck) (.cons co .nil)))) := by
  refine ⟨fun pins s σ H Q I h => (ViDx.pc_dnotin (by omega) hk ho).run pins s σ H Q I ?_⟩
  obtain ⟨ρ, W, j, h⟩ := h
  refine ⟨ρ, W, j, ?_⟩
  have h : GC Γ (relE Γ) ρ σ W (((denOs d ρ (.cons (.e ck) (.cons co .nil))).bind fun xs => M.ofO (xop .dnotin xs)) W.S) Q := h
  rw [os2] at h
  refine GC.imp (GC.bind (m := denE d ρ ck) h) fun x H1 ⟨q, W1, j1, l1, r1, h1⟩ => ⟨ρ, W1, j1, GC.imp (GC.bind h1) fun y H2 ⟨p, W2, j2, l2, r2, h2⟩ => ?_⟩
  have hD := j2.b.ok.sub
  have vx := OpV.vw r2 j2
  cases p with
  | dct t ks vs =>
    have h2 : GC Γ (relE Γ) ρ σ W2 (M.ofO (if dkey t q then some (.bl !(Vi.dget q ks vs).isSome) else none) W2.S) Q := h2
    by_cases hk : dkey t q = true
    · rw [if_pos hk] at h2
      obtain ⟨v, ev, out⟩ := GC.ofO j2 h2
      cases ev
      obtain ⟨A, ov, rfl, g, r⟩ := DV_of hD vx (Rp.mono l2.1 l2.2 r1) hk
      refine ⟨A, ov, rfl, dV_cast hS g, ?_⟩
      have e : ov.isSome = (dget q ks vs).isSome := by
        cases q4 : dget q ks vs <;> rw [q4] at r <;> cases ov <;> first | rfl | exact r.elim
      rw [e]
      exact out.at (.bl _)
    · rw [if_neg hk] at h2; exact (show False from h2).elim
  | _ => exact (show False from h2).elim
theorem k_din {co : CP} {ck : CE} (hS : Same Γ X) (hu : X.A.units + 65 < cLine) (hm : behindInMarks .In o = false) (hk : KE X Γ d k ck) (ho : KO X Γ d o co) : KE X Γ d (.Compare k [.In] [o] pos) (.x .din (.cons (.e ck) (.cons co .nil))) := pe_cmp (kc_din hS hu hk ho) hm
theorem k_dnotin {co : CP} {ck : CE} (hS : Same Γ X) (hu : X.A.units + 65 < cLine) (hm : behindInMarks .NotIn o = false) (hk : KE X Γ d k ck) (ho : KO X Γ d o co) : KE X Γ d (.Compare k [.NotIn] [o] pos) (.x .dnotin (.cons (.e ck) (.cons co .nil))) := pe_cmp (kc_dnotin hS hu hk ho) hm
/-- {} -/
theorem n_newK {pos : Pos} : KN X Γ d (.Dict [] [] pos) (.newd false) :=
  pe_dnewK.imp fun σ H Q ⟨ρ, W, j, h⟩ p hp => h.2 p W _ rfl (.refl _) (j.madeK hp)
theorem n_newT {pos : Pos} (hS : Same Γ X) : KN X Γ d (.Dict [] [] pos) (.newd true) :=
  ViDx.pe_dnewX.imp fun σ H Q ⟨ρ, W, j, h⟩ p hp => by
    rw [← hS.P, ← hS.w]
    exact h.2 p W _ rfl (.refl _) (j.madeT hp)
/-- d[k] = v, d the def's own -/
theorem z_dput {i : Nat} {x : Str} {ck cv : CE} {p1 p2 : Pos} (hS : Same Γ X) (hu : X.A.units + 65 < cLine) (hN : X.N[i]? = some x) (hvi : Vis X.env.scope x) (hd : (x == ("__debug__" : Str)) = false) (hcd : (x == ("__classdict__" : Str)) = false) (hk : KE X Γ d k ck) (hv : KE X Γ d v cv)
    (hs : swapsWith v (some (.Subscript (.Name x p1) k p2)) pos.line X.env = pure false) :
    KS X Γ d (.Assign [.Subscript (.Name x p1) k p2] v pos) (.dput i ck cv) := by
  refine (ViDx.ps_dput (by omega) (pe_var hN hvi hd hcd) hk hv hs).imp fun D σ H ⟨ρ, W, j, h⟩ => ?_
  have h : GS Γ W ((match ρ[i]? with
    | some (.own (.dct t ks vs)) => (denE d ρ cv).bind fun v => (denE d ρ ck).bind fun k => if dkey t k && decide (ks.length < lim) then M.pure (Fl.nx (ρ.set i (.own (.dct t (dputK k ks) (dputV k v ks vs))))) else M.no
    | _ => M.no) W.S) D := h
  cases q : ρ[i]? with
  | none => rw [q] at h; exact (show False from h).elim
  | some s =>
    rw [q] at h
    cases s with
    | un => exact (show False from h).elim
    | val v => exact (show False from h).elim
    | own o =>
      cases o with
      | dct t ks vs =>
        refine ⟨ρ, W, j, GC.imp (GS.bind (m := denE d ρ cv) h) fun y H1 ⟨p, W1, j1, l1, r1, h1⟩ => ?_⟩
        obtain ⟨A, e1, _, _, _, _⟩ := j1.own i _ q
        refine ⟨.ref A, e1, ρ, W1, j1, GC.imp (GS.bind (m := denE d ρ ck) h1) fun z H2 ⟨n, W2, j2, l2, r2, h2⟩ => ?_⟩
        obtain ⟨A', e1', g2, g3, g4, gz, gd⟩ := j2.own i _ q
        rw [e1] at e1'
        cases e1'
        have h2 : GS Γ W2 ((if dkey t n && decide (ks.length < lim) then M.pure (Fl.nx (ρ.set i (.own (.dct t (dputK n ks) (dputV n p ks vs))))) else M.no) W2.S) D := h2
        by_cases hc : (dkey t n && decide (ks.length < lim)) = true
        · rw [if_pos hc] at h2
          simp only [Bool.and_eq_true, decide_eq_true_eq] at hc
          have r1' : Rp Γ.R W2.D W2.ι p y := Rp.mono l2.1 l2.2 r1
          have hl := dputK_len n ks
          obtain ⟨u, hu0, nt, _, mu, nc⟩ := gd.there
          cases t with
          | false =>
            obtain ⟨kvs, f1, rfl, f3⟩ := gd
            obtain ⟨k', rfl⟩ := dkey_K hc.1
            rw [List.length_map] at hc
            obtain ⟨m1, m2⟩ := putK_rel k' r1' f3
            refine ⟨A, _, rfl, .k f1 (Rp.kV_of r2) (lim_eq ▸ hc.2), ?_⟩
            refine GS.nx h2 (j2.turnG q e1 hu0 nt nc ⟨by rw [List.length_map] at hl; omega, _, upd_same, m1, m2⟩)
          | true =>
            obtain ⟨kvs, f1, rfl, f3, f4⟩ := gd
            obtain ⟨k', rfl⟩ := dkey_T hc.1
            rw [List.length_map] at hc
            obtain ⟨b, rfl, kb, kl⟩ := Rp.ktV_of r2
            obtain ⟨m1, m2⟩ := putX_rel k' b r1' f3
            have hD := j2.b.ok.sub
            refine ⟨A, _, rfl, .x (hS.P ▸ hS.w ▸ f1) (fun e he => hS.K ▸ hD.sqT (f4 e he).1.sqT) rfl (hS.K ▸ hD.sqT kb.sqT) (lim_eq ▸ hc.2), ?_⟩
            rw [← hS.P, ← hS.w]
            refine GS.nx h2 (j2.turnG q e1 hu0 nt nc ⟨by rw [List.length_map] at hl; omega, _, upd_same, m1, m2, fun e he => ?_⟩)
            unfold ViDx.putX at he
            split at he
            · obtain ⟨e', he', rfl⟩ := List.mem_map.mp he
              have := f4 e' he'
              split <;> exact this
            · rcases List.mem_append.mp he with he | he
              · exact f4 e he
              · rw [List.mem_singleton] at he
                subst he
                exact ⟨kb, kl⟩
        · rw [if_neg hc] at h2; exact (show False from h2).elim
      | _ => exact (show False from h).elim
end
end Vi
/-! Vi, more rules. -/
namespace Vi
open PySem PySem.Spec PyProof.Rows L2
section
variable {X : Cx} {R : Rc}
/-! ### built-ins by values -/
theorem max_fold : ∀ (l : List Int) (x : Int), (l.foldl (fun a b => if b > a then b else a) x ∈ x :: l) ∧ ∀ y ∈ x :: l, y ≤ l.foldl (fun a b => if b > a then b else a) x
  | [], x => ⟨by simp, fun y hy => by simp at hy; simp [hy]⟩
  | z :: l, x => by
    obtain ⟨h1, h2⟩ := max_fold l (if z > x then z else x)
    rw [List.foldl_cons]
    refine ⟨?_, fun y hy => ?_⟩
    · rcases List.mem_cons.mp h1 with e | h
      · rw [e]; split <;> simp
      · simp [h]
    · have h3 := h2 _ (List.mem_cons_self ..)
      rcases List.mem_cons.mp hy with e | hy
      · subst e
        refine Int.le_trans ?_ h3
        split <;> omega
      · rcases List.mem_cons.mp hy with e | hy
        · subst e
          refine Int.le_trans ?_ h3
          split <;> omega
        · exact h2 y (List.mem_cons_of_mem _ hy)
theorem min_fold : ∀ (l : List Int) (x : Int), (l.foldl (fun a b => if b < a then b else a) x ∈ x :: l) ∧ ∀ y ∈ x :: l, l.foldl (fun a b => if b < a then b else a) x ≤ y
  | [], x => ⟨by simp, fun y hy => by simp at hy; simp [hy]⟩
  | z :: l, x => by
    obtain ⟨h1, h2⟩ := min_fold l (if z < x then z else x)
    rw [List.foldl_cons]
    refine ⟨?_, fun y hy => ?_⟩
    · rcases List.mem_cons.mp h1 with e | h
      · rw [e]; split <;> simp
      · simp [h]
    · have h3 := h2 _ (List.mem_cons_self ..)
      rcases List.mem_cons.mp hy with e | hy
      · subst e
        refine Int.le_trans h3 ?_
        split <;> omega
      · rcases List.mem_cons.mp hy with e | hy
        · subst e
          refine Int.le_trans h3 ?_
          split <;> omega
        · exact h2 y (List.mem_cons_of_mem _ hy)
theorem xop_max {ps : List P} {v : P} (h : xop .maxL ps = some v) : ∃ (xs : List P) (z : Int) (l : List Int), ps = [.lst xs] ∧ asInts xs = some (z :: l) ∧ v = .int (l.foldl (fun a b => if b > a then b else a) z) := by
  match ps, h with
  | [.lst xs], h =>
    have h : (match asInts xs with | some l => (maxIs l).map P.int | none => none) = some v := h
    cases e : asInts xs with
    | none => rw [e] at h; cases h
    | some l =>
      rw [e] at h
      cases l with
      | nil => cases h
      | cons z l => cases h; exact ⟨xs, z, l, rfl, e, rfl⟩
theorem xop_min {ps : List P} {v : P} (h : xop .minL ps = some v) : ∃ (xs : List P) (z : Int) (l : List Int), ps = [.lst xs] ∧ asInts xs = some (z :: l) ∧ v = .int (l.foldl (fun a b => if b < a then b else a) z) := by
  match ps, h with
  | [.lst xs], h =>
    have h : (match asInts xs with | some l => (minIs l).map P.int | none => none) = some v := h
    cases e : asInts xs with
    | none => rw [e] at h; cases h
    | some l =>
      rw [e] at h
      cases l with
      | nil => cases h
      | cons z l => cases h; exact ⟨xs, z, l, rfl, e, rfl⟩
theorem call_maxL (hc : X.calm = true) : CallR X (.builtin "max") (rX R .maxL) := by
  intro pins s σ H xs us Q I rx h
  obtain ⟨D, ι, ps, v, hD, vl, hb, out⟩ := h
  obtain ⟨xs0, z, l, rfl, hi, rfl⟩ := xop_max hb
  obtain ⟨x, rfl, vx⟩ := vl.one
  obtain ⟨a, ws, rfl, ra, la, zvx⟩ := vx.lst hD
  rw [la.ints hi] at ra
  refine cr_max hc pins s σ H _ us Q I rx ⟨a, z :: l, rfl, .inl ra, by simp, fun m hm hle => ?_⟩
  obtain ⟨g1, g2⟩ := max_fold l z
  have e : m = l.foldl (fun a b => if b > a then b else a) z := Int.le_antisymm (g2 m hm) (hle _ g1)
  rw [e]
  exact out.at (.int _)
theorem call_minL (hc : X.calm = true) : CallR X (.builtin "min") (rX R .minL) := by
  intro pins s σ H xs us Q I rx h
  obtain ⟨D, ι, ps, v, hD, vl, hb, out⟩ := h
  obtain ⟨xs0, z, l, rfl, hi, rfl⟩ := xop_min hb
  obtain ⟨x, rfl, vx⟩ := vl.one
  obtain ⟨a, ws, rfl, ra, la, zvx⟩ := vx.lst hD
  rw [la.ints hi] at ra
  refine cr_min hc pins s σ H _ us Q I rx ⟨a, z :: l, rfl, .inl ra, by simp, fun m hm hle => ?_⟩
  obtain ⟨g1, g2⟩ := min_fold l z
  have e : m = l.foldl (fun a b => if b < a then b else a) z := Int.le_antisymm (hle _ g1) (g2 m hm)
  rw [e]
  exact out.at (.int _)
theorem xop_dlen {ps : List P} {v : P} (h : xop .dlen ps = some v) : ∃ t ks vs, ps = [.dct t ks vs] ∧ v = .int ks.length := by
  match ps, h with
  | [.dct t ks vs], h => cases h; exact ⟨t, ks, vs, rfl, rfl⟩
theorem xop_dlist {ps : List P} {v : P} (h : xop .dlist ps = some v) : ∃ t ks vs, ps = [.dct t ks vs] ∧ v = .lst ks := by
  match ps, h with
  | [.dct t ks vs], h => cases h; exact ⟨t, ks, vs, rfl, rfl⟩
theorem call_dlen (hK : R.K = X.K) (hP : R.pr = X.prog) (hW : R.w = X.w) : CallR X (.builtin "len") (rX R .dlen) := by
  intro pins s σ H xs us Q I rx h
  obtain ⟨D, ι, ps, v, hD, vl, hb, out⟩ := h
  obtain ⟨t, ks, vs, rfl, rfl⟩ := xop_dlen hb
  obtain ⟨x, rfl, vx⟩ := vl.one
  cases t with
  | false =>
    obtain ⟨a, kvs, rfl, h1, rfl, _⟩ := vx.dK hD
    cases rx with
    | cons r rr =>
      cases rr
      cases r
      rw [List.length_map] at out
      exact d_len I h1 fun t s' I' => ⟨.int _, H, I', ⟨t, rfl⟩, out.at (.int _)⟩
  | true =>
    obtain ⟨a, kvs, rfl, h1, rfl, _, _, h3⟩ := vx.dT hD
    cases rx with
    | cons r rr =>
      cases rr
      cases r
      rw [List.length_map] at out
      rw [hP, hW] at h1
      obtain ⟨z, hd, ys, rel, dd⟩ := ViDx.dx_rd I h1 (fun e he => hK ▸ hD.sqT (h3 e he).1.sqT)
      have hl : kvs.length = ys.length := Paired.length rel
      refine call_len_dictH hd dd (by rw [← hl]; rw [sizeLine_eq] at z; omega) ?_
      rw [← hl]
      exact ⟨.int ((kvs.length : Nat) : Int), H, I.tok _, ⟨_, rfl⟩, out.at (.int _)⟩
theorem refs_list : ∀ bs : List Addr, Vals (bs.map V.ref) (bs.map Value.ref)
  | [] => .nil
  | _ :: r => .cons rfl (refs_list r)
theorem px_addrs {kvs : ViDx.KX} {xs : List (List Key × Addr × Value)} (pr : ViDx.PX kvs xs) : (xs.map fun x => x.2.1) = kvs.map fun x => x.2.1 := by
  induction pr with
  | nil => rfl
  | cons h t ih => rw [List.map_cons, List.map_cons, ih, h.2.1]
theorem rpl_keysX {D : Hp} {ι : List Addr} : ∀ {kvs : ViDx.KX}, (∀ p ∈ kvs, TpA R.K D p.2.1 (p.1.map kV) ∧ p.1.length ≤ lim) → RpL R D ι (kvs.map fun p => P.tup (p.1.map kP)) ((kvs.map fun x => x.2.1).map V.ref)
  | [], _ => .nil
  | p :: r, h => by
    have hp := h p (by simp)
    exact .cons (.tup hp.1 (RpL.keys p.1) (by rw [List.length_map]; exact hp.2)) (rpl_keysX fun q hq => h q (by simp [hq]))
theorem call_dlist (hK : R.K = X.K) (hP : R.pr = X.prog) (hW : R.w = X.w) (hc : X.calm = true) : CallR X (.type "list") (rX R .dlist) := by
  intro pins s σ H xs us Q I rx h
  obtain ⟨D, ι, ps, v, hD, vl, hb, out⟩ := h
  obtain ⟨t, ks, vs, rfl, rfl⟩ := xop_dlist hb
  obtain ⟨x, rfl, vx⟩ := vl.one
  cases t with
  | false =>
    obtain ⟨p, kvs, rfl, h1, rfl, _, zl⟩ := vx.dK hD
    cases rx with
    | cons r rr =>
      cases rr
      cases r
      obtain ⟨z, lo, vs', rk, hd⟩ := (show ObjOk X.prog X.w H s.heap p (.dK kvs) from h1.ok I.hok)
      obtain ⟨ep, hat⟩ := hd.dictAt
      have hl : kvs.length = vs'.length := Paired.length rk
      refine PySem.W.kdl_call (PySem.W.kdl_dict (knd := mixKind X.prog X.w) (kvs := vs') (ep := ep) lo) (I.ok.hd hc) hat (by rw [← hl]; exact z) fun h' tk acc' c' hkeep hS hacc => ?_
      have np := I.hok.fresh (Nat.le_refl s.heap.objs.size)
      have rl : RpL R D ι (kvs.map fun p => kP p.1) (kvs.map fun kv => kV kv.1) := by
        have := RpL.keys (R := R) (D := D) (ι := ι) (kvs.map (·.1))
        rw [List.map_map, List.map_map] at this
        exact this
      refine ⟨.ref s.heap.objs.size, upd H s.heap.objs.size (.lst (kvs.map fun kv => kV kv.1)), I.laid hkeep (Nat.le_refl _) (show ObjOk X.prog X.w _ _ _ (.lst (kvs.map fun kv => kV kv.1)) from ⟨?_, acc'.toList, c', ?_, ?_⟩), rfl, out.newL hD rl np (by rw [List.length_map]; exact zl)⟩
      · rw [List.length_map]; exact z
      · have el : acc'.toList.length = acc'.size := by simp
        refine vals_of_at (by rw [List.length_map, el, hacc.1, hl]) fun j x w h1 h2 => ?_
        obtain ⟨k, y, hky, hi⟩ := hacc.2 j w (by rw [← Array.getElem?_toList]; exact h2)
        have e1 : (kvs.map (·.1))[j]? = some k := by
          rw [KV.keys rk, List.getElem?_map, hky] <;> rfl
        have e2 : (kvs.map fun kv => kV kv.1)[j]? = some (kV k) := by
          have e3 : (kvs.map fun kv => kV kv.1) = (kvs.map (·.1)).map kV := by rw [List.map_map] <;> rfl
          rw [e3, List.getElem?_map, e1] <;> rfl
        rw [e2] at h1
        cases h1
        exact keyIs_rel hi
      · rw [Array.toArray_toList]; exact hS
  | true =>
    obtain ⟨d, kvs, rfl, h1, rfl, _, zl, h3⟩ := vx.dT hD
    cases rx with
    | cons r rr =>
      cases rr
      cases r
      rw [hP, hW] at h1
      obtain ⟨hs, z, ks, pr, o, es, ep, ho, hx, hdt, he, hn⟩ := ViDx.dx_at I h1
      have l1 : es.size = ks.length := size_of_entries he
      have l2 : kvs.length = ks.length := Paired.length pr
      refine PySem.W.kdl_call (kdl_raw hs hx hdt) (I.ok.hd hc) ho (by omega) fun h' tk acc' c' kp e it => ?_
      have ea : acc'.toList = ks.map fun x => Value.ref x.2.1 := by
        have hl : acc'.toList.length = ks.length := by rw [Array.length_toList, it.1]; exact l1
        apply List.ext_getElem?
        intro j
        rw [List.getElem?_map]
        cases hj : acc'.toList[j]? with
        | none =>
          have h1 := List.getElem?_eq_none_iff.mp hj
          rw [List.getElem?_eq_none (by omega)]
          all_goals rfl
        | some v =>
          obtain ⟨en, hen, hv⟩ := it.2 j v (by rw [← Array.getElem?_toList]; exact hj)
          have qe := entry_at he j
          rw [hen] at qe
          cases hb : ks[j]? with
          | none =>
            rw [hb] at qe
            exact nomatch (show some en = none from qe)
          | some b =>
            rw [hb] at qe
            have e2 : en = entryOfKey (tupleKind (mixKind X.prog X.w)) b := Option.some.inj qe
            rw [hv, e2]
            all_goals rfl
      have eb : acc'.toList = (ks.map fun x => x.2.1).map Value.ref := by rw [ea, List.map_map]; all_goals rfl
      have ek : (ks.map fun x => x.2.1) = kvs.map fun x => x.2.1 := px_addrs pr
      rw [ek] at eb
      have rv : Vals ((kvs.map fun x => x.2.1).map V.ref) acc'.toList := by rw [eb]; exact refs_list _
      have hz : ((kvs.map fun x => x.2.1).map V.ref).length ≤ sizeLine := by rw [List.length_map, List.length_map]; omega
      have np := I.hok.fresh (Nat.le_refl s.heap.objs.size)
      have rl : RpL R D ι (kvs.map fun p => P.tup (p.1.map kP)) ((kvs.map fun x => x.2.1).map V.ref) := rpl_keysX h3
      refine ⟨.ref s.heap.objs.size, _, I.laid (t' := tk) (o := .lst ((kvs.map fun x => x.2.1).map V.ref)) kp (Nat.le_refl _) ⟨hz, acc'.toList, c', rv, by rw [Array.toArray_toList]; exact e⟩, rfl, out.newL hD rl np (by rw [List.length_map]; exact zl)⟩
end
/-! ### the rules -/
section
variable {X : Cx} {Γ : Wh} {d : Dn} {a b c e o i k v : Expr} {pos pos' p1 p2 p3 apos cpos : Pos}
theorem k_xcall {T : Xop} {cs : CPs} {x : Str} {es : List Expr} {id : String} (cr : CallR X (.builtin id) (rX Γ.R T))
    (hg : Gl X x) (hm : X.mg x = none) (hv : bootBuiltins x = some (.builtin id)) (ha : KOs X Γ d (a :: es) cs) (hn : x ≠ "__name__") (hdb : (x == ("__debug__" : Str)) = false)
    (he : starEach (a :: es) X.env = (false, eval a X.env) :: starEach es X.env) (hpl : (backTo pos (starEach es X.env)).any (·.1) = false) : KE X Γ d (.Call (.Name x pos') (a :: es) [] pos) (.x T cs) := by
  refine (pe_callB (r := rX Γ.R T) cr hg hm hv ha hn hdb he hpl).imp fun σ H Q ⟨ρ, W, j, h⟩ => ?_
  refine ⟨ρ, W, j, GC.imp (GC.bind (m := denOs d ρ cs) h) fun x H1 ⟨p, W1, j1, l1, r1, h1⟩ => ?_⟩
  obtain ⟨v, ev, out⟩ := GC.ofO j1 h1
  exact ⟨W1.D, W1.ι, p, v, j1.b.ok.sub, OpL.vw j1 r1, ev, out⟩
theorem k_xcallT {T : Xop} {cs : CPs} {x : Str} {es : List Expr} {id : String} (cr : CallR X (.type id) (rX Γ.R T))
    (hg : Gl X x) (hm : X.mg x = none) (hv : bootBuiltins x = some (.type id)) (ha : KOs X Γ d (a :: es) cs) (hn : x ≠ "__name__") (hdb : (x == ("__debug__" : Str)) = false)
    (he : starEach (a :: es) X.env = (false, eval a X.env) :: starEach es X.env) (hpl : (backTo pos (starEach es X.env)).any (·.1) = false) : KE X Γ d (.Call (.Name x pos') (a :: es) [] pos) (.x T cs) := by
  refine (pe_callTy (r := rX Γ.R T) cr hg hm hv ha hn hdb he hpl).imp fun σ H Q ⟨ρ, W, j, h⟩ => ?_
  refine ⟨ρ, W, j, GC.imp (GC.bind (m := denOs d ρ cs) h) fun x H1 ⟨p, W1, j1, l1, r1, h1⟩ => ?_⟩
  obtain ⟨v, ev, out⟩ := GC.ofO j1 h1
  exact ⟨W1.D, W1.ι, p, v, j1.b.ok.sub, OpL.vw j1 r1, ev, out⟩
/-- n.bit_length() -/
theorem k_bits {ca : CP} (ho : KO X Γ d o ca) (hbase : attributeBase o "bit_length" X.env (eval o X.env) = eval o X.env) (hline : (apos.endLine == pos.line) = true) : KE X Γ d (.Call (.Attribute o "bit_length" apos) [] [] pos) (.xm .bitlen ca .nil) := by
  refine (pe_bits ho hbase hline).imp fun σ H Q ⟨ρ, W, j, h⟩ => ⟨ρ, W, j, ?_⟩
  refine GC.imp (GC.bind (m := denO d ρ ca) h) fun x H1 ⟨p, W1, j1, l1, r1, h1⟩ => ?_
  cases p with
  | int n =>
    cases (OpV.vw r1 j1).toInt
    exact ⟨n, rfl, GC.pure j1 h1 (.int _)⟩
  | _ => exact (show False from h1).elim
/-! ### what is walked -/
theorem ki_enum {p tpos : Pos} {elts : List Expr} {kk : Nat} {ca : CE} {look : List Nat} (hK : Γ.R.K = X.K) (hg : Gl X "enumerate") (hm : X.mg "enumerate" = none) (ha : KE X Γ d a ca) (hs : starEach [a] X.env = [(false, eval a X.env)]) :
    KI X Γ d look (.Tuple elts kk tpos) (.Call (.Name "enumerate" p) [a] [] pos) (.x .enum (.cons (.e ca) .nil)) := by
  have h := i_enum (look := look) (elts := elts) (kk := kk) (tpos := tpos) (p := p) (pos := pos) hK hg hm ha hs
  have e : (fun ρ => denI d ρ (.x .enum (.cons (.e ca) .nil))) = fun ρ => (denE d ρ ca).bind fun x => M.ofO (xi .enum [x]) := funext fun ρ => os1 (c := .e ca)
  unfold KI; rw [e]; exact h
theorem ki_keys {tg : Expr} {ca : CE} {look : List Nat} (hS : Same Γ X) (ha : KE X Γ d a ca) : KI X Γ d look tg a (.x .keys (.cons (.e ca) .nil)) := by
  have h := i_keys (look := look) (tg := tg) hS.P hS.w ha
  have e : (fun ρ => denI d ρ (.x .keys (.cons (.e ca) .nil))) = fun ρ => (denE d ρ ca).bind fun x => M.ofO (xi .keys [x]) := funext fun ρ => os1 (c := .e ca)
  unfold KI; rw [e]; exact h
theorem ki_values {tg : Expr} {ca : CE} {look : List Nat} (ha : KE X Γ d a ca) (hbase : attributeBase a "values" X.env (eval a X.env) = eval a X.env) (hline : (apos.endLine == cpos.line) = true) : KI X Γ d look tg (.Call (.Attribute a "values" apos) [] [] cpos) (.x .values (.cons (.e ca) .nil)) := by
  have h := i_values (look := look) (tg := tg) ha hbase hline
  have e : (fun ρ => denI d ρ (.x .values (.cons (.e ca) .nil))) = fun ρ => (denE d ρ ca).bind fun x => M.ofO (xi .values [x]) := funext fun ρ => os1 (c := .e ca)
  unfold KI; rw [e]; exact h
theorem ki_items {tpos : Pos} {elts : List Expr} {kk : Nat} {ca : CE} {look : List Nat} (ha : KE X Γ d a ca) (hbase : attributeBase a "items" X.env (eval a X.env) = eval a X.env) (hline : (apos.endLine == cpos.line) = true) : KI X Γ d look (.Tuple elts kk tpos) (.Call (.Attribute a "items" apos) [] [] cpos) (.x .items (.cons (.e ca) .nil)) := by
  have h := i_items (look := look) (elts := elts) (kk := kk) (tpos := tpos) ha hbase hline
  have e : (fun ρ => denI d ρ (.x .items (.cons (.e ca) .nil))) = fun ρ => (denE d ρ ca).bind fun x => M.ofO (xi .items [x]) := funext fun ρ => os1 (c := .e ca)
  unfold KI; rw [e]; exact h
theorem ki_rng3 {tg : Expr} {p : Pos} {cs : CPs} {look : List Nat} (hg : Gl X "range") (hm : X.mg "range" = none) (ha : KOs X Γ d [a, b, c] cs) (hs : starEach [a, b, c] X.env = (false, eval a X.env) :: starEach [b, c] X.env) (hpl : (backTo pos (starEach [b, c] X.env)).any (fun x => x.1) = false) :
    KI X Γ d look tg (.Call (.Name "range" p) [a, b, c] [] pos) (.x .rng3 cs) := i_rng3 hg hm ha hs hpl
/-! ### defs as values -/
theorem k_fn {x : Str} {f : Addr} {n : Nat} (hg : Gl X x) (hm : X.mg x = some (.ref f)) (hf : Γ.R.fad n = some f) (hd : (x == ("__debug__" : Str)) = false) : KE X Γ d (.Name x pos) (.glob (.fn n)) :=
  s_con (v := .ref f) (pe_glob hg hm rfl hd) fun _ _ => .fn hf
/-- what is known of a def's value -/
def Fv (Pr : Program) (w : World) (K : PySem.W.Frag) (mg : Str → Option Value) (base : Heap) (R : Rc) (T : List (Addr × Str)) (p : Pg) (n : Nat) : Prop :=
  ∀ i f, R.fad i = some f → ∃ (fd : FuncData) (ps : List Str), FnOk Pr w K mg base (L2N.CX Pr w) n f fd ps (spF R T (run p n i)) ∧ PySem.W.keepIn K (.ref f) = true ∧ Binds K fd ps []
def tCallV (R : Rc) (T : List (Addr × Str)) (p : Pg) (i n : Nat) (E : XK) (t : TA) : TE := fun σ H Q => ∃ f m, σ[i]? = some (some (.ref f)) ∧ R.fad m = some f ∧ t σ H fun vs H1 => spF R T (run p n m) vs H1 Q E
theorem pe_callV {R : Rc} {T : List (Addr × Str)} {p : Pg} {n j : Nat} {x : Str} {es : List Expr} {E : XK} {t : TA} (F : Fv X.prog X.w X.K X.mg X.base R T p n) (hr : Room n X.A) (hN : X.N[j]? = some x) (hv : Vis X.env.scope x) (hx : Passes (L2N.CX X.prog X.w) X E) (ha : PA X (e :: es) t)
    (hdb : (x == ("__debug__" : Str)) = false) (hcd : (x == ("__classdict__" : Str)) = false) (he : starEach (e :: es) X.env = (false, eval e X.env) :: starEach es X.env) (hpl : (backTo pos (starEach es X.env)).any (·.1) = false) :
    PE X (.Call (.Name x pos') (e :: es) [] pos) (tCallV R T p j n E t) := by
  refine ⟨fun pins s σ H Q I h => ?_⟩
  obtain ⟨f, m, hs, hf, ht⟩ := h
  obtain ⟨fd, ps, h1, h2, h3⟩ := F m f hf
  refine (pe_callL h1 hr hN hv h2 h3 .nil hx ha hdb hcd he hpl).run pins s σ H Q I ⟨hs, ?_⟩
  have e : (fun (vs : List V) H1 => spF R T (run p n m) (vs ++ []) H1 Q E) = fun vs H1 => spF R T (run p n m) vs H1 Q E := by
    funext vs H1
    rw [List.append_nil]
  show t σ H (fun vs H1 => spF R T (run p n m) (vs ++ []) H1 Q E)
  rw [e]
  exact ht
theorem k_callv {p : Pg} {cs : CEs} {x : Str} {es : List Expr} {n i : Nat} (F : Fv X.prog X.w X.K X.mg X.base Γ.R Γ.T p n) (hF : d.F = run p n) (hr : Room n X.A) (hx : Passes (L2N.CX X.prog X.w) X Γ.E) (hN : X.N[i]? = some x) (hv : Vis X.env.scope x)
    (ha : KEs X Γ d (a :: es) cs) (hdb : (x == ("__debug__" : Str)) = false) (hcd : (x == ("__classdict__" : Str)) = false) (he : starEach (a :: es) X.env = (false, eval a X.env) :: starEach es X.env) (hpl : (backTo pos (starEach es X.env)).any (·.1) = false) :
    KE X Γ d (.Call (.Name x pos') (a :: es) [] pos) (.callv (.var i) cs) := by
  refine (pe_callV F hr hN hv hx ha hdb hcd he hpl).imp fun σ H Q ⟨ρ, W, j, h⟩ => ?_
  have h : GC Γ (relE Γ) ρ σ W (((M.ofO (get ρ i)).bind fun
      | .fn f => (denEs d ρ cs).bind fun xs => d.F f xs
      | _ => M.no) W.S) Q := h
  unfold get at h
  split at h
  · rename_i u q
    obtain ⟨z, h1, h2⟩ := j.val i _ q
    cases u with
    | fn m =>
      cases h2 with
      | @fn _ f hf =>
        have h : GC Γ (relE Γ) ρ σ W (((denEs d ρ cs).bind fun xs => d.F m xs) W.S) Q := h
        refine ⟨f, m, h1, hf, ρ, W, j, GC.imp (GC.bind (m := denEs d ρ cs) h) fun x H1 ⟨p, W1, j1, l1, r1, h1⟩ => ?_⟩
        rw [hF] at h1
        refine ⟨W1, p, j1.b.ok, r1, ?_⟩
        cases e : run _ n m p W1.S with
        | ok v S' =>
          rw [e] at h1
          exact fun x W' H' es b r => h1 x W' H' es b.ge (j1.step b) r
        | err v S' =>
          rw [e] at h1
          exact fun cv oe W' H' es b r => h1 cv oe W' H' es (j1.b.trans b) r
        | no => rw [e] at h1; exact h1
    | _ => exact (show False from h).elim
  · exact (show False from h).elim
end
end Vi
/-! Vi, the suites of the def that tries. -/
namespace Vi
open PySem PySem.Spec PyProof.Rows L2
def Ext (H H' : Hp) : Prop := ∀ b o, H b = some o → H' b = some o
theorem Ext.sqT {K : PySem.W.Frag} {H H' : Hp} (e : Ext H H') {t : Addr} {xs : List V} (h : SqT K H t xs) : SqT K H' t xs := Sub.sqT e h
theorem Ext.sqL {K : PySem.W.Frag} {H H' : Hp} (e : Ext H H') {t : Addr} {xs : List V} (h : SqL K H t xs) : SqL K H' t xs := Sub.sqL e h
theorem Ext.new {H : Hp} {a : Addr} (o : HO) (h : H a = none) : Ext H (upd H a o) := Sub.new o h
/-- pairs of a word and a truth value, or the other way about -/
def it2 (sw : Bool) (p : Str × Bool) : List V := if sw then [.bl p.2, .str p.1] else [.str p.1, .bl p.2]
def PairsAt (K : PySem.W.Frag) (H : Hp) (sw : Bool) (vs : List V) (l : List (Str × Bool)) : Prop := vs.length = l.length ∧ ∀ (i : Nat) (p : Str × Bool), l[i]? = some p → ∃ t : Addr, vs[i]? = some (V.ref t) ∧ SqT K H t (it2 sw p)
theorem PairsAt.mono {K : PySem.W.Frag} {H H' : Hp} {sw : Bool} {vs : List V} {l : List (Str × Bool)} (h : PairsAt K H sw vs l) (e : Ext H H') : PairsAt K H' sw vs l :=
  ⟨h.1, fun i p hi => by
    obtain ⟨t, h1, h2⟩ := h.2 i p hi
    exact ⟨t, h1, e.sqT h2⟩⟩
theorem PairsAt.cons {K : PySem.W.Frag} {H : Hp} {sw : Bool} {vs : List V} {l : List (Str × Bool)} {t : Addr} {p : Str × Bool} (h : PairsAt K H sw vs l) (ht : SqT K H t (it2 sw p)) : PairsAt K H sw (V.ref t :: vs) (p :: l) :=
  ⟨by simp [h.1], fun i q hi => by
    cases i with
    | zero => simp at hi; subst hi; exact ⟨t, rfl, ht⟩
    | succ i => simpa using h.2 i q (by simpa using hi)⟩
/-- where the suite stands: the exception's object at a, of the class at C; what is asked of it -/
structure Su (X : Cx) (a : Addr) (oe : Obj) (C : Addr) (en : Str) (ei : Nat) : Prop where
  pin : (a, oe) ∈ X.pn
  hot : L2H.Hot1 X.A (a, oe)
  isE : CallR X (.builtin "isinstance") (rIsE X.K C a)
  hN : X.N[ei]? = some en
  hv : Vis X.env.scope en
  hd : (en == ("__debug__" : Str)) = false
  hcd : (en == ("__classdict__" : Str)) = false
  hg : Gl X "isinstance"
  hm : X.mg "isinstance" = none
section
variable {X : Cx} {a C : Addr} {oe : Obj} {en : Str} {ei : Nat}
theorem e_isi {cn : Str} {Dt : Addr} {b : Bool} {p3 p4 p5 p6 : Pos} (S : Su X a oe C en ei) (hg : Gl X cn) (hm : X.mg cn = some (.ref Dt)) (hdb : (cn == ("__debug__" : Str)) = false) (hk : PySem.W.kitOne X.K (.ref C) (.ref Dt) = some b)
    (he : starEach [.Name en p4, .Name cn p5] X.env = (false, eval (.Name en p4) X.env) :: starEach [.Name cn p5] X.env) (he2 : starEach [.Name cn p5] X.env = [(false, eval (.Name cn p5) X.env)]) :
    PE X (.Call (.Name "isinstance" p3) [.Name en p4, .Name cn p5] [] p6) (fun σ H Q => σ[ei]? = some (some (.ref a)) ∧ Q (.bl b) H) := by
  refine PE.imp (pe_callB S.isE S.hg S.hm (by first | exact PySem.boot_isinstance | rfl | decide) (pa_cons (pe_var S.hN S.hv S.hd S.hcd) (pa_cons (pe_glob (v := .ref Dt) hg hm rfl hdb) pa_nil he2) he) (by decide) (by decide) he (by rw [he2]; rfl)) fun σ H Q ⟨h1, h2⟩ => ?_
  exact ⟨.ref a, h1, .ref Dt, .ref Dt, b, rfl, fun u r => r, hk, h2⟩
def tPr (K : PySem.W.Frag) (a : Addr) (ei : Nat) (sw : Bool) (l : List (Str × Bool)) : TA := fun σ H Q => σ[ei]? = some (some (.ref a)) ∧ ∀ vs H', Ext H H' → PairsAt K H' sw vs l → Q vs H'
theorem pr_nil {sw : Bool} : PA X [] (tPr X.K a ei sw []) := PA.imp pa_nil fun σ H Q ⟨h1, h2⟩ => h2 [] H (fun _ _ h => h) ⟨rfl, fun i p hi => by simp at hi⟩
theorem pr_cons {w : Str} {b : Bool} {l : List (Str × Bool)} {e1 : Expr} {es : List Expr} {j k} {p1 p2 : Pos} (h1 : PE X e1 (fun σ H Q => σ[ei]? = some (some (.ref a)) ∧ Q (.bl b) H)) (h2 : PA X es (tPr X.K a ei false l))
    (hs1 : starEach [.Constant (.str w) j p1, e1] X.env = (false, eval (.Constant (.str w) j p1) X.env) :: starEach [e1] X.env) (hs2 : starEach [e1] X.env = [(false, eval e1 X.env)])
    (hs : starEach (.Tuple [.Constant (.str w) j p1, e1] k p2 :: es) X.env = (false, eval (.Tuple [.Constant (.str w) j p1, e1] k p2) X.env) :: starEach es X.env) : PA X (.Tuple [.Constant (.str w) j p1, e1] k p2 :: es) (tPr X.K a ei false ((w, b) :: l)) := by
  refine PA.imp (pa_cons (pe_tup (pa_cons pe_str (pa_cons h1 pa_nil hs2) hs1)) h2 hs) fun σ H Q ⟨g1, g2⟩ => ?_
  refine ⟨g1, by show 2 ≤ sizeLine; decide, fun t ht => ⟨g1, fun vs H' e pr => g2 _ _ (fun b o h => e b o (Sub.new _ ht b o h)) (pr.cons (e.sqT (SqT.of upd_same)))⟩⟩
theorem pr_consS {w : Str} {b : Bool} {l : List (Str × Bool)} {e1 : Expr} {es : List Expr} {j k} {p1 p2 : Pos} (h1 : PE X e1 (fun σ H Q => σ[ei]? = some (some (.ref a)) ∧ Q (.bl b) H)) (h2 : PA X es (tPr X.K a ei true l))
    (hs1 : starEach [e1, .Constant (.str w) j p1] X.env = (false, eval e1 X.env) :: starEach [.Constant (.str w) j p1] X.env) (hs2 : starEach [.Constant (.str w) j p1] X.env = [(false, eval (.Constant (.str w) j p1) X.env)])
    (hs : starEach (.Tuple [e1, .Constant (.str w) j p1] k p2 :: es) X.env = (false, eval (.Tuple [e1, .Constant (.str w) j p1] k p2) X.env) :: starEach es X.env) : PA X (.Tuple [e1, .Constant (.str w) j p1] k p2 :: es) (tPr X.K a ei true ((w, b) :: l)) := by
  refine PA.imp (pa_cons (pe_tup (pa_cons h1 (pa_cons pe_str pa_nil hs2) hs1)) h2 hs) fun σ H Q ⟨g1, g2⟩ => ?_
  refine ⟨g1, by show 2 ≤ sizeLine; decide, fun t ht => ⟨g1, fun vs H' e pr => g2 _ _ (fun b o h => e b o (Sub.new _ ht b o h)) (pr.cons (e.sqT (SqT.of upd_same)))⟩⟩
/-- a list of such pairs -/
def tPl (K : PySem.W.Frag) (a : Addr) (ei : Nat) (sw : Bool) (l : List (Str × Bool)) : TE := fun σ H Q => σ[ei]? = some (some (.ref a)) ∧ ∀ x vs H', Ext H H' → SqL K H' x vs → PairsAt K H' sw vs l → Q (.ref x) H'
theorem pl_lst {sw : Bool} {l : List (Str × Bool)} {es : List Expr} {pos : Pos} (h : PA X es (tPr X.K a ei sw l)) (hl : l.length ≤ 1000) : PE X (.List es pos) (tPl X.K a ei sw l) := by
  refine PE.imp (pe_lst h) fun σ H Q ⟨g1, g2⟩ => ⟨g1, fun vs H' e pr => ?_⟩
  have hv : vs.length ≤ sizeLine := by
    rw [pr.1]
    exact Nat.le_of_lt (small1000 hl)
  refine ⟨hv, fun x hx => ?_⟩
  exact g2 x vs _ (fun b o h => Sub.new _ hx b o (e b o h)) (SqL.of upd_same) (pr.mono (Ext.new (HO.lst vs) hx))
/-- the words of those that hold -/
def wordsOf (l : List (Str × Bool)) : List Str := (l.filter (·.2)).map (·.1)
def tWs (K : PySem.W.Frag) (te : TE) (sw : Bool) (l : List (Str × Bool)) : TE := fun σ H Q => te σ H fun x H1 => ∃ a vs, x = .ref a ∧ SqL K H1 a vs ∧ PairsAt K H1 sw vs l ∧ ∀ D H', Ext H1 H' → H' D = some (.lst ((wordsOf l).map V.str)) → Q (.ref D) H'
theorem take_words (l : List (Str × Bool)) (i : Nat) (p : Str × Bool) (h : l[i]? = some p) : wordsOf (l.take (i + 1)) = if p.2 then wordsOf (l.take i) ++ [p.1] else wordsOf (l.take i) := by
  unfold wordsOf
  rw [List.take_add_one, h]
  cases hp : p.2 <;> simp [List.filter_append, hp]
theorem _root_.L2.PE.impI {X : Cx} {e : Expr} {t t' : TE} (h : PE X e t) (i : ∀ σ H Q, σ.length = X.N.length → t' σ H Q → t σ H Q) : PE X e t' := ⟨fun pins s σ H Q I q => h.run pins s σ H Q I (i σ H Q I.len q)⟩
theorem e_words {te : TE} {iter : Expr} {x y n1 n2 : Str} {wi fi i1 i2 : Nat} {sw : Bool} {l : List (Str × Bool)} {scope : Scope} {k} {pos q1 q2 q3 q4 tpos : Pos} (S : Su X a oe C en ei) (hi : PE X iter te) (hmono : ∀ σ H (Q Q' : VK), (∀ x H, Q x H → Q' x H) → te σ H Q → te σ H Q') (hl : l.length ≤ 1000) (hN : X.N.Nodup) (ok : BlkOk X.N X.env.scope scope [(x, wi), (y, fi)]) (hwf : wi ≠ fi) (hwn : wi < X.N.length) (hfn : fi < X.N.length)
    (hsw : (i1, i2) = if sw then (fi, wi) else (wi, fi))
    (hg : ∀ (s : Shared) (H : Hp) (C : Addr) (cl : List (Str × Addr)) (fp : List Addr), PGs (X.blk s H scope (compEnvC scope cl C X.env) fp) [.Name n1 q1, .Name n2 q2] (gCons (gName i1) (gCons (gName i2) gNil)))
    (ht : ∀ (s : Shared) (H : Hp) (C : Addr) (cl : List (Str × Addr)) (fp : List Addr), PT (X.blk s H scope (compEnvC scope cl C X.env) fp) (.Name y q3) (tB (tVar fi)))
    (he : ∀ (s : Shared) (H : Hp) (C : Addr) (cl : List (Str × Addr)) (fp : List Addr), PE (X.blk s H scope (compEnvC scope cl C X.env) fp) (.Name x q4) (tVar wi))
    (hn : ∀ (C : Addr) (cl : List (Str × Addr)), (assignEach [.Name n1 q1, .Name n2 q2] (compEnvC scope cl C X.env)).length = 2) (hst : ∀ (C : Addr) (cl : List (Str × Addr)), (assignEach [.Name n1 q1, .Name n2 q2] (compEnvC scope cl C X.env)).findIdx? (·.1) = none)
    (hs : ∀ x, foldedSetIterable iter X.env x = pure x) :
    PE X (.ListComp (.Name x q4) [⟨.Tuple [.Name n1 q1, .Name n2 q2] k tpos, iter, [.Name y q3], 0⟩] scope pos) (tWs X.K te sw l) := by
  refine PE.impI (ViHot.pe_lcH S.hot S.pin hN hi ok hg (fun s H C cl fp => pts_one (ht s H C cl fp)) he hn hst hs) fun σ H Q hσ h => ?_
  have h : te σ H (fun x H1 => ∃ a vs, x = .ref a ∧ SqL X.K H1 a vs ∧ PairsAt X.K H1 sw vs l ∧ ∀ D H', Ext H1 H' → H' D = some (.lst ((wordsOf l).map V.str)) → Q (.ref D) H') := h
  refine hmono σ H _ _ ?_ h
  intro x H1 hh
  obtain ⟨L, vs, e1, hq, hp, fin⟩ := hh
  refine ⟨L, vs, e1, hq, fun D hD => ⟨fun i H' => Ext H1 H' ∧ H' D = some (.lst ((wordsOf (l.take i)).map V.str)), ⟨Ext.new _ hD, upd_same⟩, fun i H' ⟨ex, eD⟩ => ⟨ex.sqL hq, fun hi => ?_, fun v hv => ?_⟩⟩⟩
  · rw [hp.1] at hi
    rw [List.take_of_length_le hi] at eD
    exact fin D H' ex eD
  · have hil : i < vs.length := (List.getElem?_eq_some_iff.mp hv).1
    have hil2 : i < l.length := by rw [← hp.1]; exact hil
    obtain ⟨t, h1, h2⟩ := hp.2 i l[i] (List.getElem?_eq_getElem hil2)
    rw [hv] at h1
    cases h1
    have hlw : (L2.wipe σ [wi, fi]).length = X.N.length := by rw [wipe_length]; exact hσ
    have hwl : ((wordsOf (l.take i)).map V.str).length < sizeLine := by
      rw [List.length_map]
      unfold wordsOf
      rw [List.length_map]
      refine small1000 (Nat.le_trans (List.length_filter_le _ _) ?_)
      rw [List.length_take]
      omega
    have step : ∀ (σ2 : L2.St), σ2.length = X.N.length → L2.wipe σ2 [wi, fi] = L2.wipe σ [wi, fi] → σ2[wi]? = some (some (.str l[i].1)) → σ2[fi]? = some (some (.bl l[i].2)) →
        L2.wipe σ2 [wi, fi] = L2.wipe σ [wi, fi] ∧ tB (tVar fi) σ2 H' fun b H3 => if b = true then tVar wi σ2 H3 fun y H4 => ∃ acc, H4 D = some (.lst acc) ∧ acc.length < sizeLine ∧ (Ext H1 (upd H4 D (.lst (acc ++ [y]))) ∧ (upd H4 D (.lst (acc ++ [y]))) D = some (.lst ((wordsOf (l.take (i + 1))).map V.str))) else (Ext H1 H3 ∧ H3 D = some (.lst ((wordsOf (l.take (i + 1))).map V.str))) := fun σ2 hl2 hw s1 s2 => by
      refine ⟨hw, _, s2, l[i].2, rfl, ?_⟩
      have tw := take_words l i l[i] (List.getElem?_eq_getElem hil2)
      cases hb : l[i].2 with
      | false =>
        rw [hb, if_neg Bool.false_ne_true] at tw
        dsimp only
        rw [if_neg Bool.false_ne_true, tw]
        exact ⟨ex, eD⟩
      | true =>
        rw [hb, if_pos rfl] at tw
        dsimp only
        rw [if_pos rfl, tw]
        refine ⟨_, s1, _, eD, hwl, fun b o hbo => ?_, ?_⟩
        · rw [upd_ne (ne_of_none hbo hD)]
          exact ex b o hbo
        · rw [upd_same, List.map_append]
          rfl
    have len2 : ∀ (p q : Option V) (i j : Nat), (((L2.wipe σ [wi, fi]).set i p).set j q).length = X.N.length := fun p q i j => by rw [List.length_set, List.length_set]; exact hlw
    have w2 : ∀ (p q : Option V) (i j : Nat), i ∈ [wi, fi] → j ∈ [wi, fi] → L2.wipe (((L2.wipe σ [wi, fi]).set i p).set j q) [wi, fi] = L2.wipe σ [wi, fi] := fun p q i j h1 h2 => by
      rw [wipe_put h2, wipe_put h1, wipe_idem _ _ fun i hi => hi]
    cases sw with
    | false =>
      cases hsw
      refine ⟨t, _, rfl, ex.sqT h2, rfl, _, _, rfl, _, _, rfl, rfl, step _ (len2 _ _ _ _) (w2 _ _ _ _ (by simp) (by simp)) ?_ ?_⟩
      · rw [List.getElem?_set_ne (Ne.symm hwf)]
        exact List.getElem?_set_self (Nat.lt_of_lt_of_eq hwn hlw.symm)
      · exact List.getElem?_set_self (by rw [List.length_set]; exact Nat.lt_of_lt_of_eq hfn hlw.symm)
    | true =>
      cases hsw
      refine ⟨t, _, rfl, ex.sqT h2, rfl, _, _, rfl, _, _, rfl, rfl, step _ (len2 _ _ _ _) (w2 _ _ _ _ (by simp) (by simp)) ?_ ?_⟩
      · exact List.getElem?_set_self (by rw [List.length_set]; exact Nat.lt_of_lt_of_eq hwn hlw.symm)
      · rw [List.getElem?_set_ne hwf]
        exact List.getElem?_set_self (Nat.lt_of_lt_of_eq hfn hlw.symm)
end
theorem words_le (k : Nat) : ∀ l : List (Str × Bool), ((wordsOf l).map (·.length)).sum + (wordsOf l).length * k ≤ (l.map fun p => p.1.length + k).sum
  | [] => by simp [wordsOf]
  | p :: l => by
    have ih := words_le k l
    unfold wordsOf at ih ⊢
    cases hp : p.2 with
    | false =>
      rw [List.filter_cons_of_neg (by simp [hp]), List.map_cons, List.sum_cons]
      omega
    | true =>
      rw [List.filter_cons_of_pos (by simp [hp])]
      simp only [List.map_cons, List.sum_cons, List.length_cons, Nat.add_mul, Nat.one_mul] at ih ⊢
      omega
/-- by the exception's class -/
theorem su_go {X : Cx} {R : Rc} {pg : Pg} {n ei : Nat} {ae : Addr} {cls : Value} {d : Option Addr} {sts : List Stmt} (h : ∀ c C st, R.cad c = some C → cls = .ref C → d = none → pg.hd c .non = some st → PSs X sts (fun D σ H => σ.length = n ∧ σ[ei]? = some (some (.ref ae)) ∧ ∀ H', Ext H H' → D.rt (.str st) H')) : PSs X sts (tSuite R pg n ei ae cls d) :=
  ⟨fun pins s σ H D I ⟨c, C, st, h1, h2, h3, h4, h5, h6, h7⟩ => (h c C st h1 h2 h3 h4).run pins s σ H D I ⟨h5, h6, h7⟩⟩
theorem su_mk {X : Cx} {ae C : Addr} {oe : Obj} {pn : List (Addr × Obj)} {en : Str} {ei : Nat} (E : ExcC X.K C) (hz : L2N.Zn (.ref C) none oe) (hf : ∃ vs, oe.data = .fields vs) (hN : X.N[ei]? = some en) (hv : Vis X.env.scope en) (hd : (en == ("__debug__" : Str)) = false) (hcd : (en == ("__classdict__" : Str)) = false) (hg : Gl X "isinstance") (hm : X.mg "isinstance" = none) : Su (X.suite ae ((ae, oe) :: pn)) ae oe C en ei where
  pin := List.mem_cons_self
  hot := by
    obtain ⟨vs, e⟩ := hf
    exact ⟨rfl, vs, e, hz.2.2 vs e⟩
  isE := call_isE E hz.zc hf
  hN := hN
  hv := hv
  hd := hd
  hcd := hcd
  hg := hg
  hm := hm
theorem var_mono {i : Nat} : ∀ (σ : L2.St) (H : Hp) (Q Q' : VK), (∀ x H, Q x H → Q' x H) → tVar i σ H Q → tVar i σ H Q' := fun σ H Q Q' h ⟨v, e, q⟩ => ⟨v, e, h v H q⟩
/-- v = [pairs]; return sep.join([.. for .. in v if ..]) -/
theorem su_v1 {X : Cx} {ae : Addr} {ei vi n : Nat} {sw : Bool} {l : List (Str × Bool)} {sep : Str} {st1 : Stmt} {rv : Expr} {pos : Pos} (h1 : PS X st1 (tAsg (tPl X.K ae ei sw l) (gName vi)))
    (h2 : PE X rv (tM1 (fun x xs H Q => ∃ a p, ∃ ys : List Str, x = .str a ∧ xs = [.ref p] ∧ (SqL X.K H p (ys.map V.str) ∨ SqT X.K H p (ys.map V.str)) ∧ (ys.map (·.length)).sum + ys.length * a.length ≤ 16777216 ∧ Q (.str (Txt.join a ys)) H) (tC (.str sep)) (tWs X.K (tVar vi) sw l)))
    (hv : vi < n) (hz : ((wordsOf l).map (·.length)).sum + (wordsOf l).length * sep.length ≤ 16777216) :
    PSs X [st1, .Return (some rv) pos] (fun D σ H => σ.length = n ∧ σ[ei]? = some (some (.ref ae)) ∧ ∀ H', Ext H H' → D.rt (.str (Txt.join sep (wordsOf l))) H') :=
  PSs.imp (pss_cons h1 (pss_one (ps_ret h2))) fun D σ H ⟨hl, hs, hq⟩ =>
    ⟨hs, fun x vs H' e sq pr => ⟨⟨sep, rfl⟩, .ref x, List.getElem?_set_self (by rw [hl]; exact hv), x, vs, rfl, sq, pr, fun D' H'' e2 eD => ⟨sep, D', wordsOf l, rfl, rfl, .inl (.inl (.inl eD)), hz, hq H'' fun b o h => e2 b o (e b o h)⟩⟩⟩
end Vi
/-! Vi, more suites of the def that tries. -/
namespace Vi
open PySem PySem.Spec PyProof.Rows L2
section
variable {X : Cx} {a C : Addr} {oe : Obj} {en : Str} {ei vi n : Nat} {sw : Bool} {l l2 : List (Str × Bool)}
/-- within the suite: the list of pairs stands at vi -/
def Sp2 (K : PySem.W.Frag) (a : Addr) (ei vi n : Nat) (sw : Bool) (l : List (Str × Bool)) (H0 : Hp) (σ : L2.St) (H : Hp) : Prop :=
  σ.length = n ∧ σ[ei]? = some (some (.ref a)) ∧ Ext H0 H ∧ ∃ L vs, σ[vi]? = some (some (.ref L)) ∧ H L = some (.lst vs) ∧ H0 L = none ∧ PairsAt K H sw vs l
def tTr (K : PySem.W.Frag) (a : Addr) (ei vi n : Nat) (sw : Bool) (l l2 : List (Str × Bool)) : TS := fun D σ H => ∃ H0, Sp2 K a ei vi n sw l H0 σ H ∧ ∀ σ' H', Sp2 K a ei vi n sw l2 H0 σ' H' → D.nx σ' H'
def tTr0 (K : PySem.W.Frag) (a : Addr) (ei vi n : Nat) (sw : Bool) (l : List (Str × Bool)) : TS := fun D σ H => (σ.length = n ∧ σ[ei]? = some (some (.ref a))) ∧ ∀ σ' H', Sp2 K a ei vi n sw l H σ' H' → D.nx σ' H'
theorem Ext.nil {H H' : Hp} (e : Ext H H') {x : Addr} (h : H' x = none) : H x = none := by
  cases q : H x with
  | none => rfl
  | some o => rw [e x o q] at h; cases h
theorem PairsAt.app {K : PySem.W.Frag} {H : Hp} {vs ws : List V} (h : PairsAt K H sw vs l) (h2 : PairsAt K H sw ws l2) : PairsAt K H sw (vs ++ ws) (l ++ l2) := by
  refine ⟨by rw [List.length_append, List.length_append, h.1, h2.1], fun i p hi => ?_⟩
  by_cases hl : i < l.length
  · rw [List.getElem?_append_left hl] at hi
    obtain ⟨t, h1, h3⟩ := h.2 i p hi
    exact ⟨t, by rw [List.getElem?_append_left (by rw [h.1]; exact hl)]; exact h1, h3⟩
  · rw [List.getElem?_append_right (by omega)] at hi
    obtain ⟨t, h1, h3⟩ := h2.2 _ p hi
    exact ⟨t, by rw [List.getElem?_append_right (by rw [h.1]; omega), h.1]; exact h1, h3⟩
/-- v = [pairs] -/
theorem tr_set {v : Str} {es : List Expr} {pos pos' : Pos} (hei : ei ≠ vi) (hvn : vi < n) (hN : X.N.Nodup) (hi : X.N[vi]? = some v) (hx : Loc X.env.scope v) (h : PA X es (tPr X.K a ei sw l)) (hl : l.length ≤ 1000) (hs : swapsWith (.List es pos') (some (.Name v pos)) pos.line X.env = pure false) (hf : X.fn v = true ∨ X.env.scope.names.lookup v = some .local) (hp : swapsWith (.List es pos') (some (.Name v pos)) pos'.line X.env = pure false) {spos : Pos} (hs' : swapsWith (.List es pos') (some (.Name v pos)) spos.line X.env = pure false) :
    PS X (.Assign [.Name v pos] (.List es pos') spos) (tTr0 X.K a ei vi n sw l) := by
  refine PS.imp (ps_set hN hi hx (pe_lst h) hs' hf) fun D σ H ⟨⟨g1, g2⟩, q⟩ => ?_
  refine ⟨g2, fun vs H' e pr => ?_⟩
  have hv : vs.length ≤ sizeLine := by
    rw [pr.1]
    exact Nat.le_of_lt (small1000 hl)
  refine ⟨hv, fun x hx => q _ _ ⟨by rw [List.length_set]; exact g1, by rw [List.getElem?_set_ne (Ne.symm hei)]; exact g2, fun b o h => Sub.new _ hx b o (e b o h), x, vs, List.getElem?_set_self (by rw [g1]; exact hvn), upd_same, e.nil hx, pr.mono (Ext.new (HO.lst vs) hx)⟩⟩
/-- v = v + [pairs] -/
theorem tr_cat {v : Str} {es : List Expr} {p0 pos pos' pb : Pos} (hei : ei ≠ vi) (hvn : vi < n) (hN : X.N.Nodup) (hi : X.N[vi]? = some v) (hx : Loc X.env.scope v) (hd : (v == ("__debug__" : Str)) = false) (hcd : (v == ("__classdict__" : Str)) = false) (h : PA X es (tPr X.K a ei sw l2)) (hl : l2.length ≤ 1000) (hll : l.length ≤ 1000) {spos : Pos}
    (hs' : swapsWith (.BinOp (.Name v p0) .Add (.List es pos') pb) (some (.Name v pos)) spos.line X.env = pure false) (hf : X.fn v = true ∨ X.env.scope.names.lookup v = some .local) :
    PS X (.Assign [.Name v pos] (.BinOp (.Name v p0) .Add (.List es pos') pb) spos) (tTr X.K a ei vi n sw l (l ++ l2)) := by
  have hv : Vis X.env.scope v := hx.elim .inl (fun h => .inr (.inl h))
  refine PS.imp (ps_set hN hi hx (pe_op op_cat (pe_var hi hv hd hcd) (pe_lst h)) hs' hf) fun D σ H ⟨H0, ⟨g1, g2, g3, L, vs, g4, g5, g6, g7⟩, q⟩ => ?_
  refine ⟨.ref L, g4, g2, fun ws H' e pr => ?_⟩
  have hw : ws.length ≤ sizeLine := by
    rw [pr.1]
    exact Nat.le_of_lt (small1000 hl)
  refine ⟨hw, fun x hx => ⟨L, x, vs, ws, rfl, rfl, Sub.new _ hx L _ (e L _ g5), upd_same, ?_, fun y hy => q _ _ ⟨by rw [List.length_set]; exact g1, by rw [List.getElem?_set_ne (Ne.symm hei)]; exact g2, fun b o h => ?_, y, vs ++ ws, List.getElem?_set_self (by rw [g1]; exact hvn), upd_same, ?_, ?_⟩⟩⟩
  · rw [pr.1, g7.1]
    have : (sizeLine : Nat) = 16777216 := sizeLine_eq
    omega
  · exact Sub.new _ hy b o (Sub.new _ hx b o (e b o (g3 b o h)))
  · exact g3.nil (e.nil (Ext.nil (Ext.new (HO.lst ws) hx) hy))
  · exact ((g7.mono e).mono (Ext.new (HO.lst ws) hx)).mono (Ext.new _ hy) |>.app (((pr.mono (Ext.new (HO.lst ws) hx))).mono (Ext.new _ hy))
/-- if isinstance(e, ..): what is never reached -/
theorem tr_ifno {c : Expr} {body : List Stmt} {pos : Pos} (hc : PT X c (tB fun σ H Q => σ[ei]? = some (some (.ref a)) ∧ Q (.bl false) H)) : PS X (.If c body [] pos) (tTr X.K a ei vi n sw l l) := by
  refine PS.imp (ps_if hc pss_never pss_nil) fun D σ H ⟨H0, g, q⟩ => ?_
  refine ⟨g.2.1, false, rfl, ?_⟩
  dsimp only
  rw [if_neg Bool.false_ne_true]
  exact q σ H g
def tEnd (K : PySem.W.Frag) (a : Addr) (ei vi n : Nat) (sw : Bool) (l : List (Str × Bool)) (s : Str) : TS := fun D σ H => ∃ H0, Sp2 K a ei vi n sw l H0 σ H ∧ ∀ H', Ext H0 H' → D.rt (.str s) H'
theorem tr_first {st : Stmt} {rest : List Stmt} {s : Str} (h1 : PS X st (tTr0 X.K a ei vi n sw l)) (h2 : PSs X rest (tEnd X.K a ei vi n sw l s)) : PSs X (st :: rest) (fun D σ H => σ.length = n ∧ σ[ei]? = some (some (.ref a)) ∧ ∀ H', Ext H H' → D.rt (.str s) H') :=
  PSs.imp (pss_cons h1 h2) fun D σ H ⟨g1, g2, q⟩ => ⟨⟨g1, g2⟩, fun σ' H' g => ⟨H, g, q⟩⟩
theorem tr_next {st : Stmt} {rest : List Stmt} {s : Str} (h1 : PS X st (tTr X.K a ei vi n sw l l2)) (h2 : PSs X rest (tEnd X.K a ei vi n sw l2 s)) : PSs X (st :: rest) (tEnd X.K a ei vi n sw l s) :=
  PSs.imp (pss_cons h1 h2) fun D σ H ⟨H0, g, q⟩ => ⟨H0, g, fun σ' H' g' => ⟨H0, g', q⟩⟩
/-- return sep.join([..]) -/
theorem tr_ret {rv : Expr} {pos : Pos} {sep : Str} (h2 : PE X rv (tM1 (fun x xs H Q => ∃ a p, ∃ ys : List Str, x = .str a ∧ xs = [.ref p] ∧ (SqL X.K H p (ys.map V.str) ∨ SqT X.K H p (ys.map V.str)) ∧ (ys.map (·.length)).sum + ys.length * a.length ≤ 16777216 ∧ Q (.str (Txt.join a ys)) H) (tC (.str sep)) (tWs X.K (tVar vi) sw l)))
    (hz : ((wordsOf l).map (·.length)).sum + (wordsOf l).length * sep.length ≤ 16777216) : PSs X [.Return (some rv) pos] (tEnd X.K a ei vi n sw l (Txt.join sep (wordsOf l))) :=
  PSs.imp (pss_one (ps_ret h2)) fun D σ H ⟨H0, ⟨g1, g2, g3, L, vs, g4, g5, g6, g7⟩, q⟩ =>
    ⟨⟨sep, rfl⟩, .ref L, g4, L, vs, rfl, SqL.of g5, g7, fun D' H'' e2 eD => ⟨sep, D', wordsOf l, rfl, rfl, .inl (.inl (.inl eD)), hz, q H'' fun b o h => e2 b o (g3 b o h)⟩⟩
/-- v.append((word, truth)) -/
theorem tr_app {v w : Str} {e1 e2 : Expr} {b : Bool} {k : Nat} {p1 p2 p3 pt pos : Pos} (hi : X.N[vi]? = some v) (hv : Vis X.env.scope v) (hd : (v == ("__debug__" : Str)) = false) (hcd : (v == ("__classdict__" : Str)) = false)
    (h1 : PE X e1 (fun σ H Q => σ[ei]? = some (some (.ref a)) ∧ Q (.str w) H)) (h2 : PE X e2 (fun σ H Q => σ[ei]? = some (some (.ref a)) ∧ Q (.bl b) H)) (hll : l.length < 1000)
    (hs1 : starEach [e1, e2] X.env = (false, eval e1 X.env) :: starEach [e2] X.env) (hs2 : starEach [e2] X.env = (false, eval e2 X.env) :: starEach [] X.env)
    (hbase : attributeBase (.Name v p1) "append" X.env (eval (.Name v p1) X.env) = eval (.Name v p1) X.env)
    (hfew : ((backTo p3 (starEach [.Tuple [e1, e2] k pt] X.env)).all (fun x => !x.1) && (backToKw p3 (keywordEach [] X.env)).all (fun x => x.1.isSome)
      && decide (([.Tuple [e1, e2] k pt] : List Expr).length + ([] : List Keyword).length + (if ([] : List Keyword).isEmpty then 0 else 1) < 30)) = true)
    (hline : (p2.endLine == p3.line) = true) (hs : starEach [.Tuple [e1, e2] k pt] X.env = (false, eval (.Tuple [e1, e2] k pt) X.env) :: starEach [] X.env)
    (hsw : swapsWith (.Call (.Attribute (.Name v p1) "append" p2) [.Tuple [e1, e2] k pt] [] p3) none pos.line X.env = pure false) :
    PS X (.Expr (.Call (.Attribute (.Name v p1) "append" p2) [.Tuple [e1, e2] k pt] [] p3) pos) (tTr X.K a ei vi n false l (l ++ [(w, b)])) := by
  refine PS.imp (ps_expr (pe_bm PySem.F.plainAttrs_list PySem.F.slot_list_append PySem.F.type_list_append mt_append (pe_var hi hv hd hcd) (pa_cons (pe_tup (pa_cons h1 (pa_cons h2 pa_nil hs2) hs1)) pa_nil hs) hbase hfew hline hs (by rfl)) hsw) fun D σ H ⟨H0, ⟨g1, g2, g3, L, vs, g4, g5, g6, g7⟩, q⟩ => ?_
  have hsz : vs.length < sizeLine := by
    rw [g7.1]
    exact small1000 (Nat.le_of_lt hll)
  refine ⟨.ref L, g4, .inl ⟨rfl, vs, SqL.of g5⟩, g2, g2, by show 2 ≤ sizeLine; decide, fun t ht => ?_⟩
  have hLt : L ≠ t := ne_of_none g5 ht
  refine ⟨L, vs, .ref t, rfl, rfl, by rw [upd_ne hLt]; exact g5, hsz, q _ _ ⟨g1, g2, fun c o h => ?_, L, _, g4, upd_same, g6, ?_⟩⟩
  · have hc : c ≠ L := fun z => by rw [z, g6] at h; cases h
    rw [upd_ne hc]
    exact Sub.new _ ht c o (g3 c o h)
  · have keep : ∀ {s : Addr} {xs : List V}, s ≠ L → SqT X.K (upd H t (.tup [.str w, .bl b])) s xs → SqT X.K (upd (upd H t (.tup [.str w, .bl b])) L (.lst (vs ++ [.ref t]))) s xs := fun {s xs} hn h => by
      rcases h with (h | ⟨o, h⟩) | h
      · exact .inl (.inl (by rw [upd_ne hn]; exact h))
      · exact .inl (.inr ⟨o, by rw [upd_ne hn]; exact h⟩)
      · exact .inr h
    have nL : ∀ {s : Addr} {xs : List V}, SqT X.K H s xs → s = L → X.K.lookup s ≠ none ∨ False := fun {s xs} h e => by
      subst e
      rcases h with (h | ⟨o, h⟩) | ⟨o, its, m, h, _⟩
      · rw [g5] at h; cases h
      · rw [g5] at h; cases h
      · exact .inl (by rw [h]; simp)
    refine PairsAt.app ⟨g7.1, fun i p hi => ?_⟩ ⟨rfl, fun i p hi => ?_⟩
    · obtain ⟨s, k1, k2⟩ := g7.2 i p hi
      refine ⟨s, k1, ?_⟩
      rcases k2 with k2 | k2
      · have hn : s ≠ L := fun z => by
          subst z
          rcases k2 with k2 | ⟨o, k2⟩ <;> rw [g5] at k2 <;> cases k2
        exact keep hn (Ext.sqT (Ext.new _ ht) (.inl k2))
      · exact .inr k2
    · cases i with
      | zero =>
        simp at hi
        subst hi
        exact ⟨t, rfl, keep (Ne.symm hLt) (SqT.of upd_same)⟩
      | succ i => simp at hi
/-- 'many ' + (.. if isinstance(e, ..) else ''), the test false -/
theorem e_many {m : Str} {c e1 : Expr} {j j2 : Nat} {p p2 pi pb : Pos} (hm : m.length ≤ 1000) (hc : PE X c (fun σ H Q => σ[ei]? = some (some (.ref a)) ∧ Q (.bl false) H)) (hcv : ∀ whole, isTrue c X.env whole = (do let v ← whole; standAt c.pos; holding [v] (truthy v))) :
    PE X (.BinOp (.Constant (.str m) j p) .Add (.IfExp c e1 (.Constant (.str "") j2 p2) pi) pb) (fun σ H Q => σ[ei]? = some (some (.ref a)) ∧ Q (.str m) H) := by
  have nv : PE X e1 (fun _ _ _ => False) := ⟨fun _ _ _ _ _ _ h => h.elim⟩
  refine PE.imp (pe_op op_add_str pe_str (pe_ifExp (pt_val hc hcv) nv pe_str)) fun σ H Q ⟨g, q⟩ => ?_
  refine ⟨g, false, rfl, ?_⟩
  dsimp only
  rw [if_neg Bool.false_ne_true]
  refine ⟨m, "", rfl, rfl, ?_, ?_⟩
  · have : (sizeLine : Nat) = 16777216 := sizeLine_eq
    show m.length + 0 ≤ _
    omega
  · have e : m ++ ("" : Str) = m := by
      first | rfl | simp | (cases m; simp; rfl)
    rw [e]
    exact q
end
end Vi
/-! Vi, the end. -/
namespace Vi
open PySem PySem.Spec PyProof.Rows L2
/-- the tables of the text's defs -/
def TabsOf (q : Program) (K : PySem.W.Frag) (h : Heap) : Prop := ∀ (x : Str) (c P : Addr), ((recsOf q).find? (fun e => e.name == x)).isSome = true → PySem.W.tabIn K x = some (c, P) → PySem.W.CodeHd h c P ∧ h.get? P = some { cls := .none, data := .fields #[] }
theorem walk_all {l : PySem.W.OpenLaw} {n k : Nat} {q : Program} {loose : List Str} {XP : (Str → Option Value) → Heap → Prop} {YP : World → Heap → Prop} {d : DefRec} {K : Params → PySem.W.Frag} {CX : World → CXT} {x : Str}
    (hn : l.most = some n) (hn2 : n ≤ sizeLine) (hdf : d.params.defaults = []) (hr : Room k callerA) (hY : ∀ (w : World) (h : Heap), YP w h → (K w.params).In h)
    (F : ∀ (w : World) (mg : Str → Option Value) (fa : Addr) (h : Heap), YP w h → (K w.params).In h → h.Ns mainGlobals mg → mg d.name = some (.ref fa) → TabsOf q (K w.params) h → LamX.LawAtS l w (K w.params) (CX w) k n x mg fa h)
    (hCX : ∀ (w : World) (H : Hp) (s : Shared) (e : Value) (s' : Shared), CX w [] H s (fun _ _ _ => False) e s' → False) :
    PySem.W.WalkO q loose XP YP l.row.toRowW d [] (fun f vs => PySem.call f vs) := by
  refine Att.attach_callB hn hdf fun w s₀ s₁ mg mb fa o pm cd doc a vs ns G Y ho hd hcd hmg hobj hints hlen hbits hg => ?_
  have KX := hY w _ Y
  have own : TabsOf q (K w.params) s₁.heap := fun x c P h1 h2 => by
    obtain ⟨d, h1⟩ := Option.isSome_iff_exists.mp h1
    obtain ⟨g1, g2⟩ := PySem.W.tab_of G.T KX h1 h2
    exact ⟨g1, g2⟩
  obtain ⟨fd, cs, sp, hT, nT, C, hb, hsp, hF⟩ := F w mg fa _ Y KX G.T.g hmg own
  exact LamX.law_callTs KX G.T.g G.T.b G.T.builtins G.T.nolimit hg hT nT C G.T.bmain hobj hints (Nat.le_trans hlen hn2) hr hF hb (fun H hH hS => hsp H a ns hlen hbits hH hS) fun H e s' => hCX w H s₁ e s'
section
variable {Pr : Program} {w : World} {K : PySem.W.Frag} {mg : Str → Option Value} {base : Heap} {R : Rc} {T : List (Addr × Str)} {p : Pg}
/-- the defs of the program, by number -/
abbrev Lv (Pr : Program) (w : World) (K : PySem.W.Frag) (mg : Str → Option Value) (base : Heap) (R : Rc) (T : List (Addr × Str)) (p : Pg) (nm : Nat → Option Str) (n : Nat) : Prop := ∀ i x, nm i = some x → Kn Pr w K mg base R T p n i x
structure Fx (Pr : Program) (w : World) (K : PySem.W.Frag) (mg : Str → Option Value) (base : Heap) (R : Rc) (T : List (Addr × Str)) (p : Pg) (nm : Nat → Option Str) (x : Str) (b : Body) : Prop where
  ex : ∃ (f : Addr) (fd : FuncData) (ps : List Str), mg x = some (.ref f) ∧ PySem.W.keepIn K (.ref f) = true ∧ Binds K fd ps [] ∧ ∀ n, Lv Pr w K mg base R T p nm n → (∀ k, n = k + 2 → Lv Pr w K mg base R T p nm k) → FnOk Pr w K mg base (L2N.CX Pr w) (n + 1) f fd ps (spF R T (runB (dnD p n) b))
theorem kn_all {nm : Nat → Option Str} (h : ∀ i x, nm i = some x → ∃ b, p.body i = some b ∧ Fx Pr w K mg base R T p nm x b) : ∀ n, Lv Pr w K mg base R T p nm n := by
  intro n
  induction n using Nat.strongRecOn with
  | _ n ih =>
    intro i x hi
    obtain ⟨b, hb, hx⟩ := h i x hi
    obtain ⟨f, fd, ps, h1, h2, h3, h4⟩ := hx.ex
    cases n with
    | zero => exact ⟨f, fd, ps, fn_none, h1, h2, h3⟩
    | succ n =>
      refine ⟨f, fd, ps, ?_, h1, h2, h3⟩
      have e : run p (n + 1) i = runB (dnD p n) b := by
        funext vs
        rw [run_succ, hb]
      rw [e]
      exact h4 n (ih n (Nat.lt_succ_self n)) fun k hk => ih k (by omega)
theorem fx_mk {nm : Nat → Option Str} {b : Body} {f : Addr} {x : Str} {st : Stmt} {kV doc pm cdv ct oc : Value} {an od : Option Addr} {osl : Array (Option Value)} {N ps : List Str}
    (lk : K.lookup f = some ⟨oc, od, .func (PySem.W.fnOf x x (defArgs st) (defBody st) (defScope st) .none kV doc pm an cdv ct), osl⟩) (hcd : PySem.W.codeIn K cdv x = true) (hm : mg x = some (.ref f)) (kp : PySem.W.keepIn K (.ref f) = true) (S : FnScope N ps (defScope st)) (hn : b.n = N.length) (hp : b.np = ps.length)
    (hb : ∀ us : List Value, us.length = ps.length → bindArgs (PySem.W.fnOf x x (defArgs st) (defBody st) (defScope st) .none kV doc pm an cdv ct) ⟨us, []⟩ = pure (ps.zip us))
    (hbody : ∀ n, Lv Pr w K mg base R T p nm n → (∀ k, n = k + 2 → Lv Pr w K mg base R T p nm k) → ∀ (A : Around) (outer : List PySem.Env) (s : Shared) (H : Hp) (E : XK) (N0 : En), Room n (A.deeper (envOfC x (defScope st) s.heap.objs.size f cdv)) →
      KSs (cxOf (L2N.CX Pr w) Pr w K mg base N x (defScope st) f cdv A outer s H E) ⟨R, T, N0, E⟩ (dnD p n) (defBody st) b.s) : Fx Pr w K mg base R T p nm x b :=
  ⟨f, _, ps, hm, kp, .all hb, fun n L L2 => fnok lk hcd S hn hp (hbody n L L2)⟩
/-- the law's promise at the script -/
theorem law_sp {cs : List (Addr × Addr)} {H : Hp} {a : Addr} {ns : List Int} {F : List P → M P} (hT : ∀ q ∈ T, ∃ c, (c, q.1) ∈ cs) (hH : ∀ q ∈ cs, H q.2 = some (.tbl #[])) (hS : SqL R.K H a (ns.map V.int)) (hl : ns.length ≤ lim) {S' : Sto} (hF : F [.scr (ns.map P.int)] [] = .ok (.bl true) S') :
    spF R T F [.ref a] H (fun v _ => v = .bl true) fun _ _ _ => False := by
  refine ⟨⟨fun b => match H b with | some (.tbl _) => none | z => z, [], []⟩, [.scr (ns.map P.int)], ⟨fun b o e => ?_, fun b ps e => ?_, rfl, fun i c r e1 _ => (by simp at e1), List.nodup_nil, fun c m => (by cases m), fun q hq => ?_⟩,   .cons (.scr (vs := ns.map V.int) ?_ ?_ (by rw [List.length_map]; exact hl)) .nil, ?_⟩
  · dsimp only at e
    split at e
    · cases e
    · exact e
  · dsimp only at e
    split at e
    · cases e
    · rename_i z
      exact z ps e
  · obtain ⟨c, hc⟩ := hT q hq
    exact LamX.TabS.nil (hH _ hc)
  · rcases hS with (h | ⟨o, h⟩) | h
    · refine .inl (.inl ?_)
      dsimp only
      rw [h]
    · refine .inl (.inr ⟨o, ?_⟩)
      dsimp only
      rw [h]
    · exact .inr h
  · have : ∀ ns : List Int, RpL R (fun b => match H b with | some (.tbl _) => none | z => z) [] (ns.map P.int) (ns.map V.int) := fun ns => by
      induction ns with
      | nil => exact .nil
      | cons z r ih => exact .cons (.int z) ih
    exact this ns
  · show match F [.scr (ns.map P.int)] [] with
      | .ok v S' => _
      | .err e S' => _
      | .no => False
    rw [hF]
    intro x W' H' _ _ r
    cases r
    rfl
end
end Vi
/-! Vi, defs' values. -/
namespace Vi
open PySem PySem.Spec PyProof.Rows L2
section
variable {Pr : Program} {w : World} {K : PySem.W.Frag} {mg : Str → Option Value} {base : Heap} {R : Rc} {T : List (Addr × Str)} {p : Pg}
theorem fv_of {nm : Nat → Option Str} {n : Nat} (L : Lv Pr w K mg base R T p nm n) (hfn : ∀ i f, R.fad i = some f → ∃ x, nm i = some x ∧ mg x = some (.ref f)) : Fv Pr w K mg base R T p n := fun i f hf => by
  obtain ⟨x, h1, h2⟩ := hfn i f hf
  obtain ⟨f', fd, ps, k1, k2, k3, k4⟩ := (L i x h1).ex
  rw [h2] at k2
  cases k2
  exact ⟨fd, ps, k1, k3, k4⟩
/-- a def whose global name is not its own -/
theorem fx_mk2 {nm : Nat → Option Str} {b : Body} {f : Addr} {x y : Str} {st : Stmt} {kV doc pm cdv ct oc : Value} {an od : Option Addr} {osl : Array (Option Value)} {N ps : List Str}
    (lk : K.lookup f = some ⟨oc, od, .func (PySem.W.fnOf y y (defArgs st) (defBody st) (defScope st) .none kV doc pm an cdv ct), osl⟩) (hcd : PySem.W.codeIn K cdv y = true) (hm : mg x = some (.ref f)) (kp : PySem.W.keepIn K (.ref f) = true) (S : FnScope N ps (defScope st)) (hn : b.n = N.length) (hp : b.np = ps.length)
    (hb : ∀ us : List Value, us.length = ps.length → bindArgs (PySem.W.fnOf y y (defArgs st) (defBody st) (defScope st) .none kV doc pm an cdv ct) ⟨us, []⟩ = pure (ps.zip us))
    (hbody : ∀ n, Lv Pr w K mg base R T p nm n → (∀ k, n = k + 2 → Lv Pr w K mg base R T p nm k) → ∀ (A : Around) (outer : List PySem.Env) (s : Shared) (H : Hp) (E : XK) (N0 : En), Room n (A.deeper (envOfC y (defScope st) s.heap.objs.size f cdv)) →
      KSs (cxOf (L2N.CX Pr w) Pr w K mg base N y (defScope st) f cdv A outer s H E) ⟨R, T, N0, E⟩ (dnD p n) (defBody st) b.s) : Fx Pr w K mg base R T p nm x b :=
  ⟨f, _, ps, hm, kp, .all hb, fun n L L2 => fnok lk hcd S hn hp (hbody n L L2)⟩
/-- a def's other name -/
theorem kn_alias {n i : Nat} {x y : Str} {f : Addr} (k : Kn Pr w K mg base R T p n i x) (hx : mg x = some (.ref f)) (hy : mg y = some (.ref f)) : Kn Pr w K mg base R T p n i y := by
  obtain ⟨f', fd, ps, k1, k2, k3, k4⟩ := k.ex
  rw [hx] at k2
  cases k2
  exact ⟨f, fd, ps, k1, hy, k3, k4⟩
end
end Vi
/-! Vi, more of a def's own lists. -/
namespace Vi
open PySem PySem.Spec PyProof.Rows L2
section
variable {X : Cx} {Γ : Wh} {d : Dn} {a b e : Expr} {pos pos' : Pos}
theorem n_cat {ca cb : CP} (ha : KO X Γ d a ca) (hb : KO X Γ d b cb) : KN X Γ d (.BinOp a .Add b pos) (.op .add ca cb) := by
  refine (pe_op op_catR ha hb).imp fun σ H Q ⟨ρ, W, j, h⟩ => ?_
  refine ⟨ρ, W, j, GC.imp (GN.bind (m := denO d ρ ca) h) fun x H1 ⟨p, W1, j1, l1, r1, h1⟩ => ⟨ρ, W1, j1, GC.imp (GN.bind (m := denO d ρ cb) h1) fun y H2 ⟨q, W2, j2, l2, r2, h2⟩ => ?_⟩⟩
  have hD := j2.b.ok.sub
  cases p with
  | lst xs =>
    cases q with
    | lst ys =>
      obtain ⟨A, vs, rfl, ra, la, _⟩ := ((OpV.mono r1 l2).vw j2).lst hD
      obtain ⟨C, ws, rfl, rb, lb, _⟩ := (OpV.vw r2 j2).lst hD
      have h2 : GN Γ ρ σ W2 (M.ofO (if xs.length + ys.length ≤ lim then some (P.lst (xs ++ ys)) else none) W2.S) Q := h2
      by_cases hz : xs.length + ys.length ≤ lim
      · rw [if_pos hz] at h2
        exact ⟨A, C, vs, ws, rfl, rfl, ra, rb, by rw [la.length, lb.length]; exact lim_eq ▸ hz, fun p hp => GN.mk (xs := xs ++ ys) h2 j2 (la.app lb) (by rw [List.length_append]; exact hz) hp⟩
      · rw [if_neg hz] at h2; first | exact (show False from h2).elim | exact (Bool.false_ne_true h2.1).elim
    | _ => first | exact (show False from h2).elim | exact (Bool.false_ne_true h2.1).elim
  | int i =>
    cases q with
    | int k => first | exact (show False from h2).elim | exact (Bool.false_ne_true h2.1).elim
    | _ => first | exact (show False from h2).elim | exact (Bool.false_ne_true h2.1).elim
  | str s =>
    cases q with
    | str t =>
      have h2 : GN Γ ρ σ W2 (M.ofO (if s.length + t.length ≤ lim then some (P.str (s ++ t)) else none) W2.S) Q := h2
      split at h2 <;> first | exact (show False from h2).elim | exact (Bool.false_ne_true h2.1).elim
    | _ => first | exact (show False from h2).elim | exact (Bool.false_ne_true h2.1).elim
  | tup xs =>
    cases q with
    | tup ys =>
      have h2 : GN Γ ρ σ W2 (M.ofO (if xs.length + ys.length ≤ lim then some (P.tup (xs ++ ys)) else none) W2.S) Q := h2
      split at h2 <;> first | exact (show False from h2).elim | exact (Bool.false_ne_true h2.1).elim
    | _ => first | exact (show False from h2).elim | exact (Bool.false_ne_true h2.1).elim
  | _ => first | exact (show False from h2).elim | exact (Bool.false_ne_true h2.1).elim
theorem n_rep {ca cb : CP} (ha : KO X Γ d a ca) (hb : KO X Γ d b cb) : KN X Γ d (.BinOp a .Mult b pos) (.op .mul ca cb) := by
  refine (pe_op op_repR ha hb).imp fun σ H Q ⟨ρ, W, j, h⟩ => ?_
  refine ⟨ρ, W, j, GC.imp (GN.bind (m := denO d ρ ca) h) fun x H1 ⟨p, W1, j1, l1, r1, h1⟩ => ⟨ρ, W1, j1, GC.imp (GN.bind (m := denO d ρ cb) h1) fun y H2 ⟨q, W2, j2, l2, r2, h2⟩ => ?_⟩⟩
  have hD := j2.b.ok.sub
  cases p with
  | lst xs =>
    cases q with
    | int k =>
      obtain ⟨A, vs, rfl, ra, la, _⟩ := ((OpV.mono r1 l2).vw j2).lst hD
      have h2 : GN Γ ρ σ W2 (M.ofO (if xs.length * k.toNat ≤ lim && in63 k then some (P.lst (rep k.toNat xs)) else none) W2.S) Q := h2
      rw [in63_eq, ← Bool.and_assoc] at h2
      by_cases hz : (xs.length * k.toNat ≤ lim && decide (-(2 ^ 63) ≤ k) && decide (k < 2 ^ 63)) = true
      · rw [if_pos hz] at h2
        simp only [Bool.and_eq_true, decide_eq_true_eq] at hz
        exact ⟨A, k, vs, rfl, (OpV.vw r2 j2).toInt, ra, hz.1.2, hz.2, by rw [la.length]; exact lim_eq ▸ hz.1.1, fun p hp => GN.mk (xs := rep k.toNat xs) h2 j2 (la.rep _) (by rw [rep_length]; exact hz.1.1) hp⟩
      · rw [if_neg hz] at h2; first | exact (show False from h2).elim | exact (Bool.false_ne_true h2.1).elim
    | _ => first | exact (show False from h2).elim | exact (Bool.false_ne_true h2.1).elim
  | int i =>
    cases q with
    | int k =>
      have h2 : GN Γ ρ σ W2 (M.ofO (if mulOk i k then some (P.int (i * k)) else none) W2.S) Q := h2
      split at h2 <;> first | exact (show False from h2).elim | exact (Bool.false_ne_true h2.1).elim
    | _ => first | exact (show False from h2).elim | exact (Bool.false_ne_true h2.1).elim
  | tup xs =>
    cases q with
    | int k =>
      have h2 : GN Γ ρ σ W2 (M.ofO (if decide (xs.length * k.toNat ≤ lim) && in63 k then some (P.tup (rep k.toNat xs)) else none) W2.S) Q := h2
      rw [in63_eq, ← Bool.and_assoc] at h2
      split at h2 <;> first | exact (show False from h2).elim | exact (Bool.false_ne_true h2.1).elim
    | _ => first | exact (show False from h2).elim | exact (Bool.false_ne_true h2.1).elim
  | _ => first | exact (show False from h2).elim | exact (Bool.false_ne_true h2.1).elim
/-- x[k] = v, a def's own list -/
theorem z_seti {i : Nat} {x : Str} {k v : Expr} {ck cv : CE} {p1 p2 : Pos} (hN : X.N[i]? = some x) (hvi : Vis X.env.scope x) (hd : (x == ("__debug__" : Str)) = false) (hcd : (x == ("__classdict__" : Str)) = false) (hk : KE X Γ d k ck) (hv : KE X Γ d v cv)
    (ha : ∀ v, assign (.Subscript (.Name x p1) k p2) X.env v = (do
      let ov ← holding [v] (eval (.Name x p1) X.env)
      let iv ← holding [v, ov] (eval k X.env)
      standAt p2
      holding [v, ov, iv] (setItem ov iv v)
      release [v, ov, iv] []))
    (hs : swapsWithSole [.Subscript (.Name x p1) k p2] v pos.line X.env = pure false) (hw : swappedStores [.Subscript (.Name x p1) k p2] v X.env = pure none)
    (h1 : (assignEach [.Subscript (.Name x p1) k p2] X.env).map (·.2) = [assign (.Subscript (.Name x p1) k p2) X.env]) :
    KS X Γ d (.Assign [.Subscript (.Name x p1) k p2] v pos) (.seti i ck cv) := by
  refine (ps_asg hv (pg_sub (pe_var hN hvi hd hcd) hk set_list ha) hs hw h1).imp fun D σ H ⟨ρ, W, j, h⟩ => ?_
  have h : GS Γ W ((match ρ[i]? with
    | some (.own (.lst xs)) => (denE d ρ cv).bind fun v => (denE d ρ ck).bind fun j => match j with
      | .int j => match Vi.ixN xs.length j with
        | some n => M.pure (Fl.nx (ρ.set i (.own (.lst (xs.set n v)))))
        | none => M.no
      | _ => M.no
    | _ => M.no) W.S) D := h
  cases q : ρ[i]? with
  | none => rw [q] at h; exact (show False from h).elim
  | some s =>
    rw [q] at h
    cases s with
    | un => exact (show False from h).elim
    | val v => exact (show False from h).elim
    | own o =>
      cases o with
      | lst xs =>
        refine ⟨ρ, W, j, GC.imp (GS.bind (m := denE d ρ cv) h) fun x H1 ⟨p, W1, j1, l1, r1, h1⟩ => ?_⟩
        obtain ⟨A, e1, _, _, _, _⟩ := j1.own i _ q
        refine ⟨.ref A, e1, ρ, W1, j1, GC.imp (GS.bind (m := denE d ρ ck) h1) fun y H2 ⟨n, W2, j2, l2, r2, h2⟩ => ?_⟩
        obtain ⟨A', e1', _, _, _, z, vs, ha, r0⟩ := j2.own i _ q
        rw [e1] at e1'
        cases e1'
        cases n with
        | int n =>
          cases r2
          have h2 : GS Γ W2 ((match Vi.ixN xs.length n with
            | some n => M.pure (Fl.nx (ρ.set i (.own (.lst (xs.set n p)))))
            | none => M.no) W2.S) D := h2
          cases q3 : Vi.ixN xs.length n with
          | none => rw [q3] at h2; first | exact (show False from h2).elim | exact (Bool.false_ne_true h2.1).elim
          | some m =>
            rw [q3] at h2
            refine ⟨A, vs, n, m, rfl, rfl, ha, by rw [r0.length]; exact q3, ?_⟩
            exact GS.nx h2 (j2.turn q e1 (r0.set (r1.mono l2.1 l2.2) m) (by rw [List.length_set]; exact z))
        | _ => first | exact (show False from h2).elim | exact (Bool.false_ne_true h2.1).elim
      | _ => exact (show False from h).elim
theorem bind_at {α β : Type} {m : M α} {f : α → M β} {S S' : Sto} {a : α} (e : m S = .ok a S') : M.bind m f S = f a S' := by unfold M.bind; rw [e]
theorem bind_er {α β : Type} {m : M α} {f : α → M β} {S S' : Sto} {x : Ex} (e : m S = .err x S') : M.bind m f S = .err x S' := by unfold M.bind; rw [e]
theorem bind_no' {α β : Type} {m : M α} {f : α → M β} {S : Sto} (e : m S = .no) : M.bind m f S = .no := by unfold M.bind; rw [e]
theorem box_is {v : P} (hb : isBox v = true) {α : Type} (f : M α) : (if isBox v then f else M.no) = f := if_pos hb
theorem box_lst (xs : List P) {α : Type} (f : M α) : (if isBox (.lst xs) then f else M.no) = f := if_pos rfl
/-- with more objects that are being made -/
abbrev Wh.os (Γ : Wh) (os : List (Addr × P)) : Wh := { Γ with N := { Γ.N with os := os } }
theorem z_par2o {i j : Nat} {x y : Str} {ca cb : CE} {px py pt : Pos} {kt k2 pt2} (hc : X.calm = true) (hN : X.N.Nodup) (hi : X.N[i]? = some x) (hj : X.N[j]? = some y) (hij : i ≠ j)
    (hx : X.env.scope.names.lookup x = some .local) (hy : X.env.scope.names.lookup y = some .local) (ha : KN X Γ d a ca) (hb : ∀ os, KE X (Γ.os os) d b cb)
    (hs1 : starEach [a, b] X.env = (false, eval a X.env) :: starEach [b] X.env) (hs2 : starEach [b] X.env = (false, eval b X.env) :: starEach [] X.env)
    (hw : swappedStores [.Tuple [.Name x px, .Name y py] kt pt] (.Tuple [a, b] k2 pt2) X.env = pure (some [x, y]))
    (hs : swapsWithSole [.Tuple [.Name x px, .Name y py] kt pt] (.Tuple [a, b] k2 pt2) pos.line X.env = pure false) :
    KS X Γ d (.Assign [.Tuple [.Name x px, .Name y py] kt pt] (.Tuple [a, b] k2 pt2) pos) (.par2 i ca false j cb) := by
  have hb' : PE X b (fun σ H Q => ∃ os, tE (Γ.os os) (fun ρ => denE d ρ cb) σ H Q) := ⟨fun pins s σ H Q I ⟨os, h⟩ => (hb os).run pins s σ H Q I h⟩
  refine (ps_par hc hN hi hj hij hx hy (pa_cons ha (pa_cons hb' pa_nil hs2) hs1) hw hs).imp fun D σ H ⟨ρ, W, jj, h⟩ => ⟨ρ, W, jj, ?_⟩
  have h : GS Γ W (((denE d ρ ca).bind fun v => if isBox v then (denE d ρ cb).bind fun w => M.pure (Fl.nx (put (ρ.set i (.own v)) j w)) else M.no) W.S) D := h
  show GN Γ ρ σ W (denE d ρ ca W.S) _
  cases e : denE d ρ ca W.S with
  | ok v S' =>
    rw [bind_at e] at h
    cases hb : isBox v with
    | true =>
      refine ⟨hb, fun A W1 H1 e1 l1 j1 => ?_⟩
      refine ⟨(A, v) :: Γ.N.os, ρ, W1, j1, ?_⟩
      show GC _ _ _ _ _ (denE d ρ cb W1.S) _
      rw [box_is hb] at h
      rw [e1]
      cases e2 : denE d ρ cb S' with
      | ok w S2 =>
        rw [bind_at e2] at h
        intro y W2 H2 es l2 j2 r2
        exact ⟨.ref A, y, rfl, h _ W2 H2 es (l1.trans l2) ((J.take (N := Γ.N) (i := i) j2).put r2)⟩
      | err x S2 =>
        rw [bind_er e2] at h
        exact fun cv oe W' H' es b r => h cv oe W' H' es ⟨b.ok, b.ge, b.frm, b.newD, b.newι⟩ r
      | no => rw [bind_no' e2] at h; exact h
    | false => rw [if_neg (by rw [hb]; decide)] at h; exact (show False from h).elim
  | err x S' => rw [bind_er e] at h; exact h
  | no => rw [bind_no' e] at h; exact h
theorem z_par2oo {i j : Nat} {x y : Str} {ca cb : CE} {px py pt : Pos} {kt k2 pt2} (hc : X.calm = true) (hN : X.N.Nodup) (hi : X.N[i]? = some x) (hj : X.N[j]? = some y) (hij : i ≠ j)
    (hx : X.env.scope.names.lookup x = some .local) (hy : X.env.scope.names.lookup y = some .local) (ha : KN X Γ d a ca) (hb : ∀ os, KN X (Γ.os os) d b cb)
    (hs1 : starEach [a, b] X.env = (false, eval a X.env) :: starEach [b] X.env) (hs2 : starEach [b] X.env = (false, eval b X.env) :: starEach [] X.env)
    (hw : swappedStores [.Tuple [.Name x px, .Name y py] kt pt] (.Tuple [a, b] k2 pt2) X.env = pure (some [x, y]))
    (hs : swapsWithSole [.Tuple [.Name x px, .Name y py] kt pt] (.Tuple [a, b] k2 pt2) pos.line X.env = pure false) :
    KS X Γ d (.Assign [.Tuple [.Name x px, .Name y py] kt pt] (.Tuple [a, b] k2 pt2) pos) (.par2 i ca true j cb) := by
  have hb' : PE X b (fun σ H Q => ∃ os, tN (Γ.os os) (fun ρ => denE d ρ cb) σ H Q) := ⟨fun pins s σ H Q I ⟨os, h⟩ => (hb os).run pins s σ H Q I h⟩
  refine (ps_par hc hN hi hj hij hx hy (pa_cons ha (pa_cons hb' pa_nil hs2) hs1) hw hs).imp fun D σ H ⟨ρ, W, jj, h⟩ => ⟨ρ, W, jj, ?_⟩
  have h : GS Γ W (((denE d ρ ca).bind fun v => if isBox v then (denE d ρ cb).bind fun w => if isBox w then M.pure (Fl.nx ((ρ.set i (.own v)).set j (.own w))) else M.no else M.no) W.S) D := h
  show GN Γ ρ σ W (denE d ρ ca W.S) _
  cases e : denE d ρ ca W.S with
  | ok v S' =>
    rw [bind_at e] at h
    cases hb : isBox v with
    | true =>
      refine ⟨hb, fun A W1 H1 e1 l1 j1 => ?_⟩
      refine ⟨(A, v) :: Γ.N.os, ρ, W1, j1, ?_⟩
      show GN _ _ _ _ (denE d ρ cb W1.S) _
      rw [box_is hb] at h
      rw [e1]
      cases e2 : denE d ρ cb S' with
      | ok w S2 =>
        rw [bind_at e2] at h
        cases hb2 : isBox w with
        | true =>
          rw [box_is hb2] at h
          refine ⟨hb2, fun C W2 H2 es l2 j2 => ?_⟩
          have j3 := J.take (N := Γ.N) (i := i) (J.take (N := Γ.N.and A v) (i := j) j2)
          rw [List.set_comm _ _ (Ne.symm hij), List.set_comm _ _ (Ne.symm hij)] at j3
          exact ⟨.ref A, .ref C, rfl, h _ W2 H2 es (l1.trans l2) j3⟩
        | false => rw [if_neg (by rw [hb2]; decide)] at h; exact (show False from h).elim
      | err x S2 =>
        rw [bind_er e2] at h
        exact fun cv oe W' H' es b r => h cv oe W' H' es ⟨b.ok, b.ge, b.frm, b.newD, b.newι⟩ r
      | no => rw [bind_no' e2] at h; exact h
    | false => rw [if_neg (by rw [hb]; decide)] at h; exact (show False from h).elim
  | err x S' => rw [bind_er e] at h; exact h
  | no => rw [bind_no' e] at h; exact h
end
end Vi
/-! Vi, the core program computed. -/
namespace Vi
open PySem
def Rs.then {α β : Type} (r : Rs α) (f : α → M β) : Rs β := match r with
  | .ok a S => f a S
  | .err e S => .err e S
  | .no => .no
section
variable {α β : Type}
@[simp] theorem then_ok (a : α) (S : Sto) (f : α → M β) : (Rs.ok a S).then f = f a S := rfl
@[simp] theorem then_err (e : Ex) (S : Sto) (f : α → M β) : (Rs.err e S).then f = .err e S := rfl
@[simp] theorem then_no (f : α → M β) : (Rs.no : Rs α).then f = .no := rfl
@[simp] theorem ap_bind (m : M α) (f : α → M β) (S : Sto) : M.bind m f S = (m S).then f := rfl
@[simp] theorem ap_pure (a : α) (S : Sto) : M.pure a S = .ok a S := rfl
@[simp] theorem ap_no (S : Sto) : (M.no : M α) S = .no := rfl
@[simp] theorem ap_some (a : α) (S : Sto) : M.ofO (some a) S = .ok a S := rfl
@[simp] theorem ap_none (S : Sto) : (M.ofO none : M α) S = .no := rfl
@[simp] theorem ap_ite {c : Prop} [Decidable c] (m m' : M α) (S : Sto) : (if c then m else m') S = if c then m S else m' S := by split <;> rfl
def calmR (r : Rs α) : Rs α := match r with | .ok a S' => .ok a S' | .err _ _ => .no | .no => .no
@[simp] theorem calm_ap (m : M α) (S : Sto) : m.calm S = calmR (m S) := rfl
@[simp] theorem calmR_ok (a : α) (S : Sto) : calmR (.ok a S) = .ok a S := rfl
@[simp] theorem calmR_no : calmR (.no : Rs α) = .no := rfl
end
section
variable (d : Dn) (ρ : Env) (S : Sto)
@[simp] theorem e_var (i) : denE d ρ (.var i) S = M.ofO (get ρ i) S := rfl
@[simp] theorem e_con (v) : denE d ρ (.con v) S = .ok v S := rfl
@[simp] theorem e_glob (v) : denE d ρ (.glob v) S = .ok v S := rfl
@[simp] theorem e_op (o a b) : denE d ρ (.op o a b) S = (denO d ρ a S).then fun x => (denO d ρ b).bind fun y => M.ofO (bop o x y) := rfl
@[simp] theorem e_cmp (o a b) : denE d ρ (.cmp o a b) S = (denO d ρ a S).then fun x => (denO d ρ b).bind fun y => M.ofO ((cop o x y).map .bl) := rfl
@[simp] theorem e_chn (o o' a b c) : denE d ρ (.chn o o' a b c) S = (denE d ρ a S).then fun x => (denE d ρ b).bind fun y => (M.ofO (cop o x y)).bind fun k =>
      if k then (denE d ρ c).bind fun z => M.ofO ((cop o' y z).map .bl) else M.pure (.bl false) := rfl
@[simp] theorem e_neg (a) : denE d ρ (.neg a) S = (denE d ρ a S).then fun
      | .int i => M.pure (.int (-i))
      | _ => M.no := rfl
@[simp] theorem e_not (a) : denE d ρ (.not a) S = (denE d ρ a S).then fun x => M.ofO ((truth x).map fun k => .bl (!k)) := rfl
@[simp] theorem e_and (a b) : denE d ρ (.and a b) S = (denE d ρ a S).then fun
      | .bl true => denE d ρ b
      | .bl false => M.pure (.bl false)
      | _ => M.no := rfl
@[simp] theorem e_or (a b) : denE d ρ (.or a b) S = (denE d ρ a S).then fun
      | .bl true => M.pure (.bl true)
      | .bl false => denE d ρ b
      | _ => M.no := rfl
@[simp] theorem e_ife (t a b) : denE d ρ (.ife t a b) S = (denT d ρ t S).then fun k => if k then denE d ρ a else denE d ρ b := rfl
@[simp] theorem e_tup (es) : denE d ρ (.tup es) S = (denEs d ρ es S).then fun xs => if xs.length ≤ lim then M.pure (.tup xs) else M.no := rfl
@[simp] theorem e_lst (es) : denE d ρ (.lst es) S = (denEs d ρ es S).then fun xs => if xs.length ≤ lim then M.pure (.lst xs) else M.no := rfl
@[simp] theorem e_newref (es) : denE d ρ (.newref es) S = (denEs d ρ es S).then fun xs => if xs.length ≤ lim then newRef xs else M.no := rfl
@[simp] theorem e_call (f es) : denE d ρ (.call f es) S = (denEs d ρ es S).then fun xs => d.F f xs := rfl
@[simp] theorem e_blt (b es) : denE d ρ (.blt b es) S = (denOs d ρ es S).then fun xs => M.ofO (blt d.sub b xs) := rfl
@[simp] theorem e_ix (a i) : denE d ρ (.ix a i) S = (denO d ρ a S).then fun x => (denE d ρ i).bind fun y => index x y := rfl
@[simp] theorem e_rev (a) : denE d ρ (.rev a) S = (denO d ρ a S).then fun x => M.ofO (revP x) := rfl
@[simp] theorem e_slc (a lo hi) : denE d ρ (.slc a lo hi) S = (denO d ρ a S).then fun x => (denCO d ρ lo).bind fun l => (denCO d ρ hi).bind fun h => M.ofO (slice x l h) := rfl
theorem e_lc (own tg it q e) : denE d ρ (.lc own tg it q e) S = if own.any (isOwn ρ) then .no else (denI d ρ it S).then fun xs => ((compL (fun x => (M.ofO (store (wipes ρ own) tg x)).bind fun ρ' =>
      (denQ d ρ' q).bind fun k => if k then (denE d ρ' e).bind fun y => M.pure (some y) else M.pure none) xs).calm).bind fun l => M.pure (.lst l) := by
  show (if own.any (isOwn ρ) then M.no else _) S = _
  split <;> rfl
/-- a comprehension's turn -/
def cmF (d : Dn) (ρ : Env) (tg : Tg) (q : CQ) (e : CE) : P → M (Option P) := fun x => (M.ofO (store ρ tg x)).bind fun ρ' =>
      (denQ d ρ' q).bind fun k => if k then (denE d ρ' e).bind fun y => M.pure (some y) else M.pure none
@[simp] theorem cmF_at (tg : Tg) (q : CQ) (e : CE) (x : P) : cmF d ρ tg q e x S = (M.ofO (store ρ tg x) S).then fun ρ' =>
      (denQ d ρ' q).bind fun k => if k then (denE d ρ' e).bind fun y => M.pure (some y) else M.pure none := rfl
@[simp] theorem e_cmF (own tg it q e) : denE d ρ (.lc own tg it q e) S = if own.any (isOwn ρ) then .no else (denI d ρ it S).then fun xs => ((compL (cmF d (wipes ρ own) tg q e) xs).calm).bind fun l => M.pure (.lst l) := e_lc d ρ S own tg it q e
@[simp] theorem e_told (e) : denE d ρ (.told e) S = d.FC (denE { d with F := d.F2 } (unown ρ) e) S := rfl
@[simp] theorem o_look_ (i) : denO d ρ (.look i) S = M.ofO (getT ρ i) S := rfl
@[simp] theorem o_e_ (e) : denO d ρ (.e e) S = denE d ρ e S := rfl
@[simp] theorem co_non : denCO d ρ .non S = .ok none S := rfl
@[simp] theorem co_som (e) : denCO d ρ (.som e) S = (denE d ρ e S).then fun
      | .int i => M.pure (some i)
      | _ => M.no := rfl
@[simp] theorem es_nil : denEs d ρ .nil S = .ok [] S := rfl
@[simp] theorem es_cons (e es) : denEs d ρ (.cons e es) S = (denE d ρ e S).then fun x => (denEs d ρ es).bind fun xs => M.pure (x :: xs) := rfl
@[simp] theorem os_nil : denOs d ρ .nil S = .ok [] S := rfl
@[simp] theorem os_cons (e es) : denOs d ρ (.cons e es) S = (denO d ρ e S).then fun x => (denOs d ρ es).bind fun xs => M.pure (x :: xs) := rfl
@[simp] theorem i_seq_ (e) : denI d ρ (.seq e) S = (denO d ρ e S).then fun x => M.ofO (items x) := rfl
@[simp] theorem i_rng1_ (a) : denI d ρ (.rng1 a) S = (denE d ρ a S).then fun x => M.ofO (rng1 x) := rfl
@[simp] theorem i_rng2_ (a b) : denI d ρ (.rng2 a b) S = (denE d ρ a S).then fun x => (denE d ρ b).bind fun y => M.ofO (rng2 x y) := rfl
@[simp] theorem i_zip_ (a b) : denI d ρ (.zip a b) S = (denE d ρ a S).then fun x => (denE d ρ b).bind fun y => M.ofO (zipP x y) := rfl
@[simp] theorem q_yes : denQ d ρ .yes S = .ok true S := rfl
@[simp] theorem q_one (t) : denQ d ρ (.one t) S = denT d ρ t S := rfl
@[simp] theorem t_val_ (e) : denT d ρ (.val e) S = (denO d ρ e S).then fun x => M.ofO (truth x) := rfl
@[simp] theorem t_not_ (a) : denT d ρ (.not a) S = (denT d ρ a S).then fun k => M.pure !k := rfl
@[simp] theorem t_and_ (a b) : denT d ρ (.and a b) S = (denT d ρ a S).then fun k => if k then denT d ρ b else M.pure false := rfl
@[simp] theorem t_or_ (a b) : denT d ρ (.or a b) S = (denT d ρ a S).then fun k => if k then M.pure true else denT d ρ b := rfl
@[simp] theorem s_set_ (i e) : denS d (.set i e) ρ S = (denE d ρ e S).then fun v => M.pure (.nx (put ρ i v)) := rfl
@[simp] theorem s_own_ (i e) : denS d (.own i e) ρ S = (denE d ρ e S).then fun v => if isBox v then M.pure (.nx (ρ.set i (.own v))) else M.no := rfl
@[simp] theorem s_par_ (is es) : denS d (.par is es) ρ S = (denEs d ρ es S).then fun vs => (M.ofO (puts ρ is vs)).bind fun ρ' => M.pure (.nx ρ') := rfl
@[simp] theorem s_drop_ (e) : denS d (.drop e) ρ S = (denE d ρ e S).then fun _ => M.pure (.nx ρ) := rfl
@[simp] theorem s_ife_ (t a b) : denS d (.ife t a b) ρ S = (denT d ρ t S).then fun k => if k then denS d a ρ else denS d b ρ := rfl
/-- a loop's turn -/
def frF (d : Dn) (tg : Tg) (body : CS) : P → Env → M Fl := fun x ρ => (M.ofO (store ρ tg x)).bind fun ρ' => denS d body ρ'
@[simp] theorem frF_at (tg : Tg) (body : CS) (x : P) : frF d tg body x ρ S = (M.ofO (store ρ tg x) S).then fun ρ' => denS d body ρ' := rfl
@[simp] theorem s_for_ (tg it body) : denS d (.forr tg it body) ρ S = (denI d ρ it S).then fun xs => forF (frF d tg body) xs ρ := rfl
@[simp] theorem s_ret_ (e) : denS d (.ret e) ρ S = (denE d ρ e S).then fun v => M.pure (.rt v) := rfl
@[simp] theorem s_rais_ (c) : denS d (.rais c) ρ S = .err ⟨c, .non⟩ S := rfl
@[simp] theorem s_pas_ : denS d .pas ρ S = .ok (.nx ρ) S := rfl
@[simp] theorem s_seq_ (a b) : denS d (.seq a b) ρ S = (denS d a ρ S).then fun
    | .nx ρ' => denS d b ρ'
    | .rt v => M.pure (.rt v)
    | .bk ρ' => M.pure (.bk ρ')
    | .ct ρ' => M.pure (.ct ρ') := rfl
end
/-- a def's answer -/
theorem run_at (p : Pg) (n f : Nat) (vs : List P) (b : Body) (h : p.body f = some b) : run p (n + 1) f vs = runB (dnD p n) b vs := by
  rw [run_succ, h]
theorem runB_at (d : Dn) (b : Body) (vs : List P) (S : Sto) (h : vs.length = b.np) : runB d b vs S = (denS d b.s (vs.map .val ++ List.replicate (b.n - vs.length) .un) S).then fun
    | .rt v => M.pure v
    | .nx _ => M.pure .non
    | _ => M.no := by
  unfold runB
  rw [if_pos h]
  rfl
/-- a comprehension whose turns leave the store as it is -/
theorem compL_ok {f : P → M (Option P)} {S : Sto} {g : P → Option P} : ∀ {xs : List P}, (∀ x ∈ xs, f x S = .ok (g x) S) → compL f xs S = .ok (xs.filterMap g) S
  | [], _ => rfl
  | x :: xs, h => by
    have h1 := h x (by simp)
    have h2 := compL_ok (fun y hy => h y (by simp [hy]) : ∀ y ∈ xs, f y S = .ok (g y) S)
    show (f x S).then _ = _
    rw [h1]
    show (compL f xs S).then _ = _
    rw [h2]
    cases hg : g x <;> simp [List.filterMap_cons, hg]
@[simp] theorem lim_lit : lim = 16777216 := rfl
/-! what the operators and built-ins say, case by case -/
section
variable (sub : Nat → Nat → Bool) (i j : Int) (a b : Bool) (x y : Str) (xs ys : List P) (p q : P)
@[simp] theorem bop_add : bop .add (.int i) (.int j) = some (.int (i + j)) := rfl
@[simp] theorem bop_cat : bop .add (.lst xs) (.lst ys) = if xs.length + ys.length ≤ lim then some (.lst (xs ++ ys)) else none := rfl
@[simp] theorem bop_catT : bop .add (.tup xs) (.tup ys) = if xs.length + ys.length ≤ lim then some (.tup (xs ++ ys)) else none := rfl
@[simp] theorem bop_sub : bop .sub (.int i) (.int j) = some (.int (i - j)) := rfl
@[simp] theorem bop_mul : bop .mul (.int i) (.int j) = if mulOk i j then some (.int (i * j)) else none := rfl
@[simp] theorem bop_rep : bop .mul (.lst xs) (.int i) = if xs.length * i.toNat ≤ lim && decide (-(2 ^ 63) ≤ i) && decide (i < 2 ^ 63) then some (.lst (rep i.toNat xs)) else none := by show (if _ then _ else _) = _; rw [in63_eq, Bool.and_assoc]
@[simp] theorem bop_repT : bop .mul (.tup xs) (.int i) = if decide (xs.length * i.toNat ≤ lim) && decide (-(2 ^ 63) ≤ i) && decide (i < 2 ^ 63) then some (.tup (rep i.toNat xs)) else none := by show (if _ then _ else _) = _; rw [in63_eq, Bool.and_assoc]
@[simp] theorem bop_fdiv : bop .fdiv (.int i) (.int j) = if decide (0 < j) && decide (j < 1073741824) then some (.int (i / j)) else none := by show (if _ then _ else _) = _; rw [lei_eq, show decide (j ≤ 1073741823) = decide (j < 1073741824) from decide_eq_decide.mpr (by omega)]
@[simp] theorem bop_mod : bop .mod (.int i) (.int j) = if decide (0 < j) then some (.int (i % j)) else none := rfl
@[simp] theorem bop_pow : bop .pow (.int i) (.int j) = if decide (0 ≤ j) && decide (j ≤ 1000000) && decide (i.natAbs < 2 ^ 64) then some (.int (i ^ j.toNat)) else none := by show (if _ then _ else _) = _; rw [lei_eq]
@[simp] theorem bop_band : bop .band (.int i) (.int j) = some (.int (Builtin.bitAnd i j)) := rfl
@[simp] theorem cop_eq : cop .eq p q = if shp 64 p && shp 64 q then some (eqv p q) else none := rfl
@[simp] theorem cop_ne : cop .ne p q = if shp 64 p && shp 64 q then some (!eqv p q) else none := rfl
@[simp] theorem cop_lt : cop .lt (.int i) (.int j) = some (decide (i < j)) := rfl
@[simp] theorem cop_ltT : cop .lt (.tup xs) (.tup ys) = if cmpG (.tup xs) (.tup ys) then some (ltp (.tup xs) (.tup ys)) else none := rfl
@[simp] theorem cop_le : cop .le (.int i) (.int j) = some (decide (i ≤ j)) := rfl
@[simp] theorem cop_gt : cop .gt (.int i) (.int j) = some (decide (j < i)) := rfl
@[simp] theorem cop_ge : cop .ge (.int i) (.int j) = some (decide (j ≤ i)) := rfl
@[simp] theorem cop_is : cop .is p .non = some (isNon p) := by cases p <;> rfl
@[simp] theorem cop_isnot : cop .isnot p .non = some (!isNon p) := by cases p <;> rfl
@[simp] theorem cop_inT : cop .isin p (.tup xs) = if shp 64 p && shps 63 xs then some (xs.any fun z => eqv z p) else none := by cases p <;> rfl
@[simp] theorem cop_inL : cop .isin p (.lst xs) = if shp 64 p && shps 63 xs then some (xs.any fun z => eqv z p) else none := by cases p <;> rfl
@[simp] theorem truth_bl : truth (.bl a) = some a := rfl
@[simp] theorem truth_int : truth (.int i) = some (i != 0) := rfl
@[simp] theorem isNon_non : isNon .non = true := rfl
@[simp] theorem isNon_bl : isNon (.bl a) = false := rfl
@[simp] theorem isNon_int : isNon (.int i) = false := rfl
@[simp] theorem isNon_str : isNon (.str x) = false := rfl
@[simp] theorem isNon_tup : isNon (.tup xs) = false := rfl
@[simp] theorem isNon_lst : isNon (.lst xs) = false := rfl
@[simp] theorem blt_len : blt sub .len [.lst xs] = some (.int xs.length) := rfl
@[simp] theorem blt_lenT : blt sub .len [.tup xs] = some (.int xs.length) := rfl
@[simp] theorem blt_sum : blt sub .sum [.lst xs] = (asInts xs).map fun l => .int l.sum := rfl
@[simp] theorem blt_sumT : blt sub .sum [.tup xs] = (asInts xs).map fun l => .int l.sum := rfl
@[simp] theorem blt_all : blt sub .all [.lst xs] = (asBools xs).map fun l => .bl (l.all id) := rfl
@[simp] theorem blt_abs : blt sub .abs [.int i] = some (.int (if i < 0 then -i else i)) := rfl
@[simp] theorem blt_min : blt sub .min [.int i, .int j] = some (.int (minI i j)) := rfl
@[simp] theorem blt_max : blt sub .max [.int i, .int j] = some (.int (maxI i j)) := rfl
@[simp] theorem blt_int : blt sub .int [.int i] = some (.int i) := rfl
@[simp] theorem blt_intB : blt sub .int [.bl a] = some (.int (if a then 1 else 0)) := rfl
@[simp] theorem blt_tuple : blt sub .tuple [.lst xs] = some (.tup xs) := rfl
@[simp] theorem blt_tupleT : blt sub .tuple [.tup xs] = some (.tup xs) := rfl
@[simp] theorem blt_list : blt sub .list [.lst xs] = some (.lst xs) := rfl
@[simp] theorem blt_listT : blt sub .list [.tup xs] = some (.lst xs) := rfl
@[simp] theorem blt_listS : blt sub .list [.scr xs] = some (.lst xs) := rfl
@[simp] theorem blt_isi (t) : blt sub (.isi t) [p] = (isi sub p t).map .bl := rfl
@[simp] theorem isi_non_int : isi sub .non .int = some false := rfl
@[simp] theorem isi_non_bool : isi sub .non .bool = some false := rfl
@[simp] theorem isi_non_str : isi sub .non .str = some false := rfl
@[simp] theorem isi_non_tuple : isi sub .non .tuple = some false := rfl
@[simp] theorem isi_non_list : isi sub .non .list = some false := rfl
@[simp] theorem isi_bl_int : isi sub (.bl a) .int = some true := rfl
@[simp] theorem isi_bl_bool : isi sub (.bl a) .bool = some true := rfl
@[simp] theorem isi_bl_str : isi sub (.bl a) .str = some false := rfl
@[simp] theorem isi_bl_tuple : isi sub (.bl a) .tuple = some false := rfl
@[simp] theorem isi_bl_list : isi sub (.bl a) .list = some false := rfl
@[simp] theorem isi_int_int : isi sub (.int i) .int = some true := rfl
@[simp] theorem isi_int_bool : isi sub (.int i) .bool = some false := rfl
@[simp] theorem isi_int_str : isi sub (.int i) .str = some false := rfl
@[simp] theorem isi_int_tuple : isi sub (.int i) .tuple = some false := rfl
@[simp] theorem isi_int_list : isi sub (.int i) .list = some false := rfl
@[simp] theorem isi_str_int : isi sub (.str x) .int = some false := rfl
@[simp] theorem isi_str_bool : isi sub (.str x) .bool = some false := rfl
@[simp] theorem isi_str_str : isi sub (.str x) .str = some true := rfl
@[simp] theorem isi_str_tuple : isi sub (.str x) .tuple = some false := rfl
@[simp] theorem isi_str_list : isi sub (.str x) .list = some false := rfl
@[simp] theorem isi_tup_int : isi sub (.tup xs) .int = some false := rfl
@[simp] theorem isi_tup_bool : isi sub (.tup xs) .bool = some false := rfl
@[simp] theorem isi_tup_str : isi sub (.tup xs) .str = some false := rfl
@[simp] theorem isi_tup_tuple : isi sub (.tup xs) .tuple = some true := rfl
@[simp] theorem isi_tup_list : isi sub (.tup xs) .list = some false := rfl
@[simp] theorem isi_lst_int : isi sub (.lst xs) .int = some false := rfl
@[simp] theorem isi_lst_bool : isi sub (.lst xs) .bool = some false := rfl
@[simp] theorem isi_lst_str : isi sub (.lst xs) .str = some false := rfl
@[simp] theorem isi_lst_tuple : isi sub (.lst xs) .tuple = some false := rfl
@[simp] theorem isi_lst_list : isi sub (.lst xs) .list = some true := rfl
@[simp] theorem items_lst : items (.lst xs) = some xs := rfl
@[simp] theorem items_tup : items (.tup xs) = some xs := rfl
@[simp] theorem index_lst : index (.lst xs) (.int i) = M.ofO (atI xs i) := rfl
@[simp] theorem index_tup : index (.tup xs) (.int i) = M.ofO (atI xs i) := rfl
@[simp] theorem index_ref (r : Nat) : index (.ref r) (.int i) = atRef r i := rfl
@[simp] theorem zip_lst : zipP (.lst xs) (.lst ys) = some ((xs.zip ys).map pairP) := rfl
@[simp] theorem zip_tup : zipP (.tup xs) (.tup ys) = some ((xs.zip ys).map pairP) := rfl
@[simp] theorem rng1_int : rng1 (.int i) = if decide (-bigI ≤ i) && decide (i ≤ (lim : Int)) then some (rangeL 0 i.toNat) else none := by show (if _ then _ else _) = _; rw [lei_eq, lei_eq]
@[simp] theorem rng2_int : rng2 (.int i) (.int j) = if decide (-(lim : Int) ≤ i) && decide (i ≤ (lim : Int)) && decide (-(lim : Int) ≤ j) && decide (j - i ≤ (lim : Int)) then some (rangeL i (j - i).toNat) else none := by show (if _ then _ else _) = _; rw [lei_eq, lei_eq, lei_eq, lei_eq]
@[simp] theorem store_n (ρ : Env) (k : Nat) : store ρ (.n k) p = some (put ρ k p) := rfl
@[simp] theorem store_t (ρ : Env) (ks : List Nat) : store ρ (.t ks) (.tup xs) = puts ρ ks xs := rfl
@[simp] theorem wipes_nil (ρ : Env) : wipes ρ [] = ρ := rfl
@[simp] theorem wipes_cons (ρ : Env) (k : Nat) (r : List Nat) : wipes ρ (k :: r) = wipes (ρ.set k .un) r := rfl
@[simp] theorem puts_nil (ρ : Env) : puts ρ [] [] = some ρ := rfl
@[simp] theorem puts_cons (ρ : Env) (k : Nat) (r : List Nat) : puts ρ (k :: r) (p :: xs) = puts (put ρ k p) r xs := rfl
end
section
variable (i j : Int) (a b : Bool) (x y : Str) (xs ys : List P) (p q : P) (n : Nat)
@[simp] theorem eqv_non : eqv .non .non = true := by simp only [eqv]
@[simp] theorem eqv_bl : eqv (.bl a) (.bl b) = (a == b) := by simp only [eqv]
@[simp] theorem eqv_int : eqv (.int i) (.int j) = (i == j) := by simp only [eqv]
@[simp] theorem eqv_str : eqv (.str x) (.str y) = (x == y) := by simp only [eqv]
@[simp] theorem eqv_lst : eqv (.lst xs) (.lst ys) = eqvs xs ys := by simp only [eqv]
@[simp] theorem eqv_tup : eqv (.tup xs) (.tup ys) = eqvs xs ys := by simp only [eqv]
@[simp] theorem eqvs_nil : eqvs [] [] = true := by simp only [eqvs]
@[simp] theorem eqvs_cons : eqvs (p :: xs) (q :: ys) = (eqv p q && eqvs xs ys) := by simp only [eqvs]
@[simp] theorem eqvs_nc : eqvs [] (q :: ys) = false := by simp only [eqvs]
@[simp] theorem eqvs_cn : eqvs (p :: xs) [] = false := by simp only [eqvs]
@[simp] theorem shp_non : shp n .non = true := by simp only [shp]
@[simp] theorem shp_bl : shp n (.bl a) = true := by simp only [shp]
@[simp] theorem shp_int : shp n (.int i) = true := by simp only [shp]
@[simp] theorem shp_str : shp n (.str x) = PyData.strOk x := by simp only [shp]
@[simp] theorem shp_lst : shp (n + 1) (.lst xs) = shps n xs := by simp only [shp]
@[simp] theorem shp_tup : shp (n + 1) (.tup xs) = shps n xs := by simp only [shp]
@[simp] theorem shp_lst64 : shp 64 (.lst xs) = shps 63 xs := shp_lst xs 63
@[simp] theorem shp_tup64 : shp 64 (.tup xs) = shps 63 xs := shp_tup xs 63
@[simp] theorem shps_nil : shps n [] = true := by simp only [shps]
@[simp] theorem shps_cons : shps n (p :: xs) = (shp n p && shps n xs) := by simp only [shps]
end
theorem compL_none {f : P → M (Option P)} {S : Sto} : ∀ {xs : List P}, (∀ x ∈ xs, f x S = .ok none S) → compL f xs S = .ok [] S
  | [], _ => rfl
  | x :: xs, h => by
    have h1 := h x (by simp)
    have h2 := compL_none (fun y hy => h y (by simp [hy]) : ∀ y ∈ xs, f y S = .ok none S)
    show (f x S).then _ = _
    rw [h1]
    show (compL f xs S).then _ = _
    rw [h2]
    rfl
section
variable (d : Dn) (ρ : Env) (S : Sto)
@[simp] theorem s_app_ (i e) : denS d (.app i e) ρ S = match ρ[i]? with
    | some (.own (.lst xs)) => (denE d ρ e S).then fun v => if xs.length < lim then M.pure (.nx (ρ.set i (.own (.lst (xs ++ [v]))))) else M.no
    | _ => .no := by
  show (match ρ[i]? with
    | some (.own (.lst xs)) => (denE d ρ e).bind fun v => if xs.length < lim then M.pure (Fl.nx (ρ.set i (.own (.lst (xs ++ [v]))))) else M.no
    | _ => M.no) S = _
  cases ρ[i]? with
  | none => rfl
  | some s =>
    cases s with
    | own v => cases v <;> rfl
    | _ => rfl
@[simp] theorem s_rseti_ (i k e) : denS d (.rseti i k e) ρ S = match get ρ i with
    | some (.ref r) => (denE d ρ e S).then fun v => (denE d ρ k).bind fun j => match j with
      | .int j => (setRef r j v).bind fun _ => M.pure (.nx ρ)
      | _ => M.no
    | _ => .no := by
  show (match get ρ i with
    | some (.ref r) => (denE d ρ e).bind fun v => (denE d ρ k).bind fun j => match j with
      | .int j => (setRef r j v).bind fun _ => M.pure (Fl.nx ρ)
      | _ => M.no
    | _ => M.no) S = _
  cases get ρ i with
  | none => rfl
  | some v => cases v <;> rfl
@[simp] theorem s_frz_ (i) : denS d (.frz i) ρ S = match ρ[i]? with
    | some (.own (.lst v)) => .ok (Fl.nx (put ρ i (.lst v))) S
    | some (.own _) => .no
    | _ => .ok (Fl.nx ρ) S := by
  show (match ρ[i]? with
    | some (.own (.lst v)) => M.pure (Fl.nx (put ρ i (.lst v)))
    | some (.own _) => M.no
    | _ => M.pure (Fl.nx ρ)) S = _
  cases ρ[i]? with
  | none => rfl
  | some s =>
    cases s with
    | own v => cases v <;> rfl
    | _ => rfl
@[simp] theorem s_frzd_ (i) : denS d (.frzd i) ρ S = match ρ[i]? with
    | some (.own (.dct t ks vs)) => .ok (Fl.nx (put ρ i (.dct t ks vs))) S
    | some (.own _) => .no
    | _ => .ok (Fl.nx ρ) S := by
  show (match ρ[i]? with
    | some (.own (.dct t ks vs)) => M.pure (Fl.nx (put ρ i (.dct t ks vs)))
    | some (.own _) => M.no
    | _ => M.pure (Fl.nx ρ)) S = _
  cases ρ[i]? with
  | none => rfl
  | some s =>
    cases s with
    | own v => cases v <;> rfl
    | _ => rfl
@[simp] theorem s_dput_ (i k e) : denS d (.dput i k e) ρ S = match ρ[i]? with
    | some (.own (.dct t ks vs)) => (denE d ρ e S).then fun v => (denE d ρ k).bind fun k => if dkey t k && decide (ks.length < lim) then M.pure (.nx (ρ.set i (.own (.dct t (dputK k ks) (dputV k v ks vs))))) else M.no
    | _ => .no := by
  show (match ρ[i]? with
    | some (.own (.dct t ks vs)) => (denE d ρ e).bind fun v => (denE d ρ k).bind fun k => if dkey t k && decide (ks.length < lim) then M.pure (Fl.nx (ρ.set i (.own (.dct t (dputK k ks) (dputV k v ks vs))))) else M.no
    | _ => M.no) S = _
  cases ρ[i]? with
  | none => rfl
  | some s =>
    cases s with
    | own v => cases v <;> rfl
    | _ => rfl
@[simp] theorem e_x (o es) : denE d ρ (.x o es) S = (denOs d ρ es S).then fun xs => M.ofO (xop o xs) := rfl
@[simp] theorem e_xm (o a es) : denE d ρ (.xm o a es) S = (denO d ρ a S).then fun x => if xmOk o x then (denOs d ρ es).bind fun xs => M.ofO (xop o (x :: xs)) else M.no := rfl
@[simp] theorem e_callv (a es) : denE d ρ (.callv a es) S = (denE d ρ a S).then fun
      | .fn f => (denEs d ρ es).bind fun xs => d.F f xs
      | _ => M.no := rfl
@[simp] theorem e_newd (t) : denE d ρ (.newd t) S = .ok (.dct t [] []) S := rfl
@[simp] theorem i_x (o es) : denI d ρ (.x o es) S = (denOs d ρ es S).then fun xs => M.ofO (xi o xs) := rfl
@[simp] theorem s_raisv_ (c e) : denS d (.raisv c e) ρ S = (denE d ρ e S).then fun v => fun S => .err ⟨c, v⟩ S := rfl
end
/-- a comprehension whose turns keep what is told of the store -/
theorem compL_inv {f : P → M (Option P)} {I : Sto → Prop} {Q : P → Prop} : ∀ {xs : List P}, (∀ x ∈ xs, ∀ S, I S → ∃ y S', f x S = .ok (some y) S' ∧ I S' ∧ Q y) → ∀ S, I S → ∃ ys S', compL f xs S = .ok ys S' ∧ I S' ∧ ys.length = xs.length ∧ ∀ y ∈ ys, Q y
  | [], _, S, hS => ⟨[], S, rfl, hS, rfl, by simp⟩
  | x :: xs, h, S, hS => by
    obtain ⟨y, S1, e1, h1, q1⟩ := h x (by simp) S hS
    obtain ⟨ys, S2, e2, h2, l2, q2⟩ := compL_inv (fun z hz => h z (by simp [hz]) : ∀ z ∈ xs, ∀ S, I S → ∃ y S', f z S = .ok (some y) S' ∧ I S' ∧ Q y) S1 h1
    refine ⟨y :: ys, S2, ?_, h2, by simp [l2], fun z hz => ?_⟩
    · show (f x S).then _ = _
      rw [e1]
      show (compL f xs S1).then _ = _
      rw [e2]
      rfl
    · rcases List.mem_cons.mp hz with e | hz
      · rw [e]; exact q1
      · exact q2 z hz
theorem runC_err {p : Pg} {m : M P} {S S' : Sto} {e : Ex} {s : Str} (h : m S = .err e S') (h1 : p.sub e.c p.base = true) (h2 : p.hd e.c e.a = some s) : runC p m S = .ok (.str s) S' := by
  unfold runC
  rw [h]
  simp only [h1, h2, if_true]
theorem forF_at (b : P → Env → M Fl) (x : P) (r : List P) (ρ : Env) (S : Sto) : forF b (x :: r) ρ S = (b x ρ S).then fun
      | .nx ρ' => forF b r ρ'
      | .ct ρ' => forF b r ρ'
      | .bk ρ' => M.pure (.nx ρ')
      | .rt v => M.pure (.rt v) := rfl
end Vi
/-! Vi, an exception of an own class with its own __init__, its context told. -/
namespace ViOex
open PySem PySem.Spec PyProof.Rows L2
theorem made {X : Cx} {pins : List (Addr × Obj)} {σ : L2.St} {H1 H2 : Hp} {Q : XK} {hp hp2 h2 : Heap} {g1 g2 : Array GenState} {d1 d2 : Drawn} {t1 t2 : Nat} {os1 os2 : OsState} {a C d : Addr} {fs : List (Str × V)} (T : Raises X (.ref C)) (I1 : Inv X pins σ H1 ⟨hp, g1, d1, t1, os1⟩)
    (ha : hp.objs.size ≤ a) (k : ∀ b o, hp.get? b = some o → hp2.get? b = some o) (un : Un (frs X.stack) [] (upd H1 a (exo a C none)) H2 hp2 h2) (hok : HOk X.prog X.w H2 h2) (ho : os2 = os1) (hb : AllBare g2)
    (ea : H2 a = some (exo a C (some d))) (ed : H2 d = some (exd d fs)) (hd1 : H1 d = none) (q : Q (.ref C) (some d) (upd (del H2 a) d (.xd fs))) : L2N.MkP X pins σ Q (.ref a) ⟨h2, g2, d2, t2, os2⟩ := by
  obtain ⟨t0, G, J, kG, ge, hoe, na⟩ := mk_end0 (d2 := d2) (t2 := t2) I1 ha k un hok ho hb ea ed hd1
  refine ⟨a, _, _, ⟨G, g2, d2, t2, os2⟩, _, .ref C, some d, rfl, J, kG, ge, hoe, ⟨rfl, rfl, fun vs e => ?_⟩, rfl, rfl, na, rfl, hb, T, q⟩
  cases e
  rfl
section
variable {X : Cx} {e : Expr} {es : List Expr} {ta : TA} {p pos : Pos}
theorem make {CX : CXT} {x : Str} {C fI : Addr} {k : Nat} {fd : FuncData} {ps : List Str} {sp : Sp} {ds : List Value} {dvs : List V} (T : OexC X.K C) (iC : PySem.W.findIn X.K (.ref C) "__init__" = some (some (.ref fI))) (tI : PySem.W.typeIn X.K (.ref fI) = some (.type "function"))
    (F1 : FnOk X.prog X.w X.K X.mg X.base CX k fI fd ps sp) (hr : Room (k + 1) X.A) (hb : Binds X.K fd ps ds) (hd : Vals dvs ds) (hx : Passes CX X (fun _ _ _ => False)) (hg : Gl X x) (hm : X.mg x = some (.ref C)) (ha : PA X (e :: es) ta)
    (hdb : (x == ("__debug__" : Str)) = false) (he : starEach (e :: es) X.env = (false, eval e X.env) :: starEach es X.env) (hpl : (backTo pos (starEach es X.env)).any (·.1) = false) :
    L2N.PMk X (.Call (.Name x p) (e :: es) [] pos) (tMkO C sp dvs ta) := by
  intro pins s σ H Q I h
  obtain ⟨nm, q, N, bs, bm, sn, sub, ab, col, dd, k0, k1, k2, k3, k5, hC, hbm⟩ := T.cls
  refine wpAny_Call_Name_kw (ld_glob I hg hm ?_ hdb)
  refine PySem.W.callWith_K (h₀ := X.base) I.ok.mod.kin T.kC (thn (ha.run pos pins s σ H _ I h) fun us s1 ⟨vs, H1, I1, r1, hz, q1⟩ => ⟨I1.kIn, ?_⟩) he hpl
  show wpAny _ _ (call (.ref C) us) _ _ _
  obtain ⟨hp, g, dr, tk, os⟩ := s1
  have hsz : hp.objs.size ≤ hp.objs.size + 1 := Nat.le_succ _
  have hn : H1 (hp.objs.size + 1) = none := I1.hok.fresh hsz
  have hq := q1 (hp.objs.size + 1) hn
  have kk : ∀ b o, hp.get? b = some o → ((hp.push (PySem.W.kdv_tup us)).push (PySem.HandSPX.excO C hp.objs.size)).get? b = some o := fun b o e => Heap.get?_push_of_some _ (Heap.get?_push_of_some _ e)
  have hget : ((hp.push (PySem.W.kdv_tup us)).push (PySem.HandSPX.excO C hp.objs.size)).get? (hp.objs.size + 1) = some (PySem.HandSPX.excO C hp.objs.size) := by heap_get
  have I2 : Inv X pins σ (upd H1 (hp.objs.size + 1) (exo (hp.objs.size + 1) C none)) ⟨(hp.push (PySem.W.kdv_tup us)).push (PySem.HandSPX.excO C hp.objs.size), g, dr, tk, os⟩ :=
    I1.laid (t' := tk) (a := hp.objs.size + 1) (o := exo (hp.objs.size + 1) C none) (h' := (hp.push (PySem.W.kdv_tup us)).push (PySem.HandSPX.excO C hp.objs.size)) kk hsz (exo_ok hget)
  have r2 : Vals (V.ref (hp.objs.size + 1) :: (vs ++ dvs)) (Value.ref (hp.objs.size + 1) :: (us ++ ds)) := .cons rfl (r1.append hd)
  have hl : (Value.ref (hp.objs.size + 1) :: us ++ ds).length = ps.length := by
    have e := r2.length
    rw [F1.len _ _ _ _ hq] at e
    exact e.symm
  have hus : us.length ≤ sizeLine := by
    rw [← Paired.length r1, sizeLine_eq]
    omega
  refine wpAny_call (PySem.HandSPX.call_own F.excBase_ValueError (fun Y => PySem.HandSPX.refsVE_contains Y bm hbm) (I1.kIn _ _ hC) (PySem.W.looks_findIn I1.kIn iC) (fun self => PySem.W.bind_fn I1.kIn self tI) hus
    (codeAny_mono (F1.run _ X.stack _ _ ⟨Value.ref (hp.objs.size + 1) :: us, []⟩ (Value.ref (hp.objs.size + 1) :: (us ++ ds)) _ _ (fun _ _ _ => False) (hr.make C us []) (I2.env0.make C us []) (hb _ (Value.ref (hp.objs.size + 1) :: us) I2.kIn hl) r2 hq) fun r s' hq' => ?_))
  cases r with
  | error er => exact hx pins σ _ _ er s' I2 hq'
  | ok fl =>
    cases fl with
    | ret u =>
      obtain ⟨v, H2, os2, bare2, un2, hok2, rv, ev, d, fs, ea, ed, hd1, q2⟩ := hq'
      subst ev
      obtain ⟨h2, g2, d2, t2, os'⟩ := s'
      exact ⟨rv, made (raises_own T.exC T.tyC) I1 hsz kk un2 hok2 os2 bare2 ea ed hd1 q2⟩
    | next => exact False.elim hq'
    | brk => exact False.elim hq'
    | cont => exact False.elim hq'
end
end ViOex
/-! Vi, a tuple turned about: t[::-1]. -/
namespace HT
open PySem PyProof.Rows
section
variable {prog : Program} {w : World} {A : Around} {E : Value → Shared → Prop} {s : Shared}
theorem rev_adjust (n : Nat) : Builtin.Slice.sliceAdjust none none (-1) (n : Int) = ((n : Int) - 1, -1) := by
  unfold Builtin.Slice.sliceAdjust
  simp
theorem rev_places (n : Nat) : Builtin.Slice.slicePlaces ((n : Int) - 1) (-1) (-1) = n := by
  unfold Builtin.Slice.slicePlaces
  have h1 : ¬ ((-1 : Int) > 0) := by omega
  simp only [h1, if_false]
  rw [show (-(-1) : Int) = 1 by decide, Int.ediv_one]
  split <;> omega
theorem fm_congr {α β : Type} {f g : α → Option β} : ∀ (l : List α), (∀ a ∈ l, f a = g a) → l.filterMap f = l.filterMap g
  | [], _ => rfl
  | a :: l, h => by
    rw [List.filterMap_cons, List.filterMap_cons, h a (List.mem_cons_self ..), fm_congr l fun b hb => h b (List.mem_cons_of_mem _ hb)]
theorem rev_pick (xs : Array Value) : ((List.range xs.size).filterMap fun (m : Nat) => xs[(((xs.size : Int) - 1) + (m : Int) * (-1)).toNat]?).toArray = xs.toList.reverse.toArray := by
  have e : (List.range xs.size).filterMap (fun (m : Nat) => xs[(((xs.size : Int) - 1) + (m : Int) * (-1)).toNat]?) = ((List.range xs.size).map fun k => xs.size - 1 - k).filterMap (xs[·]?) := by
    rw [List.filterMap_map]
    refine fm_congr _ fun k hk => ?_
    have hk := List.mem_range.mp hk
    show xs[(((xs.size : Int) - 1) + (k : Int) * (-1)).toNat]? = xs[xs.size - 1 - k]?
    congr 1
    omega
  rw [e, PySem.W.krv_range, List.filterMap_reverse, PySem.W.krv_all]
theorem sliceApplied_rev {sl : Addr} {vs : Value} {n : Nat} {Q : Int × Int × Nat → Shared → Prop} (hs : s.heap.IsSliceOf sl .none .none vs) (ps : IsPart vs (some (-1)))
    (h : Q ((n : Int) - 1, -1, n) s) : wpAny (model prog w) A (Builtin.Slice.sliceApplied (.ref sl) (pure (n : Int))) Q E s := by
  obtain ⟨os, hos, hcs, hds⟩ := id hs
  unfold Builtin.Slice.sliceApplied Builtin.Slice.sliceFields
  refine wpAny_bind (wpAny_bind (wpAny_field hos hds (x := .none) rfl (wpAny_bind (wpAny_field hos hds (x := .none) rfl (wpAny_bind (wpAny_field hos hds (x := vs) rfl (wpAny_pure ?_)))))))
  refine wpAny_bind (slicePart_ ps ?_)
  show wpAny _ _ (if ((-1 : Int) == 0) = true then _ else _) _ _ s
  rw [if_neg (by decide)]
  refine wpAny_bind (slicePart_none (wpAny_bind (slicePart_none (wpAny_bind (wpAny_pure ?_)))))
  show wpAny _ _ (match Builtin.Slice.sliceAdjust none none (-1) (n : Int) with | (lo, hi) => pure (lo, (-1 : Int), Builtin.Slice.slicePlaces lo hi (-1))) _ _ s
  rw [rev_adjust n]
  show wpAny _ _ (pure ((n : Int) - 1, (-1 : Int), Builtin.Slice.slicePlaces ((n : Int) - 1) (-1) (-1))) _ _ s
  rw [rev_places]
  exact wpAny_pure h
theorem getItem_tuple_rev {t sl : Addr} {items : Array Value} {vs : Value} {Q : Value → Shared → Prop} (ht : IsTup s.heap t items) (hs : s.heap.IsSliceOf sl .none .none vs) (ps : IsPart vs (some (-1)))
    (h : Q (.ref s.heap.objs.size) { s with heap := s.heap.push { cls := .type "tuple", data := .seq items.toList.reverse.toArray } })
    (hsz : items.size ≤ sizeLine) : wpAny (model prog w) A (getItem (.ref t) (.ref sl)) Q E s := by
  have htake : sizeOk (.seq items.toList.reverse.toArray) := by
    show items.toList.reverse.toArray.size ≤ sizeLine
    rw [List.size_toArray, List.length_reverse, Array.length_toList]
    exact hsz
  obtain ⟨os, hos, hcs, hds⟩ := id hs
  have hTs : s.TypeIs (.ref sl) "slice" := ⟨os, hos, hcs⟩
  unfold getItem
  try with_reducible refine wpAny_holding ?_
  first | refine wpAny_bind (wpAny_pure ?_) | skip
  refine wpAny_bind (wpAny_sequenceKey ht.typeIs (by decide) ?_)
  refine wpAny_bind (wpAny_callSpecial?_slot (name := Str.ofString "__getitem__") ht.typeIs PyProof.Rows.slot_tuple_getitem
    (wpAny_call_entry PyProof.Rows.slot_tuple_getitem ht.typeIs entry_tuple_getitem ?_ (args_tuple_getitem _ _)))
  show wpAny _ _ (Builtin.Tuple.tupleItemsOf (.ref t) >>= _) _ _ s
  refine wpAny_bind (tupleItemsOf_ ht ?_)
  refine wpAny_bind (wpAny_typeOf hTs ?_)
  rw [if_pos (by decide)]
  refine wpAny_bind (sliceApplied_rev hs ps ?_)
  have hno : ¬ ((((items.size : Int) - 1) == 0 && (-1 : Int) == 1 && items.size == items.size) = true) := by
    simp
  show wpAny _ _ (if (((items.size : Int) - 1) == 0 && (-1 : Int) == 1 && items.size == items.size) = true then _ else _) _ _ s
  rw [if_neg hno, rev_pick]
  first
    | exact wpAny_bind (m := Builtin.Tuple.tupleExact _) (wpAny_newObj_type (wpAny_pure ⟨_, rfl, wpAny_pure h⟩) htake)
    | exact wpAny_bind (m := Builtin.Tuple.tupleExact _) (wpAny_newObj_type (wpAny_bind (wpAny_pure (wpAny_pure ⟨_, rfl, wpAny_pure h⟩))) htake)
    | exact wpAny_bind (wpAny_bind (m := Builtin.Tuple.tupleExact _) (wpAny_newObj_type (wpAny_pure (wpAny_pure ⟨_, rfl, wpAny_pure h⟩)) htake))
    | exact wpAny_bind (wpAny_bind (m := Builtin.Tuple.tupleExact _) (wpAny_newObj_type (wpAny_pure ⟨_, rfl, wpAny_pure h⟩) htake))
end
end HT

namespace L2
open PySem PySem.Spec PyProof.Rows
section
variable {X : Cx}
/-- xs[::-1], a list or a tuple -/
def tRev (K : PySem.W.Frag) (te : TE) : TE := fun σ H Q => te σ H fun x H1 => (∃ a xs, x = .ref a ∧ SqL K H1 a xs ∧ ∀ p, H1 p = none → Q (.ref p) (upd H1 p (.lst xs.reverse))) ∨ (∃ a xs, x = .ref a ∧ SqT K H1 a xs ∧ ∀ p, H1 p = none → Q (.ref p) (upd H1 p (.tup xs.reverse)))
theorem pe_rev {e : Expr} {te : TE} {k : Nat} {p1 p2 p3 pos : Pos} (he : PE X e te) : PE X (.Subscript e (.Slice none none (some (.UnaryOp .USub (.Constant (.int 1) k p1) p2)) p3) pos) (tRev X.K te) := by
  refine ⟨fun pins s σ H Q I h => ?_⟩
  refine Subscript_ (thn (he.run pins s σ H _ I h) fun v s1 ⟨x, H1, I1, r1, q1⟩ => ?_)
  have hst : PO X (some (.UnaryOp .USub (.Constant (.int 1) k p1) p2)) (tPart (tUn (rU fun i => .int (-i)) (tC (.int 1)))) := po_some (pe_un un_neg pe_int)
  refine wpAny_Slice (thn (po_none.run pins s1 σ H1 (fun o H2 => o = none ∧ H2 = H1) I1 ⟨rfl, rfl⟩) fun vl s2 ⟨l, H2, I2, pl, el, e2⟩ => ?_)
  subst el e2
  refine thn (po_none.run pins s2 σ H2 (fun o H3 => o = none ∧ H3 = H2) I2 ⟨rfl, rfl⟩) fun vu s3 ⟨u, H3, I3, pu, eu, e3⟩ => ?_
  subst eu e3
  refine thn (hst.run pins s3 σ H3 (fun o H4 => o = some (-1) ∧ H4 = H3) I3 ⟨1, rfl, -1, rfl, rfl, rfl⟩) fun vs s4 ⟨o, H4, I4, ps, eo, e4⟩ => ?_
  subst eo e4
  have I5 : Inv X pins σ H4 { s4 with heap := s4.heap.push { cls := .type "slice", data := .fields #[vl, vu, vs] } } := I4.kept (t' := s4.toks) fun b ob q => Heap.get?_push_of_some _ q
  rcases q1 with ⟨a, xs, ex, hx, q⟩ | ⟨a, xs, ex, hx, q⟩
  · subst ex
    cases r1
    obtain ⟨its, r, ht, hz⟩ := I5.list hx
    have hlen := r.length
    show wpAny (model X.prog X.w) X.A (subscriptTail e (.Slice none none (some (.UnaryOp .USub (.Constant (.int 1) k p1) p2)) p3) (.ref a) (.ref s4.heap.objs.size)) (EP X pins σ Q) X.xe { s4 with heap := s4.heap.push { cls := .type "slice", data := .fields #[vl, vu, vs] } }
    refine tail_any (ops := [.ref a, .ref s4.heap.objs.size]) ht.isList.typeIs (PySem.slot_list_getitem.lookup) ?_ (by with_unfolding_all rfl)
    refine wpAny_getItem_list_slice ht.isList (Heap.IsSliceOf.new _ vl vu vs) pl pu ps (by decide) ?_ (by rw [List.size_toArray]; omega)
    rw [PySem.W.krv_pick]
    refine ⟨.ref _, _, I5.laid (t' := s4.toks) (o := .lst xs.reverse) (fun b ob q => Heap.get?_push_of_some _ q) (Nat.le_refl _) ?_, rfl, q _ (I5.hok.fresh (Nat.le_refl _))⟩
    exact ⟨by rw [List.length_reverse]; exact hz, _, 0, r.reverse, Heap.get?_push_size _ rfl⟩
  · subst ex
    cases r1
    obtain ⟨its, r, ht, hz⟩ := I5.tuple hx
    have hlen : its.toArray.size = xs.length := by rw [List.size_toArray]; exact r.length.symm
    cases pl
    cases pu
    show wpAny (model X.prog X.w) X.A (subscriptTail e (.Slice none none (some (.UnaryOp .USub (.Constant (.int 1) k p1) p2)) p3) (.ref a) (.ref s4.heap.objs.size)) (EP X pins σ Q) X.xe { s4 with heap := s4.heap.push { cls := .type "slice", data := .fields #[.none, .none, vs] } }
    refine tail_any (ops := [.ref a, .ref s4.heap.objs.size]) ht.typeIs PyProof.Rows.slot_tuple_getitem.lookup ?_ (by with_unfolding_all rfl)
    refine HT.getItem_tuple_rev ht (Heap.IsSliceOf.new _ .none .none vs) ps ?_ (by rw [hlen]; exact hz)
    refine ⟨.ref _, _, I5.laid (t' := s4.toks) (o := .tup xs.reverse) (fun b ob q => Heap.get?_push_of_some _ q) (Nat.le_refl _) ?_, rfl, q _ (I5.hok.fresh (Nat.le_refl _))⟩
    exact ⟨by rw [List.length_reverse]; exact hz, _, r.reverse, IsTup.new _ _⟩
end
end L2
/-! Vi: xs[::-1]. -/
namespace Vi
open PySem PySem.Spec PyProof.Rows L2
section
variable {X : Cx} {Γ : Wh} {d : Dn} {a : Expr} {pos : Pos}
theorem RpL.reverse {R : Rc} {D : Hp} {ι : List Addr} : ∀ {ps : List P} {vs : List V}, RpL R D ι ps vs → RpL R D ι ps.reverse vs.reverse
  | _, _, .nil => .nil
  | _, _, .cons a r => by
    rw [List.reverse_cons, List.reverse_cons]
    exact (RpL.reverse r).app (.cons a .nil)
theorem s_rev {da : Env → M P} {k : Nat} {p1 p2 p3 : Pos} (hK : Γ.R.K = X.K) (ha : PE X a (tO Γ da)) :
    PE X (.Subscript a (.Slice none none (some (.UnaryOp .USub (.Constant (.int 1) k p1) p2)) p3) pos) (tE Γ fun ρ => (da ρ).bind fun x => M.ofO (revP x)) := by
  refine (pe_rev ha).imp fun σ H Q ⟨ρ, W, j, h⟩ => ?_
  refine ⟨ρ, W, j, GC.imp (GC.bind h) fun x H1 ⟨p, W1, j1, l1, r1, h1⟩ => ?_⟩
  have vx := r1.vw j1
  have hD := j1.b.ok.sub
  obtain ⟨v, ev, out⟩ := GC.ofO j1 h1
  cases p with
  | lst xs =>
    cases (show some (P.lst xs.reverse) = some v from ev)
    obtain ⟨A, vs, rfl, ra, la, zvx⟩ := vx.lst hD
    exact .inl ⟨A, vs, rfl, hK ▸ (.inl ra), fun p hp => out.newL hD la.reverse hp (by rw [List.length_reverse]; exact zvx)⟩
  | tup xs =>
    cases (show some (P.tup xs.reverse) = some v from ev)
    obtain ⟨A, vs, rfl, ra, la, wa, zvx⟩ := vx.tup hD
    exact .inr ⟨A, vs, rfl, hK ▸ ra, fun p hp => out.newT hD la.reverse hp (by rw [List.length_reverse]; exact zvx)⟩
  | _ => cases (show none = some v from ev)
theorem k_rev {ca : CP} {k : Nat} {p1 p2 p3 : Pos} (hK : Γ.R.K = X.K) (ha : KO X Γ d a ca) : KE X Γ d (.Subscript a (.Slice none none (some (.UnaryOp .USub (.Constant (.int 1) k p1) p2)) p3) pos) (.rev ca) := s_rev hK ha
end
end Vi
/-! Vi, a comprehension's list that is the def's own. -/
namespace Vi
open PySem PySem.Spec PyProof.Rows L2
section
variable {X : Cx} {Γ : Wh} {look : List Nat}
theorem lc_impN {own : List (Str × Nat)} {tg : Tg} {di : Env → M (List P)} {dq : Env → M Bool} {de : Env → M P}
    (hK : Γ.R.K = X.K) (hl : ∀ i ∈ look, i ∉ own.map (·.2)) (ht : ∀ i ∈ tgS tg, i ∈ own.map (·.2)) (σ : L2.St) (H : Hp) (Q : VK)
    (hh : tN Γ (fun ρ => if (own.map (·.2)).any (isOwn ρ) then M.no else (di ρ).bind fun xs => ((compL (lcF (own.map (·.2)) tg dq de ρ) xs).calm).bind fun l => M.pure (.lst l)) σ H Q) :
    tLc (tI Γ look di) (gT X.K tg) (fun σ H Q => ∃ os, tT (Γ.inner os) dq σ H Q) (fun σ H Q => ∃ os, tE (Γ.inner os) de σ H Q) (own.map (·.2)) σ H Q := by
  obtain ⟨ρ, W, j, h⟩ := hh
  by_cases hown : (own.map (·.2)).any (isOwn ρ) = true
  · have h : GN Γ ρ σ W ((if (own.map (·.2)).any (isOwn ρ) then M.no else (di ρ).bind fun xs => ((compL (lcF (own.map (·.2)) tg dq de ρ) xs).calm).bind fun l => M.pure (.lst l)) W.S) Q := h
    rw [if_pos hown] at h; exact (show False from h).elim
  have h : GN Γ ρ σ W ((if (own.map (·.2)).any (isOwn ρ) then M.no else (di ρ).bind fun xs => ((compL (lcF (own.map (·.2)) tg dq de ρ) xs).calm).bind fun l => M.pure (.lst l)) W.S) Q := h
  rw [if_neg hown] at h
  have nown : ∀ i ∈ own.map (·.2), isOwn ρ i = false := fun i hi => by
    cases e : isOwn ρ i with
    | false => rfl
    | true => exact absurd (List.any_eq_true.mpr ⟨i, hi, e⟩) hown
  refine ⟨ρ, W, j, GC.imp (GN.bind h) fun Jt H1 ⟨xs, W1, j1, l1, r1, h1⟩ => ?_⟩
  obtain ⟨os, G, Y, zl, hos, wk, hG, hY⟩ := r1
  cases ec : compL (lcF (own.map (·.2)) tg dq de ρ) xs W1.S with
  | no => unfold M.bind M.calm at h1; rw [ec] at h1; exact (show False from h1).elim
  | err e S => unfold M.bind M.calm at h1; rw [ec] at h1; exact (show False from h1).elim
  | ok l S' =>
  have h1 : GN Γ ρ σ W1 (.ok (.lst l) S') Q := by
    have h2 := h1
    unfold M.bind M.calm at h2
    rw [ec] at h2
    exact h2
  intro D hD
  -- the owned objects that are looked at, within
  have lookIn : ∀ {Wi : Wd} {Hi : Hp} {N' : En}, J Γ.R Γ.T N' (wipes ρ (own.map (·.2))) Wi (L2.wipe σ (own.map (·.2))) Hi → Own Γ.R os Wi Hi := fun {Wi Hi N'} ji q hq => by
    obtain ⟨i, hi, e1, e2⟩ := hos q hq
    have e1' : (wipes ρ (own.map (·.2)))[i]? = some (Sl.own q.2) := by rw [wipes_get (hl i hi)]; exact e1
    obtain ⟨a, f1, _, _, _, f5⟩ := ji.own i q.2 e1'
    rw [wipe_get (hl i hi), e2] at f1
    cases f1
    exact f5
  refine lc_it (g := gT X.K tg) (tt := fun σ H Q => ∃ os, tT (Γ.inner os) dq σ H Q) (te := fun σ H Q => ∃ os, tE (Γ.inner os) de σ H Q) (vs := own.map (·.2)) (σ := σ) (Qd := fun H => Q (.ref D) H) wk (fun i Hi => ∃ Wi ys li, J Γ.R Γ.T (Γ.N.and D (.lst ys)) (wipes ρ (own.map (·.2))) Wi (L2.wipe σ (own.map (·.2))) Hi ∧ W1.le Wi ∧ compL (lcF (own.map (·.2)) tg dq de ρ) (xs.drop i) Wi.S = .ok li S' ∧ l = ys ++ li ∧ ys.length ≤ i)
    ⟨W1, [], l, (j1.begin hD).wipe, .refl _, ec, rfl, Nat.le_refl _⟩ (fun i Hi _ ⟨Wi, ys, li, ji, li1, _⟩ => hG Wi Hi li1 ji.b.ok.sub (lookIn ji)) (fun i x Hi Hi' hi ⟨Wi, ys, li, ji, li1, ei, el, ey⟩ y => ?_) (fun Hn ⟨Wn, ys, ln, jn, ln1, en, el, ey⟩ => ?_)
  · -- a turn
    obtain ⟨p, ep, yl⟩ := hY i Wi Hi x Hi' hi li1 ji.b.ok.sub (lookIn ji) y
    obtain ⟨W2, eS, l2, j2, r2⟩ := yl.to ji
    have ed : xs.drop i = p :: xs.drop (i + 1) := by
      obtain ⟨h1, h2⟩ := List.getElem?_eq_some_iff.mp ep
      rw [List.drop_eq_getElem_cons h1, h2]
    rw [ed] at ei
    obtain ⟨o, S1, lr, ef, er, elr⟩ := compL_cons ei
    obtain ⟨ρ', S0, e0, ef⟩ := bind_ok ef
    have est : store (wipes ρ (own.map (·.2))) tg p = some ρ' ∧ S0 = Wi.S := by
      cases q : store (wipes ρ (own.map (·.2))) tg p with
      | none => rw [q] at e0; cases e0
      | some ρ2 => rw [q] at e0; cases e0; exact ⟨rfl, rfl⟩
    obtain ⟨est, eS0⟩ := est
    subst eS0
    obtain ⟨k, S2, ek, ef⟩ := bind_ok ef
    refine store_tg hK j2 r2 est ht fun σ2 j3 ew1 ew2 => ⟨by rw [ew1, wipe_idem _ _ fun i hi => hi], _, ρ', W2, j3, ?_⟩
    have ew1' : L2.wipe σ2 (own.map (·.2)) = L2.wipe σ (own.map (·.2)) := by rw [ew1, wipe_idem _ _ fun i hi => hi]
    have ew2' : wipes ρ' (own.map (·.2)) = wipes ρ (own.map (·.2)) := by rw [ew2, wipes_idem _ _ fun i hi => hi]
    rw [eS, ek]
    intro b W3 H3 e3 l3 j3' rb
    obtain rfl : k = b := rb
    cases k with
    | false =>
      rw [if_neg Bool.false_ne_true] at ef ⊢
      cases ef
      refine ⟨W3, ys, lr, ?_, (li1.trans l2).trans l3, ?_, ?_, Nat.le_succ_of_le ey⟩
      · have := j3'.wipe (vs := own.map (·.2))
        rw [ew1', ew2'] at this
        exact this
      · rw [e3]; exact er
      · rw [el, elr]
    | true =>
      rw [if_pos rfl] at ef ⊢
      obtain ⟨v, S3, ev, ef⟩ := bind_ok ef
      cases ef
      refine ⟨_, ρ', W3, j3', ?_⟩
      rw [e3, ev]
      intro y W4 H4 e4 l4 j4 rv
      obtain ⟨g1, g2, g3, gz, acc, ga, gr⟩ := j4.ext (D, .lst ys) (by simp)
      have la := gr.length
      refine ⟨acc, ga, by rw [la]; exact lim_eq ▸ (by omega), W4, ys ++ [v], lr, ?_, ((li1.trans l2).trans l3).trans l4, ?_, ?_, by rw [List.length_append, List.length_singleton]; omega⟩
      · have := (j4.grow rv (by omega) ga gr).wipe (vs := own.map (·.2))
        rw [ew1', ew2'] at this
        exact this
      · rw [e4]; exact er
      · rw [el, elr]; simp
  · -- the end
    have edr : xs.drop xs.length = [] := List.drop_length
    rw [edr] at en
    cases en
    rw [List.append_nil] at el
    subst el
    obtain ⟨g1, g2, g3, gz, acc, ga, gr⟩ := jn.ext (D, .lst l) (by simp)
    -- the list is the def's own
    have jl : J Γ.R Γ.T (Γ.N.and D (.lst l)) ρ Wn σ Hn := by
      refine ⟨jn.b, j1.len, fun i p e => ?_, fun i p e => ?_, jn.ext, fun q hq i p e => ?_, jn.nodx, j1.sep⟩
      · obtain ⟨u, h1, h2⟩ := j1.val i p e
        exact ⟨u, h1, h2.mono ln1.1 ln1.2⟩
      · have hi : i ∉ own.map (·.2) := fun z => by
          have := nown i z
          rw [isOwn_get e] at this
          cases this
        have e' : (wipes ρ (own.map (·.2)))[i]? = some (Sl.own p) := by rw [wipes_get hi]; exact e
        obtain ⟨c, f1, f2, f3, f4, f5⟩ := jn.own i p e'
        rw [wipe_get hi] at f1
        exact ⟨c, f1, f2, f3, f4, f5⟩
      · have hi : i ∉ own.map (·.2) := fun z => by
          have := nown i z
          rw [isOwn_get e] at this
          cases this
        have e' : (wipes ρ (own.map (·.2)))[i]? = some (Sl.own p) := by rw [wipes_get hi]; exact e
        have := jn.sepx q hq i p e'
        rw [wipe_get hi] at this
        exact this
    exact h1.2 D Wn Hn rfl ln1 jl
theorem s_lcN {tgx iter elt : Expr} {ifs : List Expr} {scope : Scope} {pos : Pos} {own : List (Str × Nat)} {tg : Tg} {di : Env → M (List P)} {dq : Env → M Bool} {de : Env → M P}
    (hK : Γ.R.K = X.K) (hc : X.calm = true) (hN : X.N.Nodup) (hi : PI X tgx iter (tI Γ look di)) (ok : BlkOk X.N X.env.scope scope own) (hl : ∀ i ∈ look, i ∉ own.map (·.2)) (ht : ∀ i ∈ tgS tg, i ∈ own.map (·.2))
    (hg : ∀ (s : Shared) (H : Hp) (C : Addr) (cl : List (Str × Addr)) (fp : List Addr), PG (X.blk s H scope (compEnvC scope cl C X.env) fp) tgx (gT X.K tg))
    (hq : ∀ (s : Shared) (H : Hp) (C : Addr) (cl : List (Str × Addr)) (fp : List Addr) (os : List (Addr × P)), PTs (X.blk s H scope (compEnvC scope cl C X.env) fp) ifs (tT (Γ.inner os) dq))
    (he : ∀ (s : Shared) (H : Hp) (C : Addr) (cl : List (Str × Addr)) (fp : List Addr) (os : List (Addr × P)), PE (X.blk s H scope (compEnvC scope cl C X.env) fp) elt (tE (Γ.inner os) de))
    (hs : ∀ x, foldedSetIterable iter X.env x = pure x) :
    PE X (.ListComp elt [⟨tgx, iter, ifs, 0⟩] scope pos) (tN Γ fun ρ => if (own.map (·.2)).any (isOwn ρ) then M.no else (di ρ).bind fun xs => ((compL (lcF (own.map (·.2)) tg dq de ρ) xs).calm).bind fun l => M.pure (.lst l)) :=
  (pe_lc (tt := fun σ H Q => ∃ os, tT (Γ.inner os) dq σ H Q) (te := fun σ H Q => ∃ os, tE (Γ.inner os) de σ H Q) hc hN hi ok hg
    (fun s H C cl fp => ⟨fun pins s' σ H' Q I ⟨os, h⟩ => (hq s H C cl fp os).run pins s' σ H' Q I h⟩) (fun s H C cl fp => ⟨fun pins s' σ H' Q I ⟨os, h⟩ => (he s H C cl fp os).run pins s' σ H' Q I h⟩) hs).imp fun σ H Q h => lc_impN hK hl ht σ H Q h
theorem s_setLcN {i : Nat} {y : Str} {py : Pos} {tgx iter elt : Expr} {ifs : List Expr} {scope : Scope} {pos spos : Pos} {own : List (Str × Nat)} {tg : Tg} {di : Env → M (List P)} {dq : Env → M Bool} {de : Env → M P}
    (hK : Γ.R.K = X.K) (hc : X.calm = true) (hN : X.N.Nodup) (hy : X.N[i]? = some y) (hyl : X.env.scope.names.lookup y = some .local) (hsw : swapsWith (.ListComp elt [⟨tgx, iter, ifs, 0⟩] scope pos) (some (.Name y py)) spos.line X.env = pure true)
    (hi : PI X tgx iter (tI Γ look di)) (ok : BlkOk X.N X.env.scope scope own) (hl : ∀ i ∈ look, i ∉ own.map (·.2)) (ht : ∀ i ∈ tgS tg, i ∈ own.map (·.2))
    (hg : ∀ (s : Shared) (H : Hp) (C : Addr) (cl : List (Str × Addr)) (fp : List Addr), PG (X.blk s H scope (compEnvC scope cl C X.env) fp) tgx (gT X.K tg))
    (hq : ∀ (s : Shared) (H : Hp) (C : Addr) (cl : List (Str × Addr)) (fp : List Addr) (os : List (Addr × P)), PTs (X.blk s H scope (compEnvC scope cl C X.env) fp) ifs (tT (Γ.inner os) dq))
    (he : ∀ (s : Shared) (H : Hp) (C : Addr) (cl : List (Str × Addr)) (fp : List Addr) (os : List (Addr × P)), PE (X.blk s H scope (compEnvC scope cl C X.env) fp) elt (tE (Γ.inner os) de))
    (hs : ∀ x, foldedSetIterable iter X.env x = pure x) :
    PS X (.Assign [.Name y py] (.ListComp elt [⟨tgx, iter, ifs, 0⟩] scope pos) spos) (tAsg (tN Γ fun ρ => if (own.map (·.2)).any (isOwn ρ) then M.no else (di ρ).bind fun xs => ((compL (lcF (own.map (·.2)) tg dq de ρ) xs).calm).bind fun l => M.pure (.lst l)) (gName i)) := by
  have h := ps_setLc (tt := fun σ H Q => ∃ os, tT (Γ.inner os) dq σ H Q) (te := fun σ H Q => ∃ os, tE (Γ.inner os) de σ H Q) hc hN hy hyl hsw hi ok hg
    (fun s H C cl fp => ⟨fun pins s' σ H' Q I ⟨os, h⟩ => (hq s H C cl fp os).run pins s' σ H' Q I h⟩) (fun s H C cl fp => ⟨fun pins s' σ H' Q I ⟨os, h⟩ => (he s H C cl fp os).run pins s' σ H' Q I h⟩) hs
  exact ⟨fun pins s σ H D I q => h.run pins s σ H D I (lc_impN hK hl ht σ H _ q)⟩
end
end Vi
/-! Vi, names stored at once, own lists made longer. -/
namespace Vi
open PySem PySem.Spec PyProof.Rows L2
def setsV (σ : L2.St) : List (Bool × Nat) → List V → L2.St
  | (_, i) :: is, v :: vs => setsV (σ.set i (some v)) is vs
  | _, _ => σ
theorem setsS_set {i : Nat} {s : Sl} : ∀ {ks : List (Bool × Nat)} {ss : List Sl} {ρ : Env}, i ∉ ks.map (·.2) → setsS (ρ.set i s) ks ss = (setsS ρ ks ss).set i s
  | [], [], _, _ => rfl
  | [], _ :: _, _, _ => rfl
  | (_, _) :: _, [], _, _ => rfl
  | (b, k) :: ks, t :: ss, ρ, h => by
    have h' : i ≠ k ∧ i ∉ ks.map (·.2) := by simpa using h
    show setsS ((ρ.set i s).set k t) ks ss = (setsS (ρ.set k t) ks ss).set i s
    rw [List.set_comm _ _ h'.1, setsS_set h'.2]
theorem setsV_set {i : Nat} {s : V} : ∀ {ks : List (Bool × Nat)} {ss : List V} {σ : L2.St}, i ∉ ks.map (·.2) → setsV (σ.set i (some s)) ks ss = (setsV σ ks ss).set i (some s)
  | [], [], _, _ => rfl
  | [], _ :: _, _, _ => rfl
  | (_, _) :: _, [], _, _ => rfl
  | (b, k) :: ks, t :: ss, σ, h => by
    have h' : i ≠ k ∧ i ∉ ks.map (·.2) := by simpa using h
    show setsV ((σ.set i (some s)).set k (some t)) ks ss = (setsV (σ.set k (some t)) ks ss).set i (some s)
    rw [List.set_comm _ _ h'.1, setsV_set h'.2]
def GM (Γ : Wh) (ks : List (Bool × Nat)) (ρ : Env) (σ : L2.St) (W : Wd) (r : Rs (List Sl)) (Q : List V → Hp → Prop) : Prop := match r with
  | .ok ss S' => ∀ vs W' H', W'.S = S' → W.le W' → vs.length = ks.length → J Γ.R Γ.T Γ.N (setsS ρ ks ss) W' (setsV σ ks vs) H' → Q vs H'
  | .err e S' => ∀ cv oe W' H', W'.S = S' → B Γ.R Γ.T Γ.N W' H' → ExR Γ.R W' H' e cv oe → Γ.E cv oe H'
  | .no => False
def tM (Γ : Wh) (d : Dn) (ks : List (Bool × Nat)) (cs : CEs) : TA := fun σ H Q => ∃ os ρ W, J Γ.R Γ.T (Γ.os os).N ρ W σ H ∧ GM (Γ.os os) ks ρ σ W (parM d ρ ks cs W.S) Q
abbrev KM (X : Cx) (Γ : Wh) (d : Dn) (es : List Expr) (ks : List (Bool × Nat)) (cs : CEs) : Prop := PA X es (tM Γ d ks cs)
section
variable {X : Cx} {Γ : Wh} {d : Dn} {a b e : Expr} {es : List Expr} {pos pos' : Pos} {ks : List (Bool × Nat)} {c : CE} {cs : CEs} {i : Nat}
theorem m_nil : KM X Γ d [] [] .nil := pa_nil.imp fun σ H Q ⟨os, ρ, W, j, h⟩ => h [] W H rfl (.refl _) rfl j
theorem m_own (ha : ∀ os, KN X (Γ.os os) d e c) (hr : KM X Γ d es ks cs) (hs : starEach (e :: es) X.env = (false, eval e X.env) :: starEach es X.env) (hi : i ∉ ks.map (·.2)) : KM X Γ d (e :: es) ((true, i) :: ks) (.cons c cs) := by
  have ha' : PE X e (fun σ H Q => ∃ os, tN (Γ.os os) (fun ρ => denE d ρ c) σ H Q) := ⟨fun pins s σ H Q I ⟨os, h⟩ => (ha os).run pins s σ H Q I h⟩
  refine (pa_cons ha' hr hs).imp fun σ H Q ⟨os, ρ, W, jj, h⟩ => ⟨os, ρ, W, jj, ?_⟩
  have h : GM (Γ.os os) ((true, i) :: ks) ρ σ W (((denE d ρ c).bind fun v => if isBox v then (parM d ρ ks cs).bind fun ss => M.pure (.own v :: ss) else M.no) W.S) Q := h
  show GN (Γ.os os) ρ σ W (denE d ρ c W.S) _
  cases e1 : denE d ρ c W.S with
  | ok v S' =>
    rw [bind_at e1] at h
    cases hb : isBox v with
    | true =>
      rw [box_is hb] at h
      refine ⟨hb, fun A W1 H1 eS l1 j1 => ⟨(A, v) :: os, ρ, W1, j1, ?_⟩⟩
      rw [eS]
      cases e2 : parM d ρ ks cs S' with
      | ok ss S2 =>
        rw [bind_at e2] at h
        intro vs W2 H2 eT l2 ln j2
        refine h (.ref A :: vs) W2 H2 eT (l1.trans l2) (by rw [List.length_cons, List.length_cons, ln]) ?_
        have j3 := J.take (N := (Γ.os os).N) (i := i) j2
        show J _ _ _ (setsS (ρ.set i (.own v)) ks ss) _ (setsV (σ.set i (some (.ref A))) ks vs) _
        rw [setsS_set hi, setsV_set hi]
        exact j3
      | err x S2 =>
        rw [bind_er e2] at h
        exact fun cv oe W' H' es b r => h cv oe W' H' es ⟨b.ok, b.ge, b.frm, b.newD, b.newι⟩ r
      | no => rw [bind_no' e2] at h; exact h
    | false => rw [if_neg (by rw [hb]; decide)] at h; exact (show False from h).elim
  | err x S' => rw [bind_er e1] at h; exact h
  | no => rw [bind_no' e1] at h; exact h
theorem m_val (ha : ∀ os, KE X (Γ.os os) d e c) (hr : KM X Γ d es ks cs) (hs : starEach (e :: es) X.env = (false, eval e X.env) :: starEach es X.env) (hi : i ∉ ks.map (·.2)) : KM X Γ d (e :: es) ((false, i) :: ks) (.cons c cs) := by
  have ha' : PE X e (fun σ H Q => ∃ os, tE (Γ.os os) (fun ρ => denE d ρ c) σ H Q) := ⟨fun pins s σ H Q I ⟨os, h⟩ => (ha os).run pins s σ H Q I h⟩
  refine (pa_cons ha' hr hs).imp fun σ H Q ⟨os, ρ, W, jj, h⟩ => ⟨os, ρ, W, jj, ?_⟩
  have h : GM (Γ.os os) ((false, i) :: ks) ρ σ W (((denE d ρ c).bind fun v => (parM d ρ ks cs).bind fun ss => M.pure (.val v :: ss)) W.S) Q := h
  show GC (Γ.os os) _ ρ σ W (denE d ρ c W.S) _
  cases e1 : denE d ρ c W.S with
  | ok v S' =>
    rw [bind_at e1] at h
    intro x W1 H1 eS l1 j1 r1
    refine ⟨os, ρ, W1, j1, ?_⟩
    rw [eS]
    cases e2 : parM d ρ ks cs S' with
    | ok ss S2 =>
      rw [bind_at e2] at h
      intro vs W2 H2 eT l2 ln j2
      refine h (x :: vs) W2 H2 eT (l1.trans l2) (by rw [List.length_cons, List.length_cons, ln]) ?_
      have j3 := j2.put (i := i) (r1.mono l2.1 l2.2)
      show J _ _ _ (setsS (ρ.set i (.val v)) ks ss) _ (setsV (σ.set i (some x)) ks vs) _
      rw [setsS_set hi, setsV_set hi]
      exact j3
    | err x S2 =>
      rw [bind_er e2] at h
      exact h
    | no => rw [bind_no' e2] at h; exact h
  | err x S' => rw [bind_er e1] at h; exact h
  | no => rw [bind_no' e1] at h; exact h
theorem z_pars2 {k1 k2 : Bool} {i j : Nat} {x y : Str} {px py pt : Pos} {kt k3 pt2} (hc : X.calm = true) (hN : X.N.Nodup) (hi : X.N[i]? = some x) (hj : X.N[j]? = some y) (hij : i ≠ j)
    (hx : X.env.scope.names.lookup x = some .local) (hy : X.env.scope.names.lookup y = some .local) (h : KM X Γ d [a, b] [(k1, i), (k2, j)] cs)
    (hw : swappedStores [.Tuple [.Name x px, .Name y py] kt pt] (.Tuple [a, b] k3 pt2) X.env = pure (some [x, y]))
    (hs : swapsWithSole [.Tuple [.Name x px, .Name y py] kt pt] (.Tuple [a, b] k3 pt2) pos.line X.env = pure false) :
    KS X Γ d (.Assign [.Tuple [.Name x px, .Name y py] kt pt] (.Tuple [a, b] k3 pt2) pos) (.pars [(k1, i), (k2, j)] cs) := by
  refine (ps_par hc hN hi hj hij hx hy h hw hs).imp fun D σ H ⟨ρ, W, jj, h⟩ => ⟨Γ.N.os, ρ, W, jj, ?_⟩
  have h : GS Γ W (((parM d ρ [(k1, i), (k2, j)] cs).bind fun ss => M.pure (Fl.nx (setsS ρ [(k1, i), (k2, j)] ss))) W.S) D := h
  cases e : parM d ρ [(k1, i), (k2, j)] cs W.S with
  | ok ss S' =>
    rw [bind_at e] at h
    intro vs W1 H1 eS l1 ln j1
    match vs, ln, j1 with
    | [v, w], _, j1 => exact ⟨v, w, rfl, h _ W1 H1 eS l1 j1⟩
  | err x S' => rw [bind_er e] at h; exact h
  | no => rw [bind_no' e] at h; exact h
theorem z_pars3 {e3 : Expr} {k1 k2 k4 : Bool} {i j l : Nat} {x y z : Str} {px py pz pt : Pos} {kt k3 pt2} (hc : X.calm = true) (hN : X.N.Nodup) (hi : X.N[i]? = some x) (hj : X.N[j]? = some y) (hl : X.N[l]? = some z) (hij : i ≠ j) (hil : i ≠ l) (hjl : j ≠ l)
    (hx : X.env.scope.names.lookup x = some .local) (hy : X.env.scope.names.lookup y = some .local) (hz : X.env.scope.names.lookup z = some .local) (h : KM X Γ d [a, b, e3] [(k1, i), (k2, j), (k4, l)] cs)
    (hw : swappedStores [.Tuple [.Name x px, .Name y py, .Name z pz] kt pt] (.Tuple [a, b, e3] k3 pt2) X.env = pure (some [x, y, z]))
    (hs : swapsWithSole [.Tuple [.Name x px, .Name y py, .Name z pz] kt pt] (.Tuple [a, b, e3] k3 pt2) pos.line X.env = pure false) :
    KS X Γ d (.Assign [.Tuple [.Name x px, .Name y py, .Name z pz] kt pt] (.Tuple [a, b, e3] k3 pt2) pos) (.pars [(k1, i), (k2, j), (k4, l)] cs) := by
  refine (ps_par3 hc hN hi hj hl hij hil hjl hx hy hz h hw hs).imp fun D σ H ⟨ρ, W, jj, h⟩ => ⟨Γ.N.os, ρ, W, jj, ?_⟩
  have h : GS Γ W (((parM d ρ [(k1, i), (k2, j), (k4, l)] cs).bind fun ss => M.pure (Fl.nx (setsS ρ [(k1, i), (k2, j), (k4, l)] ss))) W.S) D := h
  cases e : parM d ρ [(k1, i), (k2, j), (k4, l)] cs W.S with
  | ok ss S' =>
    rw [bind_at e] at h
    intro vs W1 H1 eS l1 ln j1
    match vs, ln, j1 with
    | [v, w, u], _, j1 => exact ⟨v, w, u, rfl, h _ W1 H1 eS l1 j1⟩
  | err x S' => rw [bind_er e] at h; exact h
  | no => rw [bind_no' e] at h; exact h
/-- a list made longer by one that is read -/
def rLonger : R2 := fun x y H Q => ∃ A C us ws, x = .ref A ∧ y = .ref C ∧ H A = some (.lst us) ∧ Rd H C (.lst ws) ∧ us.length + ws.length ≤ sizeLine ∧ Q (.ref A) (upd H A (.lst (us ++ ws)))
theorem iop_longer : OpR X (inplaceOp .Add) rLonger := fun pins s σ H x y v u Q I rx ry ⟨A, C, us, ws, ex, ey, hA, hC, hz, q⟩ => by
  subst ex ey
  cases rx
  cases ry
  obtain ⟨z1, i1, n1, r1, len1, g1⟩ := I.lstM hA
  obtain ⟨z2, i2, n2, r2, g2⟩ := hC.ok I.hok
  have ln2 := r2.length
  have hs : i1.toArray.size + i2.toArray.size ≤ sizeLine := by simp only [List.size_toArray]; omega
  have nl : ¬ (!i1.toArray.isEmpty && Builtin.List.listTooLong (i1.toArray.size + i2.toArray.size)) = true := by
    rw [notLongL hs, Bool.and_false]; decide
  have run := AutoSeq1.list___iadd___list_list_0 A i1.toArray n1 C i2.toArray n2 nl (by simp only [List.size_toArray]; omega) (by omega)
  refine iadd_road ⟨_, g1, rfl⟩ ⟨_, g2, rfl⟩ (call_meets PySem.F.slot_list_iadd ⟨_, g1, rfl⟩ PySem.F.entry_list_iadd (PySem.F.args_list_iadd_2 _ _) run ⟨g1, g2, ?_⟩)
  exact ⟨.ref A, _, I.lset (its' := i1 ++ i2) (t' := s.toks) hA g1 (by simp) (r1.append r2) (by rw [List.length_append]; omega), rfl, q⟩
/-- x += e, x the def's own list -/
theorem z_ext {x : Str} {co : CP} (hN : X.N.Nodup) (hi : X.N[i]? = some x) (hx : Loc X.env.scope x) (he : KO X Γ d e co) (hf : X.fn x = true ∨ X.env.scope.names.lookup x = some .local) : KS X Γ d (.AugAssign (.Name x pos') .Add e pos) (.ext i co) := by
  refine (ps_aug hN hi hx he iop_longer hf).imp fun D σ H ⟨ρ, W, j, h⟩ => ?_
  have h : GS Γ W ((match ρ[i]? with
    | some (.own (.lst xs)) => (denO d ρ co).bind fun v => match v with
      | .lst ys => if xs.length + ys.length ≤ lim then M.pure (Fl.nx (ρ.set i (.own (.lst (xs ++ ys))))) else M.no
      | _ => M.no
    | _ => M.no) W.S) D := h
  cases q : ρ[i]? with
  | none => rw [q] at h; exact (show False from h).elim
  | some s =>
    rw [q] at h
    cases s with
    | un => exact (show False from h).elim
    | val v => exact (show False from h).elim
    | own v =>
      cases v with
      | lst xs =>
        obtain ⟨A, h1, _⟩ := j.own i _ q
        refine ⟨.ref A, h1, ρ, W, j, GC.imp (GS.bind h) fun y H1 ⟨p, W1, j1, l1, r1, h2⟩ => ?_⟩
        cases p with
        | lst ys =>
          obtain ⟨A', h1', _, _, _, z', vs', ha', r0'⟩ := j1.own i _ q
          rw [h1] at h1'
          cases h1'
          obtain ⟨C, ws, rfl, rb, lb, zb⟩ := (OpV.vw r1 j1).lst j1.b.ok.sub
          have h2 : GS Γ W1 ((if xs.length + ys.length ≤ lim then M.pure (Fl.nx (ρ.set i (.own (.lst (xs ++ ys))))) else M.no) W1.S) D := h2
          by_cases hz : xs.length + ys.length ≤ lim
          · rw [if_pos hz] at h2
            refine ⟨A, C, vs', ws, rfl, rfl, ha', rb, by rw [r0'.length, lb.length]; exact lim_eq ▸ hz, ?_⟩
            have e0 : σ.set i (some (.ref A)) = σ := by
              obtain ⟨hlt, hv⟩ := List.getElem?_eq_some_iff.mp h1
              rw [← hv]; exact List.set_getElem_self hlt
            show D.nx (σ.set i (some (.ref A))) _
            rw [e0]
            exact GS.nx h2 (j1.turn q h1 (r0'.app lb) (by rw [List.length_append]; exact hz))
          · rw [if_neg hz] at h2; exact (show False from h2).elim
        | _ => exact (show False from h2).elim
      | _ => exact (show False from h).elim
/-- list(xs), from now on the def's own -/
theorem n_lc {tgx iter elt : Expr} {ifs : List Expr} {scope : Scope} {own : List (Str × Nat)} {tg : Tg} {it : CI} {q : CQ} {ce : CE} {look : List Nat} (hK : Γ.R.K = X.K) (hc : X.calm = true) (hN : X.N.Nodup) (hi : KI X Γ d look tgx iter it) (ok : BlkOk X.N X.env.scope scope own) (hl : ∀ i ∈ look, i ∉ own.map (·.2)) (ht : ∀ i ∈ tgS tg, i ∈ own.map (·.2))
    (hg : ∀ (s : Shared) (H : Hp) (C : Addr) (cl : List (Str × Addr)) (fp : List Addr), PG (X.blk s H scope (compEnvC scope cl C X.env) fp) tgx (gT X.K tg))
    (hq : ∀ (s : Shared) (H : Hp) (C : Addr) (cl : List (Str × Addr)) (fp : List Addr) (os : List (Addr × P)), PTs (X.blk s H scope (compEnvC scope cl C X.env) fp) ifs (tT (Γ.inner os) fun ρ => denQ d ρ q))
    (he : ∀ (s : Shared) (H : Hp) (C : Addr) (cl : List (Str × Addr)) (fp : List Addr) (os : List (Addr × P)), KE (X.blk s H scope (compEnvC scope cl C X.env) fp) (Γ.inner os) d elt ce)
    (hs : ∀ x, foldedSetIterable iter X.env x = pure x) : KN X Γ d (.ListComp elt [⟨tgx, iter, ifs, 0⟩] scope pos) (.lc (own.map (·.2)) tg it q ce) := s_lcN hK hc hN hi ok hl ht hg hq he hs
theorem z_putN {st : Stmt} {ce : CE} (h : PS X st (tAsg (tN Γ fun ρ => denE d ρ ce) (gName i))) : KS X Γ d st (.own i ce) :=
  PS.imp h fun D σ H ⟨ρ, W, j, h⟩ => ⟨ρ, W, j, GS.ofN h⟩
theorem z_ownLc {y : Str} {py spos : Pos} {tgx iter elt : Expr} {ifs : List Expr} {scope : Scope} {own : List (Str × Nat)} {tg : Tg} {it : CI} {q : CQ} {ce : CE} {look : List Nat} (hK : Γ.R.K = X.K) (hc : X.calm = true) (hN : X.N.Nodup) (hy : X.N[i]? = some y) (hyl : X.env.scope.names.lookup y = some .local) (hsw : swapsWith (.ListComp elt [⟨tgx, iter, ifs, 0⟩] scope pos) (some (.Name y py)) spos.line X.env = pure true)
    (hi : KI X Γ d look tgx iter it) (ok : BlkOk X.N X.env.scope scope own) (hl : ∀ i ∈ look, i ∉ own.map (·.2)) (ht : ∀ i ∈ tgS tg, i ∈ own.map (·.2))
    (hg : ∀ (s : Shared) (H : Hp) (C : Addr) (cl : List (Str × Addr)) (fp : List Addr), PG (X.blk s H scope (compEnvC scope cl C X.env) fp) tgx (gT X.K tg))
    (hq : ∀ (s : Shared) (H : Hp) (C : Addr) (cl : List (Str × Addr)) (fp : List Addr) (os : List (Addr × P)), PTs (X.blk s H scope (compEnvC scope cl C X.env) fp) ifs (tT (Γ.inner os) fun ρ => denQ d ρ q))
    (he : ∀ (s : Shared) (H : Hp) (C : Addr) (cl : List (Str × Addr)) (fp : List Addr) (os : List (Addr × P)), KE (X.blk s H scope (compEnvC scope cl C X.env) fp) (Γ.inner os) d elt ce)
    (hs : ∀ x, foldedSetIterable iter X.env x = pure x) : KS X Γ d (.Assign [.Name y py] (.ListComp elt [⟨tgx, iter, ifs, 0⟩] scope pos) spos) (.own i (.lc (own.map (·.2)) tg it q ce)) :=
  z_putN (s_setLcN hK hc hN hy hyl hsw hi ok hl ht hg hq he hs)
/-! tests that are comparisons -/
theorem boolT {ρ : Vi.Env} {σ : L2.St} {W : Wd} {m : M P} {Q : Bool → Hp → Prop} (hb : ∀ S p S', m S = .ok p S' → ∃ k, p = .bl k) (h : GC Γ relT ρ σ W ((m.bind fun x => M.ofO (truth x)) W.S) Q) : GC Γ (relE Γ) ρ σ W (m W.S) (fun x H1 => ∃ k, x = .bl k ∧ Q k H1) := by
  unfold M.bind at h
  cases e : m W.S with
  | ok p S' =>
    obtain ⟨k, rfl⟩ := hb _ _ _ e
    rw [e] at h
    intro x W' H' eS l j' r
    cases r
    exact ⟨k, rfl, h k W' H' eS l j' rfl⟩
  | err x S' => rw [e] at h; exact h
  | no => rw [e] at h; exact h
theorem kt_din {b k : Expr} {co : CP} {ck : CE} (hS : Same Γ X) (hu : X.A.units + 65 < cLine) (hm : behindInMarks .In b = false) (hk : KE X Γ d k ck) (ho : KO X Γ d b co) : KT X Γ d (.Compare k [.In] [b] pos) (.val (.e (.x .din (.cons (.e ck) (.cons co .nil))))) := by
  refine (pt_cmp (kc_din hS hu hk ho) hm).imp fun σ H Q ⟨ρ, W, j, h⟩ => ⟨ρ, W, j, boolT (fun S p S' e => ?_) h⟩
  have e : (((denOs d ρ (.cons (.e ck) (.cons co .nil))).bind fun xs => M.ofO (xop .din xs)) S) = .ok p S' := e
  rw [os2] at e
  obtain ⟨x, S1, _, e⟩ := bind_ok e
  obtain ⟨y, S2, _, e⟩ := bind_ok e
  cases y with
  | dct t ks vs =>
    have e : M.ofO (if dkey t x then some (P.bl (Vi.dget x ks vs).isSome) else none) S2 = .ok p S' := e
    split at e
    · cases e; exact ⟨_, rfl⟩
    · cases e
  | _ => cases x <;> cases e
theorem kt_dnotin {b k : Expr} {co : CP} {ck : CE} (hS : Same Γ X) (hu : X.A.units + 65 < cLine) (hm : behindInMarks .NotIn b = false) (hk : KE X Γ d k ck) (ho : KO X Γ d b co) : KT X Γ d (.Compare k [.NotIn] [b] pos) (.val (.e (.x .dnotin (.cons (.e ck) (.cons co .nil))))) := by
  refine (pt_cmp (kc_dnotin hS hu hk ho) hm).imp fun σ H Q ⟨ρ, W, j, h⟩ => ⟨ρ, W, j, boolT (fun S p S' e => ?_) h⟩
  have e : (((denOs d ρ (.cons (.e ck) (.cons co .nil))).bind fun xs => M.ofO (xop .dnotin xs)) S) = .ok p S' := e
  rw [os2] at e
  obtain ⟨x, S1, _, e⟩ := bind_ok e
  obtain ⟨y, S2, _, e⟩ := bind_ok e
  cases y with
  | dct t ks vs =>
    have e : M.ofO (if dkey t x then some (P.bl !(Vi.dget x ks vs).isSome) else none) S2 = .ok p S' := e
    split at e
    · cases e; exact ⟨_, rfl⟩
    · cases e
  | _ => cases x <;> cases e
theorem kt_chn {c3 : Expr} {o o' : Cop} {ca cb cc : CE} (hK : Γ.R.K = X.K) (hu : X.A.units + 65 < cLine) (hm : lastMarks [cmpOf o, cmpOf o'] [b, c3] = false) (ha : KE X Γ d a ca) (hb : KE X Γ d b cb) (hc : KE X Γ d c3 cc) :
    KT X Γ d (.Compare a [cmpOf o, cmpOf o'] [b, c3] pos) (.val (.e (.chn o o' ca cb cc))) := by
  refine (pt_chain (op_cop hK hu o) (op_cop hK hu o') ha hb hc hm).imp fun σ H Q ⟨ρ, W, j, h⟩ => ?_
  have h : GC Γ (relE Γ) ρ σ W (((denE d ρ ca).bind fun x => (denE d ρ cb).bind fun y => (M.ofO (cop o x y)).bind fun k => if k then (denE d ρ cc).bind fun z => M.ofO ((cop o' y z).map .bl) else M.pure (.bl false)) W.S) (fun x H1 => ∃ k, x = .bl k ∧ Q k H1) := boolT (fun S p S' e => by
    have e : (((denE d ρ ca).bind fun x => (denE d ρ cb).bind fun y => (M.ofO (cop o x y)).bind fun k => if k then (denE d ρ cc).bind fun z => M.ofO ((cop o' y z).map .bl) else M.pure (.bl false)) S) = .ok p S' := e
    obtain ⟨x, S1, _, e⟩ := bind_ok e
    obtain ⟨y, S2, _, e⟩ := bind_ok e
    obtain ⟨k, S3, _, e⟩ := bind_ok e
    cases k with
    | false => cases e; exact ⟨false, rfl⟩
    | true =>
      rw [if_pos rfl] at e
      obtain ⟨z, S4, _, e⟩ := bind_ok e
      cases h : cop o' y z with
      | none => rw [h] at e; cases e
      | some k => rw [h] at e; cases e; exact ⟨k, rfl⟩) h
  refine ⟨ρ, W, j, GC.imp (GC.bind h) fun x H1 ⟨p, W1, j1, l1, r1, h1⟩ => ⟨ρ, W1, j1, GC.imp (GC.bind h1) fun y H2 ⟨q, W2, j2, l2, r2, h2⟩ => ?_⟩⟩
  cases e : cop o p q with
  | none => rw [e] at h2; exact (show False from h2).elim
  | some k =>
    rw [e] at h2
    refine ⟨W2.D, W2.ι, p, q, k, j2.b.ok.sub, .inl (Rp.mono l2.1 l2.2 r1), .inl r2, e, k, rfl, ?_⟩
    have h3 : GC Γ (relE Γ) ρ σ W2 ((if k then (denE d ρ cc).bind fun z => M.ofO ((cop o' q z).map .bl) else M.pure (.bl false)) W2.S) (fun x H1 => ∃ k, x = .bl k ∧ Q k H1) := h2
    cases k with
    | false => exact GC.pure j2 h3 (.bl _)
    | true =>
      refine ⟨ρ, W2, j2, GC.imp (GC.bind h3) fun z H3 ⟨r, W3, j3, l3, r3, h4⟩ => ?_⟩
      obtain ⟨v, ev, out⟩ := GC.ofO j3 h4
      obtain ⟨k', ek, ev⟩ := Option.map_eq_some_iff.mp ev
      subst ev
      exact ⟨W3.D, W3.ι, q, r, k', j3.b.ok.sub, .inl (Rp.mono l3.1 l3.2 r2), .inl r3, ek, out.at (.bl _)⟩
end
end Vi
/-! Vi, sets of ints (a variant of the library's set of a tuple, for lists). -/
namespace ViSet
open PySem PySem.Spec PyProof.Rows L2
abbrev es0 (w : World) : Obj := { cls := .type "set", dict := none, data := .set #[] 0 (.fresh 0 0 (!w.params.followText "set-order")) }
section
variable {Pg : Program} {wd : World} {Ar : Around} {Er : Value → Shared → Prop} {st : Shared}
theorem set_of_list {l : Addr} {its : Array Value} (zs : List Int) {Qz : Value → Shared → Prop} (hx : Ar.handled = none) (hl0 : st.heap.IsList l its) (hi0 : IntsAre its.toList zs) (hz : zs.length + 1 < scanBound)
    (hk : ∀ (hq : Heap) (tq c : Nat), SetR wd hq st.heap.objs.size (fun j => decide (j ∈ zs)) c → c ≤ zs.length → (∀ b o, st.heap.get? b = some o → hq.get? b = some o) → Qz (.ref st.heap.objs.size) { st with heap := hq, toks := tq }) :
    wpAny (model Pg wd) Ar (call (.type "set") [.ref l]) Qz Er st := by
  have zsz : its.size = zs.length := by
    have q := IntsAre.length hi0
    rw [Array.length_toList] at q
    exact q
  obtain ⟨c, tl, zmro⟩ := F.called_set.mro
  have zmade := F.called_set.made
  have zsub := F.called_set.sub
  refine (wpAny_call (codeAny_of_tree ?_))
  show wpAny (model Pg wd) _ (callAny (.type "set") _) _ _ _
  refine wpAny_pure (.intro (Code.quiet_builtin _ (by decide +kernel)) (codeAny_builtin F.entry_type_call ?_))
  rw [show _ = _ from Around.under_plain (weight_type_call_type "set" [.ref l] []) rfl]
  have g1 := F.called_set.notType
  have g2' := F.called_set.canCreate
  have zct := F.typeCall_set_1 (.ref l)
  repeat any_goals first | assumption | wp_step

  refine codeAny_mono (code_set_led1 (.ref l) (E := Er) (Q₁ := fun ob sa => ob = .ref st.heap.objs.size ∧ sa = { st with heap := st.heap.push (es0 wd) }) ⟨rfl, rfl⟩) fun r sa zr => ?_
  cases r with
  | error e => exact zr
  | ok fw =>
    cases fw with
    | ret ob =>
      obtain ⟨rfl, rfl⟩ := zr
      have zS : (st.heap.push (es0 wd)).get? st.heap.objs.size = some (es0 wd) := Heap.get?_push_size _ rfl
      have zT : Shared.TypeIs { st with heap := st.heap.push (es0 wd) } (.ref st.heap.objs.size) "set" := ⟨_, zS, rfl⟩
      have zli := F.called_set.init.lookup
      have zbi := F.called_set.init.bind (.ref st.heap.objs.size)
      repeat any_goals first | assumption | wp_step

      refine codeAny_mono (codeAny_call_builtin (R := wants (fun r sb => r = .none ∧ ∃ hq tq c, sb = { st with heap := hq, toks := tq } ∧ SetR wd hq st.heap.objs.size (fun j => decide (j ∈ zs)) c ∧ c ≤ zs.length ∧
          (∀ b o, st.heap.get? b = some o → hq.get? b = some o)) Er) F.called_set.init.plain F.entry_set_init (check_set_init_1 zT ?_)) fun rb sb zr₂ => ?_
      · obtain ⟨oL, zol, zcl, nl, zdl⟩ := hl0
        obtain ⟨ocl, odc, oda, osl⟩ := oL
        simp only at zcl zdl
        subst zcl; subst zdl
        have zol' : (st.heap.push (es0 wd)).get? l = some { cls := .type "list", dict := odc, data := .seq its nl, slots := osl } := Heap.get?_push_of_some _ zol
        have zsls := F.sub_list_set
        have zslf := F.sub_list_frozenset
        have zne : (Value.type "tuple" == Value.type "dict") = false := by decide
        have zl1 : (st.heap.push (es0 wd)).IsList l its := ⟨_, zol', rfl, nl, rfl⟩
        unfold Builtin.«set.__init__» Builtin.Frozenset.updateFrom noKeywords
        generalize zPI : pyIter = PI
        wp_walk
        subst zPI

        refine wpAny_pyIter_list zl1 ?_
        refine (wpAny_bind (wpAny_runValue ?_))
        have zlS : l < st.heap.objs.size := Heap.lt_size zol
        have zh3 : Ar.in1.in1.in1.handled = none := by simp [hx]
        have zz1 : (st.heap.push (es0 wd)).objs.size = st.heap.objs.size + 1 := Heap.size_push ..
        have zneI : l ≠ (st.heap.push (es0 wd)).objs.size := by
          rw [Heap.size_push]; exact Nat.ne_of_lt (Nat.lt_succ_of_lt zlS)
        have zSf : st.heap.objs.size ∉ [(st.heap.push (es0 wd)).objs.size, l] := by
          simp only [Heap.size_push, List.mem_cons, List.mem_singleton, List.not_mem_nil, or_false, not_or]
          exact ⟨Nat.ne_of_lt (Nat.lt_succ_self _), Nat.ne_of_gt zlS⟩
        have zval : ∀ (i : Nat) (v : Value), its[i]? = some v → ∃ k t, zs[i]? = some k ∧ v = .int k t := fun i v hv => by
          have hj : i < zs.length := by rw [← zsz]; exact (Array.getElem?_eq_some_iff.mp hv).1
          obtain ⟨t, e⟩ := PyProof.Rows.IntsAre.int_at hi0 i v (by rw [Array.getElem?_toList]; exact hv)
          refine ⟨zs[i], t, List.getElem?_eq_getElem hj, ?_⟩
          rw [e, List.getD_eq_getElem?_getD, List.getElem?_eq_getElem hj] <;> rfl
        refine set_update_ints ((Walks.list zh3 _ l zneI its).toS) st.heap.objs.size
          zSf zs zsz hz zval (its.size - 0) 0 _ (by omega) (Nat.zero_le _)
          ⟨⟨_, Heap.get?_push_size _ rfl, rfl, rfl⟩, (zl1.push _)⟩ ?hS0 ?hR
        case hS0 =>
          have zget : ((st.heap.push (es0 wd)).push { cls := .type "list_iterator", data := .fields #[.ref l, .int 0 0] }).get? st.heap.objs.size
              = some (es0 wd) := Heap.get?_push_of_some _ zS
          exact ⟨0, Nat.le_refl 0, setR_new_at zget⟩
        case hR =>
          intro st' cq zm hc' hS'
          obtain ⟨hq, gq, dq, tq', oq⟩ := st'
          have zg : gq = st.gens := zm.gens
          have zd : dq = st.drawn := zm.drawn
          have zo : oq = st.os := zm.os
          subst zg; subst zd; subst zo
          show wpAny _ _ _ _ _ _
          refine wpAny_pure ?_
          show (wpAny _ _ (ret Value.none) _ _ _)
          rw [zsz] at hc'
          refine wpAny_pure ⟨rfl, hq, tq', cq, rfl, hS', hc', fun b o e => ?_⟩
          have zb0 : b < st.heap.objs.size := Heap.lt_size e
          have zb1 : b ≠ st.heap.objs.size := Nat.ne_of_lt zb0
          have zb2 : b ≠ (st.heap.push (es0 wd)).objs.size := by
            rw [Heap.size_push]; exact Nat.ne_of_lt (Nat.lt_succ_of_lt zb0)
          exact zm.heap b o (by simp only [List.mem_cons, List.mem_singleton, List.not_mem_nil, or_false, not_or]; exact ⟨zb1, zb2⟩) (Heap.get?_push_of_some _ (Heap.get?_push_of_some _ e))

      · cases rb with
        | error e => exact zr₂
        | ok fm =>
          cases fm with
          | ret r =>
            obtain ⟨rfl, hq, tq, cq, rfl, hS', hc', hk'⟩ := zr₂
            repeat any_goals first | assumption | wp_step
            exact hk _ _ _ hS' hc' hk'
          | _ => exact zr₂.elim
    | _ => exact zr.elim
end
end ViSet
/-! Vi, sorted(set(..)) and len(set(..)) of ints. -/
namespace Vi
open PySem PySem.Spec PyProof.Rows L2
theorem insU_mem {x z : Int} : ∀ {l : List Int}, z ∈ insU x l ↔ z = x ∨ z ∈ l
  | [] => by simp [insU]
  | y :: l => by
    unfold insU
    split
    · simp
    · split
      · rename_i e; subst e; simp
      · rw [List.mem_cons, insU_mem, List.mem_cons]
        constructor
        · rintro (h | h | h) <;> simp [h]
        · rintro (h | h | h) <;> simp [h]
theorem insU_asc {x : Int} : ∀ {l : List Int}, l.Pairwise (· < ·) → (insU x l).Pairwise (· < ·)
  | [], _ => by simp [insU]
  | y :: l, h => by
    rw [List.pairwise_cons] at h
    unfold insU
    split
    · rename_i g
      rw [List.pairwise_cons, List.pairwise_cons]
      refine ⟨fun a ha => ?_, h⟩
      rcases List.mem_cons.mp ha with e | e
      · rw [e]; exact g
      · have := h.1 a e; omega
    · split
      · rw [List.pairwise_cons]; exact h
      · rename_i g g2
        rw [List.pairwise_cons]
        refine ⟨fun a ha => ?_, insU_asc h.2⟩
        rcases insU_mem.mp ha with e | e
        · omega
        · exact h.1 a e
theorem setU_go {z : Int} : ∀ {xs acc : List Int}, acc.Pairwise (· < ·) → (xs.foldl (fun a x => insU x a) acc).Pairwise (· < ·) ∧ (z ∈ xs.foldl (fun a x => insU x a) acc ↔ z ∈ acc ∨ z ∈ xs)
  | [], acc, h => ⟨h, by simp⟩
  | x :: xs, acc, h => by
    obtain ⟨h1, h2⟩ := setU_go (z := z) (xs := xs) (insU_asc (x := x) h)
    refine ⟨h1, ?_⟩
    show z ∈ xs.foldl _ (insU x acc) ↔ _
    rw [h2, insU_mem, List.mem_cons]
    constructor
    · rintro ((h | h) | h) <;> simp [h]
    · rintro (h | h | h) <;> simp [h]
theorem setU_asc (xs : List Int) : (setU xs).Pairwise (· < ·) := (setU_go (z := 0) List.Pairwise.nil).1
theorem mem_setU {xs : List Int} {z : Int} : z ∈ setU xs ↔ z ∈ xs := by
  have := (setU_go (z := z) (xs := xs) (acc := []) List.Pairwise.nil).2
  simpa [setU] using this
theorem nodup_lenI : ∀ {l m : List Int}, l.Nodup → (∀ x ∈ l, x ∈ m) → l.length ≤ m.length
  | [], _, _, _ => Nat.zero_le _
  | x :: l, m, nd, h => by
    rw [List.nodup_cons] at nd
    have hx : x ∈ m := h x (by simp)
    have := nodup_lenI (m := m.erase x) nd.2 fun y hy => by
      have hne : y ≠ x := fun e => nd.1 (e ▸ hy)
      exact (List.mem_erase_of_ne hne).mpr (h y (by simp [hy]))
    rw [List.length_erase_of_mem hx] at this
    have : 0 < m.length := List.length_pos_of_mem hx
    rw [List.length_cons]
    omega
theorem asc_ext : ∀ {l m : List Int}, l.Pairwise (· < ·) → m.Pairwise (· < ·) → (∀ w, w ∈ l ↔ w ∈ m) → l = m
  | [], [], _, _, _ => rfl
  | [], y :: m, _, _, h => by have := (h y).mpr (by simp); cases this
  | x :: l, [], _, _, h => by have := (h x).mp (by simp); cases this
  | x :: l, y :: m, h1, h2, h => by
    rw [List.pairwise_cons] at h1 h2
    have e : x = y := by
      rcases List.mem_cons.mp ((h x).mp (by simp)) with e | e
      · exact e
      rcases List.mem_cons.mp ((h y).mpr (by simp)) with f | f
      · exact f.symm
      have a := h2.1 x e
      have b := h1.1 y f
      omega
    subst e
    rw [asc_ext h1.2 h2.2 fun w => ?_]
    have hw := h w
    constructor
    · intro z
      have := h1.1 w z
      rcases List.mem_cons.mp (hw.mp (List.mem_cons_of_mem _ z)) with e | e
      · omega
      · exact e
    · intro z
      have := h2.1 w z
      rcases List.mem_cons.mp (hw.mpr (List.mem_cons_of_mem _ z)) with e | e
      · omega
      · exact e
section
variable {X : Cx}
/-- set(xs), few ints -/
def rSetL (K : PySem.W.Frag) (w : World) : List V → Hp → VK → Prop := fun xs H Q => ∃ (l : Addr) (zs : List Int), xs = [V.ref l] ∧ SqL K H l (zs.map V.int) ∧ zs.length ≤ 4000 ∧ ∀ p c, H p = none → c = (setU zs).length → Q (.ref p) (upd H p (SetO w p (fun j => decide (j ∈ zs)) c))
theorem cr_setL (hc : X.calm = true) : CallR X (.type "set") (rSetL X.K X.w) := by
  intro pins s σ H xs us Q I r h
  obtain ⟨l, zs, rfl, hl, hz, q⟩ := h
  rw [Vals.ref1 r]
  obtain ⟨its, rv, pl, hs⟩ := I.list hl
  refine ViSet.set_of_list (Pg := X.prog) (wd := X.w) zs (I.ok.hd hc) pl.isList (by simpa using RZ.intsAre_vals rv) (by unfold scanBound; omega) fun h' tk c R hc' k => ?_
  have hc2 : c = (setU zs).length := by
    obtain ⟨o, es, ep, t, ho, hx, hd, g, nd, hm, hb, hf, hn, _⟩ := R
    have e1 : c = (es.toList.map keyOf).length := by rw [← hn]; simp
    have m : ∀ z, z ∈ es.toList.map keyOf ↔ z ∈ setU zs := fun z => by rw [← hm z, mem_setU]; simp
    have nd2 : (setU zs).Nodup := (setU_asc zs).imp fun {a b} h e => by omega
    rw [e1]
    exact Nat.le_antisymm (nodup_lenI nd fun z hz => (m z).mp hz) (nodup_lenI nd2 fun z hz => (m z).mpr hz)
  exact ⟨.ref _, upd H s.heap.objs.size (SetO X.w s.heap.objs.size (fun j => decide (j ∈ zs)) c), I.laid (t' := tk) k (Nat.le_refl _) (setO_new R), rfl, q _ c (I.hok.fresh (Nat.le_refl _)) hc2⟩
end
section
variable {X : Cx} {Γ : Wh} {d : Dn} {a : Expr} {pos q p1 p2 : Pos}
theorem asInts_rel {R : Rc} {D : Hp} {ι : List Addr} : ∀ {ps : List P} {vs : List V} {zs : List Int}, asInts ps = some zs → RpL R D ι ps vs → vs = zs.map V.int
  | [], _, _, e, .nil => by cases e; rfl
  | p :: ps, _, zs, e, .cons r t => by
    cases p with
    | int i =>
      have e : (match asInts ps with | some l => some (i :: l) | none => none) = some zs := e
      cases h : asInts ps with
      | none => rw [h] at e; cases e
      | some l =>
        rw [h] at e
        cases e
        cases r
        rw [asInts_rel h t]; rfl
    | _ => cases e
theorem rpL_ints {R : Rc} {D : Hp} {ι : List Addr} : ∀ zs : List Int, RpL R D ι (zs.map P.int) (zs.map V.int)
  | [] => .nil
  | z :: zs => .cons (.int z) (rpL_ints zs)
/-- sorted(set(xs)) -/
theorem k_sortset {co : CP} (hK : Γ.R.K = X.K) (hc : X.calm = true) (hg : Gl X "sorted") (hm : X.mg "sorted" = none) (hg2 : Gl X "set") (hm2 : X.mg "set" = none) (ha : KO X Γ d a co)
    (he : starEach [a] X.env = (false, eval a X.env) :: starEach [] X.env) (he2 : starEach [.Call (.Name "set" p2) [a] [] q] X.env = (false, eval (.Call (.Name "set" p2) [a] [] q) X.env) :: starEach [] X.env) (hpl : (backTo q (starEach [] X.env)).any (·.1) = false) (hpl2 : (backTo pos (starEach [] X.env)).any (·.1) = false) :
    KE X Γ d (.Call (.Name "sorted" p1) [.Call (.Name "set" p2) [a] [] q] [] pos) (.x .sortset (.cons co .nil)) := by
  refine (pe_callB (cr_sortedSet hc) hg hm rfl (pa_cons (pe_callTy (cr_setL hc) hg2 hm2 rfl (pa_cons ha pa_nil he) (by decide) (by decide) he hpl) pa_nil he2) (by decide) (by decide) he2 hpl2).imp fun σ H Q ⟨ρ, W, j, h⟩ => ⟨ρ, W, j, ?_⟩
  have h : GC Γ (relE Γ) ρ σ W (((denOs d ρ (.cons co .nil)).bind fun xs => M.ofO (xop .sortset xs)) W.S) Q := h
  rw [os1] at h
  refine GC.imp (GC.bind h) fun x H1 ⟨p, W1, j1, l1, r1, h1⟩ => ?_
  cases p with
  | lst xs =>
    obtain ⟨A, vs, rfl, ra, la, zb⟩ := (OpV.vw r1 j1).lst j1.b.ok.sub
    have h1 : GC Γ (relE Γ) ρ σ W1 (M.ofO (match asInts xs with | some l => if decide ((setU l).length < 64) && decide (l.length ≤ 4000) then some (P.lst ((setU l).map P.int)) else none | none => none) W1.S) Q := h1
    cases e : asInts xs with
    | none => rw [e] at h1; exact (show False from h1).elim
    | some zs =>
      rw [e] at h1
      dsimp only at h1
      by_cases hz : (setU zs).length < 64 ∧ zs.length ≤ 4000
      · rw [if_pos (by simpa using hz)] at h1
        have ev := asInts_rel e la
        subst ev
        refine ⟨A, zs, rfl, .inl ra, hz.2, fun p c hp hc' => ⟨p, _, c, rfl, upd_same, by rw [hc']; exact hz.1, fun ns p' hns hmem hlen hp' => ?_⟩⟩
        have en : ns = setU zs := asc_ext hns (setU_asc zs) fun w => by rw [hmem, mem_setU]; simp
        subst en
        have j2 := j1.step ((B.refl j1.b.ok).made (o := SetO X.w p (fun j => decide (j ∈ zs)) c) hp)
        obtain ⟨v, ev, out⟩ := GC.ofO j2 h1
        cases ev
        exact out.newL j2.b.ok.sub (rpL_ints _) hp' (by rw [List.length_map, hlen]; show c ≤ lim; have := hz.1; unfold lim; omega)
      · rw [if_neg (by simpa using hz)] at h1; exact (show False from h1).elim
  | _ => exact (show False from h1).elim
end
end Vi
/-! Vi, module constants that are tuples. -/
namespace Vi
open PySem PySem.Spec PyProof.Rows L2
/-- a constant and its value, by what the frozen module tells -/
inductive Kon (K : PySem.W.Frag) : P → Value → Prop
  | i {z : Int} {t : Tok} : Kon K (.int z) (.int z t)
  | s {z : Str} {t : Tok} : Kon K (.str z) (.str z t)
  | t {a : Addr} {o : Obj} {its : Array Value} {n : Nat} {ps : List P} : K.lookup a = some o → o.cls = .type "tuple" → o.data = .seq its n → its.size ≤ sizeLine → ps.length = its.toList.length → (∀ q ∈ ps.zip its.toList, Kon K q.1 q.2) → Kon K (.tup ps) (.ref a)
theorem Kon.rp {R : Rc} {D : Hp} {ι : List Addr} {p : P} {u : Value} (k : Kon R.K p u) : ∃ v, RelV v u ∧ Rp R D ι p v := by
  induction k with
  | i => exact ⟨.int _, ⟨_, rfl⟩, .int _⟩
  | s => exact ⟨.str _, ⟨_, rfl⟩, .str _⟩
  | @t a o its n ps h1 h2 h3 h4 h5 h6 ih =>
    refine ⟨.ref a, rfl, ?_⟩
    have go : ∀ (ps : List P) (us : List Value), ps.length = us.length → (∀ q ∈ ps.zip us, ∃ v, RelV v q.2 ∧ Rp R D ι q.1 v) → ∃ vs, Vals vs us ∧ RpL R D ι ps vs := by
      intro ps
      induction ps with
      | nil =>
        intro us hl _
        cases us with
        | nil => exact ⟨[], .nil, .nil⟩
        | cons u us => cases hl
      | cons p ps ihp =>
        intro us hl h
        cases us with
        | nil => cases hl
        | cons u us =>
          obtain ⟨v, r1, r2⟩ := h (p, u) (by simp)
          obtain ⟨vs, s1, s2⟩ := ihp us (by simpa using hl) fun q hq => h q (by simp [hq])
          exact ⟨v :: vs, .cons r1 s1, .cons r2 s2⟩
    obtain ⟨vs, s1, s2⟩ := go ps its.toList h5 ih
    refine .tup (.inr ⟨o, its, n, h1, h2, h3, h4, s1⟩) s2 ?_
    rw [h5, Array.length_toList]
    exact lim_eq ▸ h4
inductive KonL (K : PySem.W.Frag) : List P → List Value → Prop
  | nil : KonL K [] []
  | cons {p : P} {u : Value} {ps : List P} {us : List Value} : Kon K p u → KonL K ps us → KonL K (p :: ps) (u :: us)
theorem KonL.all {K : PySem.W.Frag} {ps : List P} {us : List Value} (h : KonL K ps us) : ps.length = us.length ∧ ∀ q ∈ ps.zip us, Kon K q.1 q.2 := by
  induction h with
  | nil => exact ⟨rfl, fun q hq => by cases hq⟩
  | cons k _ ih =>
    refine ⟨by simp [ih.1], fun q hq => ?_⟩
    rw [List.zip_cons_cons] at hq
    rcases List.mem_cons.mp hq with e | hq
    · subst e; exact k
    · exact ih.2 q hq
theorem Kon.mk {K : PySem.W.Frag} {a : Addr} {od : Option Addr} {its : List Value} {n : Nat} {osl : Array (Option Value)} {ps : List P} (h : K.lookup a = some ⟨.type "tuple", od, .seq its.toArray n, osl⟩) (hz : Nat.ble its.length 1000 = true) (k : KonL K ps its) : Kon K (.tup ps) (.ref a) :=
  .t h rfl rfl (by rw [List.size_toArray]; have := Nat.le_of_ble_eq_true hz; rw [sizeLine_eq]; omega) k.all.1 k.all.2
section
variable {X : Cx} {Γ : Wh} {d : Dn} {pos : Pos}
theorem k_globT {x : Str} {a : Addr} {ps : List P} (hK : Γ.R.K = X.K) (hg : Gl X x) (hm : X.mg x = some (.ref a)) (k : Kon X.K (.tup ps) (.ref a)) (hd : (x == ("__debug__" : Str)) = false) : KE X Γ d (.Name x pos) (.glob (.tup ps)) := by
  refine (pe_glob (v := .ref a) hg hm rfl hd).imp fun σ H Q ⟨ρ, W, j, h⟩ => ?_
  have k' : Kon Γ.R.K (.tup ps) (.ref a) := hK ▸ k
  obtain ⟨v, rv, r⟩ := k'.rp (D := W.D) (ι := W.ι)
  have e : v = .ref a := by
    cases r with
    | tup h _ _ => obtain ⟨⟩ := rv; rfl
  subst e
  exact GC.pure j h r
end
end Vi
/-! Vi, plain facts: tuples of ints, their order, sums over two elements. -/
namespace Vi
open PySem
/-- ints as values -/
def iL (ws : List Int) : List P := ws.map P.int
/-- a tuple of ints -/
def iT (w : List Int) : P := .tup (iL w)
/-- such tuples -/
def sL (xs : List (List Int)) : List P := xs.map iT
/-- sums of them -/
def sT (xs : List (List Int)) : P := .tup (sL xs)
@[simp] theorem iL_nil : iL [] = [] := rfl
@[simp] theorem iL_cons (w : Int) (ws) : iL (w :: ws) = .int w :: iL ws := rfl
@[simp] theorem iL_app (a b : List Int) : iL (a ++ b) = iL a ++ iL b := by simp [iL]
@[simp] theorem iL_len (ws : List Int) : (iL ws).length = ws.length := by simp [iL]
@[simp] theorem sL_nil : sL [] = [] := rfl
@[simp] theorem sL_cons (w) (ws) : sL (w :: ws) = iT w :: sL ws := rfl
@[simp] theorem sL_app (a b) : sL (a ++ b) = sL a ++ sL b := by simp [sL]
@[simp] theorem sL_len (ws) : (sL ws).length = ws.length := by simp [sL]
@[simp] theorem asInts_iL : ∀ ws : List Int, asInts (iL ws) = some ws
  | [] => rfl
  | w :: ws => by
    show (match asInts (iL ws) with | some l => some (w :: l) | none => none) = _
    rw [asInts_iL ws]
@[simp] theorem shps_iL (n : Nat) : ∀ ws : List Int, shps n (iL ws) = true
  | [] => by simp
  | w :: ws => by simp [shps_iL n ws]
@[simp] theorem shp_iT (n : Nat) (w : List Int) : shp (n + 1) (iT w) = true := by simp [iT]
@[simp] theorem shps_sL (n : Nat) : ∀ ws, shps (n + 1) (sL ws) = true
  | [] => by simp
  | w :: ws => by simp [shps_sL n ws]
@[simp] theorem shp_iT64 (w : List Int) : shp 64 (iT w) = true := shp_iT 63 w
@[simp] theorem shp_iT62 (w : List Int) : shp 62 (iT w) = true := shp_iT 61 w
@[simp] theorem shps_sL63 (w) : shps 63 (sL w) = true := shps_sL 62 w
@[simp] theorem shps_sL62 (w) : shps 62 (sL w) = true := shps_sL 61 w
@[simp] theorem shp_sT (n : Nat) (w) : shp (n + 2) (sT w) = true := by simp [sT]
@[simp] theorem shp_sT64 (w) : shp 64 (sT w) = true := shp_sT 62 w
theorem eqvs_iL : ∀ a b : List Int, eqvs (iL a) (iL b) = decide (a = b)
  | [], [] => by simp
  | [], _ :: _ => by simp
  | _ :: _, [] => by simp
  | x :: a, y :: b => by
    simp only [iL_cons, eqvs_cons, eqv_int, eqvs_iL a b]
    by_cases h1 : x = y <;> by_cases h2 : a = b <;> simp [h1, h2]
@[simp] theorem eqv_iT (a b : List Int) : eqv (iT a) (iT b) = decide (a = b) := by
  unfold iT
  rw [eqv_tup, eqvs_iL]
theorem eqvs_sL : ∀ a b : List (List Int), eqvs (sL a) (sL b) = decide (a = b)
  | [], [] => by simp
  | [], _ :: _ => by simp
  | _ :: _, [] => by simp
  | x :: a, y :: b => by
    simp only [sL_cons, eqvs_cons, eqv_iT, eqvs_sL a b]
    by_cases h1 : x = y <;> by_cases h2 : a = b <;> simp [h1, h2]
@[simp] theorem eqv_sT (a b : List (List Int)) : eqv (sT a) (sT b) = decide (a = b) := by
  unfold sT
  rw [eqv_tup, eqvs_sL]
@[simp] theorem any_sL (w : List Int) (ws : List (List Int)) : ((sL ws).any fun z => eqv z (iT w)) = decide (w ∈ ws) := by
  induction ws with
  | nil => simp
  | cons v ws ih =>
    simp only [sL_cons, List.any_cons, ih, eqv_iT, List.mem_cons]
    by_cases h1 : v = w
    · simp [h1]
    · have : ¬ w = v := fun z => h1 z.symm
      simp [h1, this]
theorem atI_nat {xs : List P} (k : Nat) (h : k < xs.length) : atI xs (k : Int) = some xs[k] := by
  unfold atI ixN
  rw [if_pos (by omega), if_pos (by omega)]
  simp [h]
theorem atI_iL {ws : List Int} (k : Nat) (h : k < ws.length) : atI (iL ws) (k : Int) = some (.int (ws.getD k 0)) := by
  rw [atI_nat k (by simpa using h)]
  simp [iL, h]
theorem atI_iL1 {ws : List Int} (k : Nat) (h : k + 1 < ws.length) : atI (iL ws) ((k : Int) + 1) = some (.int (ws.getD (k + 1) 0)) := atI_iL (k + 1) h
theorem atI_sL {ws} (k : Nat) (h : k < ws.length) : atI (sL ws) (k : Int) = some (iT (ws.getD k [])) := by
  rw [atI_nat k (by simpa using h)]
  simp [sL, h]
theorem atI_sL1 {ws} (k : Nat) (h : k + 1 < ws.length) : atI (sL ws) ((k : Int) + 1) = some (iT (ws.getD (k + 1) [])) := atI_sL (k + 1) h
theorem atI_zero {x : P} {xs : List P} : atI (x :: xs) 0 = some x := by
  have := atI_nat (xs := x :: xs) 0 (by simp)
  simpa using this

/-! ### the order -/
def lexI : List Int → List Int → Bool
  | [], [] => false
  | [], _ :: _ => true
  | _ :: _, [] => false
  | x :: a, y :: b => if x = y then lexI a b else decide (x < y)
theorem ltps_iL : ∀ a b : List Int, ltps (iL a) (iL b) = lexI a b
  | [], [] => rfl
  | [], _ :: _ => rfl
  | _ :: _, [] => rfl
  | x :: a, y :: b => by
    show (if eqv (.int x) (.int y) then ltps (iL a) (iL b) else ltp (.int x) (.int y)) = _
    rw [ltps_iL a b, eqv_int]
    show _ = if x = y then lexI a b else decide (x < y)
    by_cases h : x = y <;> simp [h]
    rfl
@[simp] theorem ltp_iT (a b : List Int) : ltp (iT a) (iT b) = lexI a b := ltps_iL a b
theorem alks_iL : ∀ a b : List Int, alks (iL a) (iL b) = true
  | [], _ => by simp only [iL_nil, alks]
  | _ :: _, [] => by simp only [iL_nil, iL_cons, alks]
  | x :: a, y :: b => by simp only [iL_cons, alks, alk, alks_iL a b, Bool.and_self]
@[simp] theorem alk_iT (a b : List Int) : alk (iT a) (iT b) = true := by
  unfold iT
  simp only [alk, alks_iL]
@[simp] theorem cop_lt_iT (a b : List Int) : cop .lt (iT a) (iT b) = some (lexI a b) := by
  show (if cmpG (iT a) (iT b) then some (ltp (iT a) (iT b)) else none) = _
  have : cmpG (iT a) (iT b) = true := by unfold cmpG; simp
  rw [this, ltp_iT]; rfl
theorem lexI_irr : ∀ a : List Int, lexI a a = false
  | [] => rfl
  | x :: a => by simp [lexI, lexI_irr a]
theorem lexI_trans : ∀ {a b c : List Int}, lexI a b = true → lexI b c = true → lexI a c = true
  | [], [], _, h, _ => by simp [lexI] at h
  | [], _ :: _, [], _, h => by simp [lexI] at h
  | [], _ :: _, _ :: _, _, _ => rfl
  | _ :: _, [], _, h, _ => by simp [lexI] at h
  | _ :: _, _ :: _, [], _, h => by simp [lexI] at h
  | x :: a, y :: b, z :: c, h, g => by
    simp only [lexI] at h g ⊢
    by_cases e : x = y
    · subst e
      rw [if_pos rfl] at h
      by_cases f : x = z
      · subst f
        rw [if_pos rfl] at g ⊢
        exact lexI_trans h g
      · rw [if_neg f] at g ⊢; exact g
    · rw [if_neg e] at h
      by_cases f : y = z
      · subst f; rw [if_neg e]; exact h
      · rw [if_neg f] at g
        have h := of_decide_eq_true h
        have g := of_decide_eq_true g
        rw [if_neg (by omega)]
        exact decide_eq_true (by omega)
theorem lexI_conn : ∀ {a b : List Int}, lexI a b = false → a = b ∨ lexI b a = true
  | [], [], _ => .inl rfl
  | [], _ :: _, h => by simp [lexI] at h
  | _ :: _, [], _ => .inr rfl
  | x :: a, y :: b, h => by
    simp only [lexI] at h ⊢
    by_cases e : x = y
    · subst e
      rw [if_pos rfl] at h ⊢
      rcases lexI_conn h with r | r
      · exact .inl (by rw [r])
      · exact .inr r
    · rw [if_neg e] at h
      rw [if_neg (fun z => e z.symm)]
      have := of_decide_eq_false h
      exact .inr (decide_eq_true (by omega))
theorem lexI_asym {a b : List Int} (h : lexI a b = true) : lexI b a = false := by
  cases g : lexI b a with
  | false => rfl
  | true => have := lexI_trans h g; rw [lexI_irr] at this; cases this
/-- in order, each once -/
abbrev Asc (l : List (List Int)) : Prop := l.Pairwise fun a b => lexI a b = true
theorem Asc.nodup {l} (h : Asc l) : l.Nodup := h.imp fun {a b} h e => by rw [e, lexI_irr] at h; cases h
/-- two lists in order with the same members are one -/
theorem Asc.ext : ∀ {l m : List (List Int)}, Asc l → Asc m → (∀ w, w ∈ l ↔ w ∈ m) → l = m
  | [], [], _, _, _ => rfl
  | [], y :: m, _, _, h => by have := (h y).mpr (by simp); cases this
  | x :: l, [], _, _, h => by have := (h x).mp (by simp); cases this
  | x :: l, y :: m, h1, h2, h => by
    rw [Asc, List.pairwise_cons] at h1 h2
    have e : x = y := by
      rcases List.mem_cons.mp ((h x).mp (by simp)) with e | e
      · exact e
      rcases List.mem_cons.mp ((h y).mpr (by simp)) with f | f
      · exact f.symm
      have a := h2.1 x e
      have b := h1.1 y f
      have := lexI_asym a
      rw [this] at b
      cases b
    subst e
    rw [Asc.ext h1.2 h2.2 fun w => ?_]
    have nl : ∀ w ∈ l, w ≠ x := fun w hw e => by have := h1.1 w hw; rw [e, lexI_irr] at this; cases this
    have nm : ∀ w ∈ m, w ≠ x := fun w hw e => by have := h2.1 w hw; rw [e, lexI_irr] at this; cases this
    have hw := h w
    constructor
    · intro z
      rcases List.mem_cons.mp (hw.mp (List.mem_cons_of_mem _ z)) with e | e
      · exact absurd e (nl w z)
      · exact e
    · intro z
      rcases List.mem_cons.mp (hw.mpr (List.mem_cons_of_mem _ z)) with e | e
      · exact absurd e (nm w z)
      · exact e
/-- put to its place -/
def insI (x : List Int) : List (List Int) → List (List Int)
  | [] => [x]
  | y :: r => if lexI x y then x :: y :: r else y :: insI x r
def sortI : List (List Int) → List (List Int) → List (List Int)
  | acc, [] => acc
  | acc, x :: r => sortI (insI x acc) r
theorem ins_sL (x : List Int) : ∀ l, ins (iT x) (sL l) = sL (insI x l)
  | [] => rfl
  | y :: l => by
    show (if ltp (iT x) (iT y) then iT x :: iT y :: sL l else iT y :: ins (iT x) (sL l)) = _
    rw [ltp_iT, ins_sL x l]
    show _ = sL (if lexI x y then x :: y :: l else y :: insI x l)
    split <;> rfl
theorem isort_sL : ∀ l acc, isort (sL acc) (sL l) = sL (sortI acc l)
  | [], acc => rfl
  | x :: l, acc => by
    show isort (ins (iT x) (sL acc)) (sL l) = _
    rw [ins_sL, isort_sL l]
    rfl
theorem insI_mem {x z : List Int} : ∀ {l}, z ∈ insI x l ↔ z = x ∨ z ∈ l
  | [] => by simp [insI]
  | y :: l => by
    unfold insI
    split
    · simp
    · simp only [List.mem_cons, insI_mem (l := l)]
      constructor
      · rintro (h | h | h) <;> simp [h]
      · rintro (h | h | h) <;> simp [h]
theorem insI_asc {x : List Int} : ∀ {l}, Asc l → x ∉ l → Asc (insI x l)
  | [], _, _ => by simp [insI]
  | y :: l, h, hx => by
    rw [Asc, List.pairwise_cons] at h
    have hx' : x ≠ y ∧ x ∉ l := by simpa using hx
    unfold insI
    split
    · rename_i g
      rw [Asc, List.pairwise_cons, List.pairwise_cons]
      refine ⟨fun a ha => ?_, h⟩
      rcases List.mem_cons.mp ha with e | e
      · rw [e]; exact g
      · exact lexI_trans g (h.1 a e)
    · rename_i g
      rw [Asc, List.pairwise_cons]
      refine ⟨fun a ha => ?_, insI_asc h.2 hx'.2⟩
      rcases insI_mem.mp ha with e | e
      · subst e
        rcases lexI_conn (by simpa using g) with f | f
        · exact absurd f hx'.1
        · exact f
      · exact h.1 a e
theorem sortI_mem {z : List Int} : ∀ {l acc}, z ∈ sortI acc l ↔ z ∈ acc ∨ z ∈ l
  | [], acc => by simp [sortI]
  | x :: l, acc => by
    show z ∈ sortI (insI x acc) l ↔ _
    rw [sortI_mem (l := l), insI_mem, List.mem_cons]
    constructor
    · rintro ((h | h) | h) <;> simp [h]
    · rintro (h | h | h) <;> simp [h]
theorem sortI_asc : ∀ {l acc}, Asc acc → l.Nodup → (∀ x ∈ l, x ∉ acc) → Asc (sortI acc l)
  | [], _, h, _, _ => h
  | x :: l, acc, h, nd, hd => by
    rw [List.nodup_cons] at nd
    show Asc (sortI (insI x acc) l)
    refine sortI_asc (insI_asc h (hd x (by simp))) nd.2 fun y hy hm => ?_
    rcases insI_mem.mp hm with e | e
    · exact nd.1 (e ▸ hy)
    · exact hd y (by simp [hy]) e
theorem insI_len (x : List Int) : ∀ l, (insI x l).length = l.length + 1
  | [] => rfl
  | y :: l => by
    unfold insI
    split
    · simp
    · simp [insI_len x l]
theorem sortI_len : ∀ l acc, (sortI acc l).length = acc.length + l.length
  | [], acc => rfl
  | x :: l, acc => by
    show (sortI (insI x acc) l).length = _
    rw [sortI_len l, insI_len, List.length_cons]
    omega
/-- what is in order already -/
theorem sortI_id {l} (h : Asc l) : sortI [] l = l :=
  Asc.ext (sortI_asc List.Pairwise.nil h.nodup (by simp)) h fun w => by rw [sortI_mem]; simp
theorem alkAll_sL : ∀ ws, alkAll (sL ws) = true
  | [] => rfl
  | w :: ws => by
    show (alk (iT w) (iT w) && (sL ws).all (fun y => alk (iT w) y && alk y (iT w)) && alkAll (sL ws)) = true
    rw [alkAll_sL ws]
    simp [sL]
theorem srtOk_sL {ws : List (List Int)} (h : ∀ w ∈ ws, w ≠ []) : srtOk (sL ws) = true := by
  unfold srtOk
  have : (sL ws).all isTupC = true := by
    rw [List.all_eq_true]
    intro x hx
    obtain ⟨w, hw, rfl⟩ := List.mem_map.mp hx
    have := h w hw
    cases w with
    | nil => exact absurd rfl this
    | cons a b => rfl
  simp [alkAll_sL, this]
@[simp] theorem xop_sorted_sL {ws : List (List Int)} (h : ∀ w ∈ ws, w ≠ []) : xop .sorted [.lst (sL ws)] = some (.lst (sL (sortI [] ws))) := by
  show (if srtOk (sL ws) then some (P.lst (isort (sL []) (sL ws))) else none) = _
  rw [srtOk_sL h, isort_sL]; rfl

/-! ### sums over two elements -/
abbrev Cnt := List (List Int × Bool)
def tog (w : List Int) (c : Cnt) : Cnt := if (c.any fun p => decide (p.1 = w)) then c.map (fun p => if p.1 = w then (p.1, !p.2) else p) else c ++ [(w, true)]
def counts (c : Cnt) : List (List Int) → Cnt
  | [] => c
  | x :: xs => counts (tog x c) xs
def odds (xs : List (List Int)) : List (List Int) := ((counts [] xs).filter (·.2)).map (·.1)
def oddOf (xs : List (List Int)) : List (List Int) := sortI [] (odds xs)
theorem tog_keys (w : List Int) (c : Cnt) : (tog w c).map (·.1) = if w ∈ c.map (·.1) then c.map (·.1) else c.map (·.1) ++ [w] := by
  unfold tog
  have e : (c.any fun p => decide (p.1 = w)) = decide (w ∈ c.map (·.1)) := by
    rw [Bool.eq_iff_iff]
    simp only [List.any_eq_true, decide_eq_true_eq, List.mem_map]
  rw [e]
  by_cases h : w ∈ c.map (·.1)
  · simp only [h, decide_true, if_true, List.map_map]
    refine List.map_congr_left fun p _ => ?_
    simp only [Function.comp]
    split <;> rfl
  · simp [h]
theorem nodup_snoc {α : Type} {l : List α} {x : α} (h : l.Nodup) (hx : x ∉ l) : (l ++ [x]).Nodup := by
  rw [List.nodup_append]
  refine ⟨h, by simp, fun a ha b hb => ?_⟩
  rw [List.mem_singleton] at hb
  rw [hb]
  exact fun e => hx (e ▸ ha)
theorem tog_nodup {w : List Int} {c : Cnt} (h : (c.map (·.1)).Nodup) : ((tog w c).map (·.1)).Nodup := by
  rw [tog_keys]
  split
  · exact h
  · rename_i g
    exact nodup_snoc h g
theorem counts_nodup : ∀ {xs : List (List Int)} {c : Cnt}, (c.map (·.1)).Nodup → ((counts c xs).map (·.1)).Nodup
  | [], _, h => h
  | _ :: xs, _, h => counts_nodup (xs := xs) (tog_nodup h)
/-- what is counted so far -/
def CntOk (c : Cnt) (n : List Int → Nat) : Prop := (∀ p ∈ c, p.2 = decide (n p.1 % 2 = 1)) ∧ ∀ w, w ∉ c.map (·.1) → n w % 2 = 0
theorem tog_ok {c : Cnt} {n : List Int → Nat} (h : CntOk c n) (x : List Int) : CntOk (tog x c) (fun w => n w + if x = w then 1 else 0) := by
  constructor
  · intro p hp
    unfold tog at hp
    split at hp
    · obtain ⟨q, hq, rfl⟩ := List.mem_map.mp hp
      have := h.1 q hq
      by_cases e : q.1 = x
      · simp only [e, if_true, this]
        rcases Nat.mod_two_eq_zero_or_one (n x) with a | a
        · have : (n x + 1) % 2 = 1 := by omega
          simp [a, this]
        · have : (n x + 1) % 2 = 0 := by omega
          simp [a, this]
      · have e' : ¬ x = q.1 := fun z => e z.symm
        simpa [e, e'] using this
    · rename_i g
      rcases List.mem_append.mp hp with hp | hp
      · have e : x ≠ p.1 := fun e => g (List.any_eq_true.mpr ⟨p, hp, by simp [e]⟩)
        simpa [e] using h.1 p hp
      · have : p = (x, true) := by simpa using hp
        subst this
        have hx : x ∉ c.map (·.1) := fun z => by
          obtain ⟨q, hq, e⟩ := List.mem_map.mp z
          exact g (List.any_eq_true.mpr ⟨q, hq, by simp [e]⟩)
        have := h.2 x hx
        have : (n x + 1) % 2 = 1 := by omega
        simp [this]
  · intro w hw
    rw [tog_keys] at hw
    have hx : x ≠ w := fun e => by
      subst e
      split at hw
      · rename_i g; exact hw g
      · exact hw (by simp)
    have : w ∉ c.map (·.1) := fun z => by
      split at hw
      · exact hw z
      · exact hw (List.mem_append_left _ z)
    simpa [hx] using h.2 w this
theorem counts_ok : ∀ {xs : List (List Int)} {c : Cnt} {n : List Int → Nat}, CntOk c n → CntOk (counts c xs) fun w => n w + xs.count w
  | [], c, n, h => by simpa [counts] using h
  | x :: xs, c, n, h => by
    have := counts_ok (xs := xs) (tog_ok h x)
    refine ⟨fun p hp => ?_, fun w hw => ?_⟩
    · rw [this.1 p hp]
      show decide ((n p.1 + (if x = p.1 then 1 else 0) + xs.count p.1) % 2 = 1) = decide ((n p.1 + (x :: xs).count p.1) % 2 = 1)
      rw [List.count_cons]
      by_cases e : x = p.1
      · simp [e]; omega
      · simp [e]
    · have := this.2 w hw
      have this : (n w + (if x = w then 1 else 0) + xs.count w) % 2 = 0 := this
      show (n w + (x :: xs).count w) % 2 = 0
      rw [List.count_cons]
      by_cases e : x = w
      · simp [e] at this ⊢; omega
      · simpa [e] using this
theorem mem_odds {xs : List (List Int)} {w : List Int} : w ∈ odds xs ↔ xs.count w % 2 = 1 := by
  have ok : CntOk (counts [] xs) fun w => 0 + xs.count w := counts_ok ⟨by simp, by simp⟩
  unfold odds
  constructor
  · intro h
    obtain ⟨p, hp, rfl⟩ := List.mem_map.mp h
    obtain ⟨h1, h2⟩ := List.mem_filter.mp hp
    have := ok.1 p h1
    rw [h2] at this
    have : (0 + xs.count p.1) % 2 = 1 := of_decide_eq_true this.symm
    omega
  · intro h
    by_cases g : w ∈ (counts [] xs).map (·.1)
    · obtain ⟨p, hp, rfl⟩ := List.mem_map.mp g
      refine List.mem_map.mpr ⟨p, List.mem_filter.mpr ⟨hp, ?_⟩, rfl⟩
      rw [ok.1 p hp]
      exact decide_eq_true (show (0 + xs.count p.1) % 2 = 1 by omega)
    · have : (0 + xs.count w) % 2 = 0 := ok.2 w g
      omega
theorem odds_nodup (xs : List (List Int)) : (odds xs).Nodup := by
  unfold odds
  have := counts_nodup (xs := xs) (c := []) (by simp)
  exact (List.filter_sublist.map _).nodup this
theorem mem_oddOf {xs : List (List Int)} {w : List Int} : w ∈ oddOf xs ↔ xs.count w % 2 = 1 := by
  unfold oddOf
  rw [sortI_mem, mem_odds]
  simp
theorem oddOf_asc (xs : List (List Int)) : Asc (oddOf xs) := sortI_asc List.Pairwise.nil (odds_nodup xs) (by simp)
theorem oddOf_eq {xs l : List (List Int)} (h : Asc l) (hm : ∀ w, w ∈ l ↔ xs.count w % 2 = 1) : oddOf xs = l :=
  Asc.ext (oddOf_asc xs) h fun w => by rw [mem_oddOf, hm]
theorem oddOf_sub {xs : List (List Int)} {w : List Int} (h : w ∈ oddOf xs) : w ∈ xs := by
  rw [mem_oddOf] at h
  exact List.count_pos_iff.mp (by omega)
theorem count_nodup {l : List (List Int)} (h : l.Nodup) (w : List Int) : l.count w = if w ∈ l then 1 else 0 := by
  rw [h.count]
/-! the dict of them -/
def cK (c : Cnt) : List P := c.map fun p => iT p.1
def cV (c : Cnt) : List P := c.map fun p => .int (if p.2 then 1 else 0)
theorem dget_cnt (w : List Int) : ∀ c : Cnt, dget (iT w) (cK c) (cV c) = (c.find? fun p => decide (p.1 = w)).map fun p => .int (if p.2 then 1 else 0)
  | [] => rfl
  | p :: c => by
    show (if eqv (iT p.1) (iT w) then some (P.int (if p.2 then 1 else 0)) else dget (iT w) (cK c) (cV c)) = _
    rw [eqv_iT, dget_cnt w c, List.find?_cons]
    by_cases h : p.1 = w <;> simp [h]
theorem dhas_cnt (w : List Int) (c : Cnt) : dhas (iT w) (cK c) = c.any fun p => decide (p.1 = w) := by
  unfold dhas cK
  rw [List.any_map]
  congr 1
  funext p
  simp
theorem drepl_cnt (w : List Int) (v : P) : ∀ c : Cnt, drepl (iT w) v (cK c) (cV c) = c.map fun p => if p.1 = w then v else .int (if p.2 then 1 else 0)
  | [] => rfl
  | p :: c => by
    show (if eqv (iT p.1) (iT w) then v else P.int (if p.2 then 1 else 0)) :: drepl (iT w) v (cK c) (cV c) = _
    rw [eqv_iT, drepl_cnt w v c]
    by_cases h : p.1 = w <;> simp [h]
theorem keysOk_iL : ∀ w : List Int, keysOk (iL w) = true
  | [] => rfl
  | _ :: w => by
    show (keyOk _ && keysOk (iL w)) = true
    rw [keysOk_iL w]; rfl
@[simp] theorem dkey_iT (w : List Int) : dkey true (iT w) = true := keysOk_iL w
/-- the new count -/
theorem dget_ct {w : List Int} {c : Cnt} (nd : (c.map (·.1)).Nodup) (v : Bool) (h : c.find? (fun p => decide (p.1 = w)) = some (w, v)) : c.map (fun p => if p.1 = w then P.int (1 - if v then 1 else 0) else .int (if p.2 then 1 else 0)) = cV (c.map fun p => if p.1 = w then (p.1, !p.2) else p) := by
  unfold cV
  rw [List.map_map]
  refine List.map_congr_left fun p hp => ?_
  by_cases e : p.1 = w
  · have hv : p = (w, v) := by
      have h1 := List.mem_of_find?_eq_some h
      have : ∀ (l : Cnt), (l.map (·.1)).Nodup → p ∈ l → (w, v) ∈ l → p.1 = w → p = (w, v) := by
        intro l
        induction l with
        | nil => intro _ h; cases h
        | cons q l ih =>
          intro nd h1 h2 e
          rw [List.map_cons, List.nodup_cons] at nd
          rcases List.mem_cons.mp h1 with a | a <;> rcases List.mem_cons.mp h2 with b | b
          · rw [a, b]
          · exact absurd (show q.1 ∈ l.map (·.1) from List.mem_map.mpr ⟨(w, v), b, by rw [← a, e]⟩) nd.1
          · exact absurd (show q.1 ∈ l.map (·.1) from List.mem_map.mpr ⟨p, a, by rw [← b, e]⟩) nd.1
          · exact ih nd.2 a b e
      exact this c nd hp h1 e
    subst hv
    cases v <;> simp
  · simp [e]
theorem dput_tog {w : List Int} {c : Cnt} (nd : (c.map (·.1)).Nodup) : ∃ z : Int, (dget (iT w) (cK c) (cV c)).getD (.int 0) = .int z ∧ dputK (iT w) (cK c) = cK (tog w c) ∧ dputV (iT w) (.int (1 - z)) (cK c) (cV c) = cV (tog w c) := by
  unfold dputK dputV tog
  rw [dget_cnt, dhas_cnt]
  simp only [drepl_cnt]
  cases h : c.find? (fun p => decide (p.1 = w)) with
  | none =>
    have h' : (c.any fun p => decide (p.1 = w)) = false := by
      rw [List.find?_eq_none] at h
      rw [Bool.eq_false_iff]
      intro z
      obtain ⟨p, hp, e⟩ := List.any_eq_true.mp z
      exact h p hp e
    refine ⟨0, rfl, ?_, ?_⟩
    · simp [h', cK]
    · simp [h', cV]
  | some q =>
    have hq : q.1 = w := by simpa using List.find?_some h
    have h' : (c.any fun p => decide (p.1 = w)) = true := List.any_eq_true.mpr ⟨q, List.mem_of_find?_eq_some h, by simp [hq]⟩
    obtain ⟨q1, v⟩ := q
    subst hq
    refine ⟨if v then 1 else 0, rfl, ?_, ?_⟩
    · rw [if_pos h', if_pos h']
      unfold cK
      rw [List.map_map]
      refine List.map_congr_left fun p _ => ?_
      simp only [Function.comp]
      split <;> rfl
    · rw [if_pos h', if_pos h', dget_ct nd v h]
theorem cK_len (c : Cnt) : (cK c).length = c.length := by simp [cK]
theorem tog_len (w : List Int) (c : Cnt) : (tog w c).length ≤ c.length + 1 := by
  unfold tog
  split <;> simp
theorem all_map {α : Type} (xs : List α) (f : α → Bool) : asBools (xs.map fun x => P.bl (f x)) = some (xs.map f) := by
  induction xs with
  | nil => rfl
  | cons x xs ih => simp [asBools, ih]
/-- a comprehension with draws: what comes is a part of what is walked -/
theorem compL_sub {f : P → M (Option P)} {I : Sto → Prop} : ∀ {xs : List P}, (∀ x ∈ xs, ∀ S, I S → ∃ (b : Bool) (S' : Sto), f x S = .ok (if b then some x else none) S' ∧ I S') → ∀ S, I S → ∃ ys S', compL f xs S = .ok ys S' ∧ I S' ∧ ys.Sublist xs
  | [], _, S, hS => ⟨[], S, rfl, hS, .slnil⟩
  | x :: xs, h, S, hS => by
    obtain ⟨b, S1, e1, h1⟩ := h x (by simp) S hS
    obtain ⟨ys, S2, e2, h2, l2⟩ := compL_sub (xs := xs) (fun z hz => h z (by simp [hz])) S1 h1
    refine ⟨if b then x :: ys else ys, S2, ?_, h2, ?_⟩
    · show (f x S).then _ = _
      rw [e1]
      show (compL f xs S1).then _ = _
      rw [e2]
      cases b <;> rfl
    · cases b
      · exact l2.cons x
      · exact l2.cons_cons x
theorem sub_sL {ys : List P} : ∀ {ws : List (List Int)}, ys.Sublist (sL ws) → ∃ vs, ys = sL vs ∧ vs.Sublist ws := fun {ws} h => by
  obtain ⟨vs, h1, h2⟩ := List.sublist_map_iff.mp h
  exact ⟨vs, h2, h1⟩
section
variable (sub : Nat → Nat → Bool) (w : List Int) (ws a b : List (List Int)) (i : Int)
@[simp] theorem tup_iL : P.tup (iL w) = iT w := rfl
@[simp] theorem tup_sL : P.tup (sL ws) = sT ws := rfl
@[simp] theorem items_iT : items (iT w) = some (iL w) := rfl
@[simp] theorem items_sT : items (sT ws) = some (sL ws) := rfl
@[simp] theorem blt_len_iT : blt sub .len [iT w] = some (.int w.length) := by show some (P.int ((iL w).length : Nat)) = _; simp
@[simp] theorem blt_len_sT : blt sub .len [sT ws] = some (.int ws.length) := by show some (P.int ((sL ws).length : Nat)) = _; simp
@[simp] theorem blt_sum_iT : blt sub .sum [iT w] = some (.int w.sum) := by show (asInts (iL w)).map (fun l => P.int l.sum) = _; simp
@[simp] theorem index_iT : index (iT w) (.int i) = M.ofO (atI (iL w) i) := rfl
@[simp] theorem index_sT : index (sT ws) (.int i) = M.ofO (atI (sL ws) i) := rfl
@[simp] theorem isi_iT_tuple : isi sub (iT w) .tuple = some true := rfl
@[simp] theorem isi_sT_tuple : isi sub (sT ws) .tuple = some true := rfl
@[simp] theorem isi_iT_int : isi sub (iT w) .int = some false := rfl
@[simp] theorem isi_iT_bool : isi sub (iT w) .bool = some false := rfl
@[simp] theorem isi_iT_str : isi sub (iT w) .str = some false := rfl
@[simp] theorem isi_iT_list : isi sub (iT w) .list = some false := rfl
@[simp] theorem isNon_iT : isNon (iT w) = false := rfl
@[simp] theorem isNon_sT : isNon (sT ws) = false := rfl
@[simp] theorem bop_cat_sT : bop .add (sT a) (sT b) = if a.length + b.length ≤ lim then some (sT (a ++ b)) else none := by
  show (if (sL a).length + (sL b).length ≤ lim then some (P.tup (sL a ++ sL b)) else none) = _
  rw [sL_len, sL_len, ← sL_app]; rfl
@[simp] theorem blt_tuple_sL : blt sub .tuple [.lst (sL ws)] = some (sT ws) := rfl
@[simp] theorem blt_tuple_iL : blt sub .tuple [.lst (iL w)] = some (iT w) := rfl
@[simp] theorem eqv_sT_nil : eqv (sT a) (.tup []) = decide (a = []) := eqv_sT a []
@[simp] theorem eqv_iT_nil : eqv (iT w) (.tup []) = decide (w = []) := eqv_iT w []
@[simp] theorem atI_sL0 (v : List Int) : atI (iT v :: sL ws) 0 = some (iT v) := atI_zero
@[simp] theorem atI_iL0 (v : Int) : atI (.int v :: iL w) 0 = some (.int v) := atI_zero
@[simp] theorem cop_in_sT : cop .isin (iT w) (sT ws) = some (decide (w ∈ ws)) := by
  show (if shp 64 (iT w) && shps 63 (sL ws) then some ((sL ws).any fun z => eqv z (iT w)) else none) = _
  simp
@[simp] theorem cop_notin_sT : cop .notin (iT w) (sT ws) = some (!decide (w ∈ ws)) := by
  show (if shp 64 (iT w) && shps 63 (sL ws) then some (!(sL ws).any fun z => eqv z (iT w)) else none) = _
  simp
theorem range_fm (n : Nat) (g : P → Option P) : (rangeL 0 n).filterMap g = (List.range n).filterMap fun k => g (.int (k : Nat)) := by
  unfold rangeL
  rw [List.filterMap_map]
  congr 1
  funext k
  simp
end
theorem mem_rangeL0 {n : Nat} {x : P} (h : x ∈ rangeL 0 n) : ∃ k : Nat, k < n ∧ x = .int (k : Int) := by
  unfold rangeL at h
  obtain ⟨k, hk, rfl⟩ := List.mem_map.mp h
  exact ⟨k, List.mem_range.mp hk, by simp⟩
/-- all([f(at) for at in range(n)]) -/
theorem compL_rangeB {f : P → M (Option P)} {S : Sto} {n : Nat} {g : Nat → Bool} (h : ∀ k, k < n → f (.int (k : Nat)) S = .ok (some (.bl (g k))) S) : compL f (rangeL 0 n) S = .ok ((List.range n).map fun k => .bl (g k)) S := by
  rw [compL_ok (g := fun x => match x with | .int i => some (.bl (g i.toNat)) | _ => none)]
  · rw [range_fm]
    simp
  · intro x hx
    obtain ⟨k, hk, rfl⟩ := mem_rangeL0 hx
    rw [h k hk]
    simp
/-- all([f(x) for x in xs]) -/
theorem compL_mapB {α : Type} {e : α → P} {f : P → M (Option P)} {S : Sto} {g : α → Bool} : ∀ {xs : List α}, (∀ x ∈ xs, f (e x) S = .ok (some (.bl (g x))) S) → compL f (xs.map e) S = .ok (xs.map fun x => .bl (g x)) S
  | [], _ => rfl
  | x :: xs, h => by
    have h1 := h x (by simp)
    have h2 := compL_mapB (xs := xs) (fun y hy => h y (by simp [hy]))
    show (f (e x) S).then _ = _
    rw [h1]
    show (compL f (xs.map e) S).then _ = _
    rw [h2]
    rfl
/-- [e(y) for y in xs if ..] of told things -/
theorem compL_fm {α β : Type} {e : α → P} {e' : β → P} {f : P → M (Option P)} {S : Sto} {g : α → Option β} : ∀ {xs : List α}, (∀ x ∈ xs, f (e x) S = .ok ((g x).map e') S) → compL f (xs.map e) S = .ok ((xs.filterMap g).map e') S
  | [], _ => rfl
  | x :: xs, h => by
    have h1 := h x (by simp)
    have h2 := compL_fm (xs := xs) (fun y hy => h y (by simp [hy]))
    show (f (e x) S).then _ = _
    rw [h1]
    show (compL f (xs.map e) S).then _ = _
    rw [h2]
    rw [List.filterMap_cons]
    cases g x <;> rfl
theorem all_id {α : Type} (xs : List α) (f : α → Bool) : (xs.map f).all id = xs.all f := by rw [List.all_map]; rfl
theorem compL_iLB {f : P → M (Option P)} {S : Sto} {w : List Int} (g : Int → Bool) (h : ∀ v ∈ w, f (.int v) S = .ok (some (.bl (g v))) S) : compL f (iL w) S = .ok (w.map fun v => .bl (g v)) S := compL_mapB h
theorem compL_sLB {f : P → M (Option P)} {S : Sto} {ws : List (List Int)} (g : List Int → Bool) (h : ∀ v ∈ ws, f (iT v) S = .ok (some (.bl (g v))) S) : compL f (sL ws) S = .ok (ws.map fun v => .bl (g v)) S := compL_mapB h
theorem compL_sLf {f : P → M (Option P)} {S : Sto} {ws : List (List Int)} (g : List Int → Bool) (h : ∀ v ∈ ws, f (iT v) S = .ok (if g v then some (iT v) else none) S) : compL f (sL ws) S = .ok (sL (ws.filter g)) S := by
  have e := compL_fm (e := iT) (e' := iT) (g := fun v => if g v then some v else none) (f := f) (S := S) (xs := ws) fun v hv => by
    rw [h v hv]
    cases g v <;> rfl
  have e2 : (ws.filterMap fun v => if g v then some v else none) = ws.filter g := by
    clear e h
    induction ws with
    | nil => rfl
    | cons v ws ih =>
      rw [List.filterMap_cons, List.filter_cons, ih]
      cases g v <;> rfl
  rw [e2] at e
  exact e
theorem compL_sLm {f : P → M (Option P)} {S : Sto} {ws : List (List Int)} (g : List Int → List Int) (h : ∀ v ∈ ws, f (iT v) S = .ok (some (iT (g v))) S) : compL f (sL ws) S = .ok (sL (ws.map g)) S := by
  have e := compL_fm (e := iT) (e' := iT) (g := fun v => some (g v)) (f := f) (S := S) (xs := ws) h
  rw [List.filterMap_eq_map'] at e
  exact e
theorem find_nodup : ∀ {c : Cnt} {p : List Int × Bool}, (c.map (·.1)).Nodup → p ∈ c → (c.find? fun q => decide (q.1 = p.1)) = some p
  | [], _, _, h => by cases h
  | q :: c, p, nd, h => by
    rw [List.map_cons, List.nodup_cons] at nd
    rcases List.mem_cons.mp h with e | h
    · subst e
      rw [List.find?_cons]
      simp
    · have : ¬ q.1 = p.1 := fun e => nd.1 (e ▸ List.mem_map.mpr ⟨p, h, rfl⟩)
      rw [List.find?_cons]
      simp only [this, decide_false]
      exact find_nodup nd.2 h
/-- the keys whose count is odd -/
theorem compL_odds {f : P → M (Option P)} {S : Sto} {c : Cnt} (h : ∀ p ∈ c, f (iT p.1) S = .ok (if p.2 then some (iT p.1) else none) S) : compL f (cK c) S = .ok (sL ((c.filter (·.2)).map (·.1))) S := by
  have e := compL_fm (e := fun p : List Int × Bool => iT p.1) (e' := iT) (g := fun p => if p.2 then some p.1 else none) (f := f) (S := S) (xs := c) fun p hp => by
    rw [h p hp]
    cases p.2 <;> rfl
  have e2 : (c.filterMap fun p => if p.2 then some p.1 else none) = (c.filter (·.2)).map (·.1) := by
    clear e h
    induction c with
    | nil => rfl
    | cons v ws ih =>
      rw [List.filterMap_cons, List.filter_cons, ih]
      cases v.2 <;> rfl
  rw [e2] at e
  exact e
theorem counts_len : ∀ (xs : List (List Int)) (c : Cnt), (counts c xs).length ≤ c.length + xs.length
  | [], c => Nat.le_refl _
  | x :: xs, c => by
    have h1 := counts_len xs (tog x c)
    have h2 := tog_len x c
    show (counts (tog x c) xs).length ≤ _
    rw [List.length_cons]
    omega
@[simp] theorem xi_keys (t : Bool) (ks vs : List P) : xi .keys [.dct t ks vs] = some ks := rfl
@[simp] theorem xop_dget (t : Bool) (ks vs : List P) (k : P) : xop .dget [.dct t ks vs, k] = if dkey t k then Vi.dget k ks vs else none := rfl
@[simp] theorem xop_dgetd (t : Bool) (ks vs : List P) (k d : P) : xop .dgetd [.dct t ks vs, k, d] = if dkey t k then some ((Vi.dget k ks vs).getD d) else none := rfl
@[simp] theorem xmOk_dgetd (t : Bool) (ks vs : List P) : xmOk .dgetd (.dct t ks vs) = true := rfl
@[simp] theorem isBox_dct (t : Bool) (ks vs : List P) : isBox (.dct t ks vs) = true := rfl
@[simp] theorem isBox_lst (vs : List P) : isBox (.lst vs) = true := rfl
def notOwn : Sl → Bool
  | .own _ => false
  | _ => true
theorem isOwn_not {ρ : Env} {i : Nat} {t : Sl} (h : ρ[i]? = some t) (n : notOwn t = true) : isOwn ρ i = false := by
  unfold isOwn
  rw [h]
  cases t <;> simp_all [notOwn]
@[simp] theorem rep_one {α : Type} (k : Nat) (x : α) : rep k [x] = List.replicate k x := by
  unfold rep
  induction k with
  | zero => rfl
  | succ k ih => rw [List.replicate_succ, List.flatten_cons, ih]; rfl
@[simp] theorem revP_sT (ws : List (List Int)) : revP (sT ws) = some (sT ws.reverse) := by
  show some (P.tup (sL ws).reverse) = _
  unfold sL
  rw [← List.map_reverse]; rfl
theorem slice_last {ws : List (List Int)} (h : 1 ≤ ws.length) : slice (sT ws) (some (-1)) none = some (sT (ws.drop (ws.length - 1))) := by
  show some (P.tup (cut (sL ws) (some (-1)) none)) = _
  unfold cut sIx
  have e1 : (-1 + ((sL ws).length : Int)).toNat = ws.length - 1 := by rw [sL_len]; omega
  simp only [Int.reduceNeg, Int.reduceLT, if_true, e1]
  rw [sL_len, List.take_of_length_le (by simp)]
  unfold sL
  rw [← List.map_drop]; rfl
theorem sT_nil : sT [] = .tup [] := rfl
theorem iT_nil : iT [] = .tup [] := rfl
@[simp] theorem blt_list_sT (sub : Nat → Nat → Bool) (ws : List (List Int)) : blt sub .list [sT ws] = some (.lst (sL ws)) := rfl
@[simp] theorem blt_list_iT (sub : Nat → Nat → Bool) (w : List Int) : blt sub .list [iT w] = some (.lst (iL w)) := rfl
@[simp] theorem blt_tuple_sT (sub : Nat → Nat → Bool) (ws : List (List Int)) : blt sub .tuple [sT ws] = some (sT ws) := rfl
@[simp] theorem blt_tuple_iT (sub : Nat → Nat → Bool) (w : List Int) : blt sub .tuple [iT w] = some (iT w) := rfl
theorem forF_step {b : P → Env → M Fl} {x : P} {r : List P} {ρ ρ' : Env} {S S' : Sto} (h : b x ρ S = .ok (.nx ρ') S') : forF b (x :: r) ρ S = forF b r ρ' S' := by rw [forF_at, h]; rfl
theorem forF_cont {b : P → Env → M Fl} {x : P} {r : List P} {ρ ρ' : Env} {S S' : Sto} (h : b x ρ S = .ok (.ct ρ') S') : forF b (x :: r) ρ S = forF b r ρ' S' := by rw [forF_at, h]; rfl
theorem forF_ret {b : P → Env → M Fl} {x v : P} {r : List P} {ρ : Env} {S S' : Sto} (h : b x ρ S = .ok (.rt v) S') : forF b (x :: r) ρ S = .ok (.rt v) S' := by rw [forF_at, h]; rfl
theorem forF_brk {b : P → Env → M Fl} {x : P} {r : List P} {ρ ρ' : Env} {S S' : Sto} (h : b x ρ S = .ok (.bk ρ') S') : forF b (x :: r) ρ S = .ok (.nx ρ') S' := by rw [forF_at, h]; rfl
section
variable (d : Dn) (ρ : Env) (S : Sto)
@[simp] theorem s_unp_ (is e) : denS d (.unp is e) ρ S = (denE d ρ e S).then fun
    | .tup vs => (M.ofO (puts ρ is vs)).bind fun ρ' => M.pure (.nx ρ')
    | _ => M.no := rfl
@[simp] theorem s_pars_ (ks es) : denS d (.pars ks es) ρ S = (parM d ρ ks es S).then fun ss => M.pure (.nx (setsS ρ ks ss)) := rfl
@[simp] theorem parM_nil : parM d ρ [] .nil S = .ok [] S := rfl
@[simp] theorem parM_own (i ks e es) : parM d ρ ((true, i) :: ks) (.cons e es) S = (denE d ρ e S).then fun v => if isBox v then (parM d ρ ks es).bind fun ss => M.pure (.own v :: ss) else M.no := rfl
@[simp] theorem parM_val (i ks e es) : parM d ρ ((false, i) :: ks) (.cons e es) S = (denE d ρ e S).then fun v => (parM d ρ ks es).bind fun ss => M.pure (.val v :: ss) := rfl
@[simp] theorem setsS_nil : setsS ρ [] [] = ρ := rfl
@[simp] theorem setsS_cons (b i ks s ss) : setsS ρ ((b, i) :: ks) (s :: ss) = setsS (ρ.set i s) ks ss := rfl
@[simp] theorem s_ext_ (i e) : denS d (.ext i e) ρ S = match ρ[i]? with
    | some (.own (.lst xs)) => (denO d ρ e S).then fun v => match v with
      | .lst ys => if xs.length + ys.length ≤ lim then M.pure (.nx (ρ.set i (.own (.lst (xs ++ ys))))) else M.no
      | _ => M.no
    | _ => .no := by
  show (match ρ[i]? with
    | some (.own (.lst xs)) => (denO d ρ e).bind fun v => match v with
      | .lst ys => if xs.length + ys.length ≤ lim then M.pure (Fl.nx (ρ.set i (.own (.lst (xs ++ ys))))) else M.no
      | _ => M.no
    | _ => M.no) S = _
  cases ρ[i]? with
  | none => rfl
  | some s =>
    cases s with
    | own v => cases v <;> rfl
    | _ => rfl
@[simp] theorem s_brk_ : denS d .brk ρ S = .ok (.bk ρ) S := rfl
@[simp] theorem s_cnt_ : denS d .cnt ρ S = .ok (.ct ρ) S := rfl
end
end Vi
/-! Vi, plain facts: sums of products of tuples over two elements. -/
namespace Vi
open PySem
/-- in order, with equals -/
abbrev Asw (l : List (List Int)) : Prop := l.Pairwise fun a b => lexI b a = false
theorem lexI_wtrans {a b c : List Int} (h : lexI b a = false) (g : lexI c b = false) : lexI c a = false := by
  cases q : lexI c a with
  | false => rfl
  | true =>
    rcases lexI_conn h with e | e
    · subst e; rw [q] at g; cases g
    · have := lexI_trans q e
      rw [this] at g; cases g
theorem insI_asw {x : List Int} : ∀ {l}, Asw l → Asw (insI x l)
  | [], _ => by simp [insI]
  | y :: l, h => by
    rw [Asw, List.pairwise_cons] at h
    unfold insI
    split
    · rename_i g
      rw [Asw, List.pairwise_cons, List.pairwise_cons]
      refine ⟨fun a ha => ?_, h⟩
      rcases List.mem_cons.mp ha with e | e
      · rw [e]; exact lexI_asym g
      · exact lexI_wtrans (lexI_asym g) (h.1 a e)
    · rename_i g
      rw [Asw, List.pairwise_cons]
      refine ⟨fun a ha => ?_, insI_asw h.2⟩
      rcases insI_mem.mp ha with e | e
      · subst e; simpa using g
      · exact h.1 a e
theorem insI_count (x w : List Int) : ∀ l, (insI x l).count w = (x :: l).count w
  | [] => rfl
  | y :: l => by
    unfold insI
    split
    · rfl
    · rw [List.count_cons, insI_count x w l]
      simp only [List.count_cons]
      omega
theorem sortI_asw : ∀ {l acc}, Asw acc → Asw (sortI acc l)
  | [], _, h => h
  | x :: l, acc, h => by
    show Asw (sortI (insI x acc) l)
    exact sortI_asw (insI_asw h)
theorem sortI_count (w : List Int) : ∀ l acc, (sortI acc l).count w = acc.count w + l.count w
  | [], acc => by simp [sortI]
  | x :: l, acc => by
    show (sortI (insI x acc) l).count w = _
    rw [sortI_count w l, insI_count]
    simp only [List.count_cons]
    omega
/-- equals taken away in twos, of what is in order -/
def tgl (acc : List (List Int)) (x : List Int) : List (List Int) := if acc.getLast? = some x then acc.dropLast else acc ++ [x]
def runs2 (l : List (List Int)) : List (List Int) := l.foldl tgl []
theorem asc_dropLast {l : List (List Int)} (h : Asc l) : Asc l.dropLast := h.sublist (List.dropLast_sublist l)
theorem runs2_ok (l : List (List Int)) : Asw l → Asc (runs2 l) ∧ ∀ w, w ∈ runs2 l ↔ l.count w % 2 = 1 := by
  suffices H : ∀ r : List (List Int), Asw r.reverse → Asc (runs2 r.reverse) ∧ ∀ w, w ∈ runs2 r.reverse ↔ r.reverse.count w % 2 = 1 by
    have := H l.reverse
    rwa [List.reverse_reverse] at this
  intro r
  induction r with
  | nil => exact fun _ => ⟨List.Pairwise.nil, fun w => by simp [runs2]⟩
  | cons x r ih =>
    intro h
    rw [List.reverse_cons] at h ⊢
    generalize r.reverse = l at h ih ⊢
    rw [Asw, List.pairwise_append] at h
    obtain ⟨h1, _, h3⟩ := h
    obtain ⟨i1, i2⟩ := ih h1
    have e : runs2 (l ++ [x]) = tgl (runs2 l) x := by unfold runs2; rw [List.foldl_append]; rfl
    have mem : ∀ {w}, w ∈ runs2 l → w ∈ l := fun {w} hw => List.count_pos_iff.mp (by have := (i2 w).mp hw; omega)
    have le : ∀ w ∈ runs2 l, lexI x w = false := fun w hw => h3 w (mem hw) x (by simp)
    rw [e]
    unfold tgl
    generalize hA : runs2 l = A at i1 i2 le
    have cnt : ∀ w, (l ++ [x]).count w = l.count w + if x = w then 1 else 0 := fun w => by
      rw [List.count_append, List.count_singleton]
      by_cases q : x = w <;> simp [q]
    split
    · rename_i hl
      obtain ⟨B, rfl⟩ := List.getLast?_eq_some_iff.mp hl
      rw [List.dropLast_concat]
      rw [Asc, List.pairwise_append] at i1
      refine ⟨i1.1, fun w => ?_⟩
      have nx : x ∉ B := fun z => by have := i1.2.2 x z x (by simp); rw [lexI_irr] at this; cases this
      have iw := i2 w
      rw [cnt]
      by_cases q : x = w
      · subst q
        have : x ∈ B ++ [x] := by simp
        have := iw.mp this
        simp [nx]
        omega
      · have q' : ¬ w = x := fun z => q z.symm
        simp [q] at iw ⊢
        rw [← iw]
        simp [q']
    · rename_i hl
      have nx : x ∉ A := fun z => by
        rcases List.eq_nil_or_concat A with e | ⟨B, y, e⟩
        · rw [e] at z; cases z
        · subst e
          have hy : lexI x y = false := le y (by simp)
          rw [Asc, List.concat_eq_append, List.pairwise_append] at i1
          rw [List.concat_eq_append] at z hl
          rcases List.mem_append.mp z with z | z
          · have := i1.2.2 x z y (by simp)
            rw [this] at hy; cases hy
          · rw [List.mem_singleton] at z
            subst z
            simp at hl
      refine ⟨?_, fun w => ?_⟩
      · rw [Asc, List.pairwise_append]
        refine ⟨i1, by simp, fun a ha b hb => ?_⟩
        rw [List.mem_singleton] at hb
        subst hb
        rcases lexI_conn (le a ha) with e | e
        · exact absurd (e ▸ ha) nx
        · exact e
      · rw [cnt, List.mem_append, List.mem_singleton, i2 w]
        by_cases q : x = w
        · subst q
          have : ¬ (l.count x % 2 = 1) := fun z => nx ((i2 x).mpr z)
          simp
          omega
        · have q' : ¬ w = x := fun z => q z.symm
          simp [q, q']
/-- the law's way of sums over two elements -/
theorem runs2_odd (xs : List (List Int)) : runs2 (sortI [] xs) = oddOf xs := by
  obtain ⟨h1, h2⟩ := runs2_ok (sortI [] xs) (sortI_asw List.Pairwise.nil)
  refine (oddOf_eq h1 fun w => ?_).symm
  rw [h2, sortI_count]
  simp
/-- two lists with the same odd ones -/
theorem oddOf_congr {xs ys : List (List Int)} (h : ∀ w, xs.count w % 2 = ys.count w % 2) : oddOf xs = oddOf ys :=
  oddOf_eq (oddOf_asc ys) fun w => by rw [mem_oddOf, h]
theorem oddOf_par (xs : List (List Int)) (w : List Int) : (oddOf xs).count w % 2 = xs.count w % 2 := by
  rw [count_nodup (oddOf_asc xs).nodup]
  have := @mem_oddOf xs w
  split
  · rename_i g; have := this.mp g; omega
  · rename_i g
    have : ¬ (xs.count w % 2 = 1) := fun z => g (this.mpr z)
    omega
theorem oddOf_id {xs : List (List Int)} (h : Asc xs) : oddOf xs = xs := oddOf_eq h fun w => by
  rw [count_nodup h.nodup]
  split <;> simp [*]
theorem nodup_len : ∀ {l m : List (List Int)}, l.Nodup → (∀ x ∈ l, x ∈ m) → l.length ≤ m.length
  | [], _, _, _ => Nat.zero_le _
  | x :: l, m, nd, h => by
    rw [List.nodup_cons] at nd
    have hx : x ∈ m := h x (by simp)
    have := nodup_len (m := m.erase x) nd.2 fun y hy => by
      have hne : y ≠ x := fun e => nd.1 (e ▸ hy)
      exact (List.mem_erase_of_ne hne).mpr (h y (by simp [hy]))
    rw [List.length_erase_of_mem hx] at this
    have : 0 < m.length := List.length_pos_of_mem hx
    rw [List.length_cons]
    omega
theorem oddOf_len (xs : List (List Int)) : (oddOf xs).length ≤ xs.length := nodup_len (oddOf_asc xs).nodup fun _ h => oddOf_sub h

/-! ### products -/
def addI (a b : List Int) : List Int := List.zipWith (· + ·) a b
def subI (a b : List Int) : List Int := List.zipWith (· - ·) a b
theorem addI_comm : ∀ a b : List Int, addI a b = addI b a
  | [], [] => rfl
  | [], _ :: _ => rfl
  | _ :: _, [] => rfl
  | x :: a, y :: b => by
    show (x + y) :: addI a b = (y + x) :: addI b a
    rw [addI_comm a b, Int.add_comm]
theorem addI_len {a b : List Int} {n : Nat} (ha : a.length = n) (hb : b.length = n) : (addI a b).length = n := by
  unfold addI
  rw [List.length_zipWith, ha, hb, Nat.min_self]
theorem sub_add : ∀ {a b : List Int}, a.length = b.length → subI (addI a b) a = b
  | [], [], _ => rfl
  | [], _ :: _, h => by cases h
  | _ :: _, [], h => by cases h
  | x :: a, y :: b, h => by
    show (x + y - x) :: subI (addI a b) a = y :: b
    rw [sub_add (by simpa using h)]
    congr 1
    omega
theorem add_sub : ∀ {w a : List Int}, w.length = a.length → addI a (subI w a) = w
  | [], [], _ => rfl
  | [], _ :: _, h => by cases h
  | _ :: _, [], h => by cases h
  | x :: w, y :: a, h => by
    show (y + (x - y)) :: addI a (subI w a) = x :: w
    rw [add_sub (by simpa using h)]
    congr 1
    omega
theorem count_addI {n : Nat} {a : List Int} (ha : a.length = n) (w : List Int) : ∀ {xs : List (List Int)}, (∀ x ∈ xs, x.length = n) → (xs.map (addI a)).count w = if w.length = n then xs.count (subI w a) else 0
  | [], _ => by simp
  | x :: xs, h => by
    have hx := h x (by simp)
    rw [List.map_cons, List.count_cons, count_addI ha w (fun y hy => h y (by simp [hy])), List.count_cons]
    by_cases hw : w.length = n
    · simp only [hw, if_true]
      have : (addI a x == w) = (x == subI w a) := by
        rw [Bool.eq_iff_iff]
        simp only [beq_iff_eq]
        constructor
        · intro e; rw [← e, sub_add (by rw [ha, hx])]
        · intro e; rw [e, add_sub (by rw [hw, ha])]
      rw [this]
    · simp only [hw, if_false]
      have : ¬ (addI a x = w) := fun e => hw (by rw [← e]; exact addI_len ha hx)
      simp [this]
def times (a b : List (List Int)) : List (List Int) := a.flatMap fun x => b.map (addI x)
theorem times_cons (x a b) : times (x :: a) b = b.map (addI x) ++ times a b := rfl
theorem count_times_cons (w x a b) : (times (x :: a) b).count w = (b.map (addI x)).count w + (times a b).count w := by rw [times_cons, List.count_append]
theorem count_times_consR (w x) : ∀ a b : List (List Int), (times a (x :: b)).count w = (a.map (addI x)).count w + (times a b).count w
  | [], b => rfl
  | y :: a, b => by
    rw [count_times_cons, count_times_cons, count_times_consR w x a b, List.map_cons, List.count_cons, List.map_cons, List.count_cons, addI_comm y x]
    omega
theorem times_nilR : ∀ a : List (List Int), times a [] = []
  | [] => rfl
  | _ :: a => by rw [times_cons, times_nilR a]; rfl
theorem count_times_comm (w) : ∀ a b : List (List Int), (times a b).count w = (times b a).count w
  | [], b => by rw [times_nilR]; rfl
  | x :: a, b => by rw [count_times_cons, count_times_consR, count_times_comm w a b]
theorem count_times_par {n : Nat} (w) {xs ys : List (List Int)} (hx : ∀ x ∈ xs, x.length = n) (hy : ∀ x ∈ ys, x.length = n) (h : ∀ w, xs.count w % 2 = ys.count w % 2) : ∀ {a : List (List Int)}, (∀ x ∈ a, x.length = n) → (times a xs).count w % 2 = (times a ys).count w % 2
  | [], _ => rfl
  | x :: a, ha => by
    have ih := count_times_par w hx hy h (a := a) fun y hy => ha y (by simp [hy])
    rw [count_times_cons, count_times_cons, count_addI (ha x (by simp)) w hx, count_addI (ha x (by simp)) w hy]
    have := h (subI w x)
    split <;> omega
theorem count_times_app (w) (a xs ys : List (List Int)) : (times a (xs ++ ys)).count w = (times a xs).count w + (times a ys).count w := by
  induction a with
  | nil => rfl
  | cons x a ih =>
    rw [count_times_cons, count_times_cons, count_times_cons, List.map_append, List.count_append, ih]
    omega
theorem count_times_sq (w) : ∀ a : List (List Int), (times a a).count w % 2 = (a.map fun x => addI x x).count w % 2
  | [] => rfl
  | x :: a => by
    have ih := count_times_sq w a
    rw [count_times_cons, count_times_consR, List.map_cons, List.count_cons, List.map_cons, List.count_cons]
    omega
theorem times_mem {a b : List (List Int)} {w} (h : w ∈ times a b) : ∃ x ∈ a, ∃ y ∈ b, w = addI x y := by
  unfold times at h
  obtain ⟨x, hx, h⟩ := List.mem_flatMap.mp h
  obtain ⟨y, hy, e⟩ := List.mem_map.mp h
  exact ⟨x, hx, y, hy, e.symm⟩
theorem times_len : ∀ a b : List (List Int), (times a b).length = a.length * b.length
  | [], b => by simp [times]
  | x :: a, b => by rw [times_cons, List.length_append, times_len a b, List.length_map, List.length_cons, Nat.succ_mul, Nat.add_comm]
/-- the product of a sum over two elements -/
theorem odd_times_par {n : Nat} {a xs ys : List (List Int)} (ha : ∀ x ∈ a, x.length = n) (hx : ∀ x ∈ xs, x.length = n) (hy : ∀ x ∈ ys, x.length = n) (h : ∀ w, xs.count w % 2 = ys.count w % 2) : oddOf (times a xs) = oddOf (times a ys) := oddOf_congr fun w => count_times_par w hx hy h ha
theorem odd_times_comm (a b : List (List Int)) : oddOf (times a b) = oddOf (times b a) := oddOf_congr fun w => by rw [count_times_comm]
/-- a(b + c) = ab + ac -/
theorem odd_distrib {n : Nat} {a b c : List (List Int)} (ha : ∀ x ∈ a, x.length = n) (hb : ∀ x ∈ b, x.length = n) (hc : ∀ x ∈ c, x.length = n) : oddOf (times a (oddOf (b ++ c))) = oddOf (oddOf (times a b) ++ oddOf (times a c)) := by
  have hbc : ∀ x ∈ b ++ c, x.length = n := fun x hx => by
    rcases List.mem_append.mp hx with h | h
    · exact hb x h
    · exact hc x h
  rw [odd_times_par ha (fun x hx => hbc x (oddOf_sub hx)) hbc (oddOf_par _)]
  refine oddOf_congr fun w => ?_
  rw [count_times_app, List.count_append]
  have h1 := oddOf_par (times a b) w
  have h2 := oddOf_par (times a c) w
  omega
def dbl (a : List Int) : List Int := a.map fun v => 2 * v
theorem addI_self : ∀ a : List Int, addI a a = dbl a
  | [] => rfl
  | x :: a => by
    show (x + x) :: addI a a = (2 * x) :: dbl a
    rw [addI_self a]
    congr 1
    omega
theorem lexI_dbl : ∀ a b : List Int, lexI (dbl a) (dbl b) = lexI a b
  | [], [] => rfl
  | [], _ :: _ => rfl
  | _ :: _, [] => rfl
  | x :: a, y :: b => by
    show (if 2 * x = 2 * y then lexI (dbl a) (dbl b) else decide (2 * x < 2 * y)) = if x = y then lexI a b else decide (x < y)
    rw [lexI_dbl a b]
    by_cases h : x = y
    · simp [h]
    · rw [if_neg h, if_neg (by omega)]
      exact decide_eq_decide.mpr (by omega)
theorem odd_square {a : List (List Int)} (h : Asc a) : oddOf (times a a) = a.map dbl := by
  have h2 : Asc (a.map dbl) := List.pairwise_map.mpr (h.imp fun {x y} q => by rw [lexI_dbl]; exact q)
  refine oddOf_eq h2 fun w => ?_
  rw [count_times_sq]
  have e : (a.map fun x => addI x x) = a.map dbl := List.map_congr_left fun x _ => addI_self x
  rw [e, count_nodup h2.nodup]
  split <;> simp [*]
theorem compL_zipI {f : P → M (Option P)} {S : Sto} (g : Int → Int → Int) (h : ∀ a b, f (pairP (.int a, .int b)) S = .ok (some (.int (g a b))) S) : ∀ x y : List Int, compL f (((iL x).zip (iL y)).map pairP) S = .ok (iL (List.zipWith g x y)) S
  | [], _ => rfl
  | _ :: _, [] => rfl
  | a :: x, b :: y => by
    have ih := compL_zipI g h x y
    show (f (pairP (.int a, .int b)) S).then _ = _
    rw [h a b]
    show (compL f (((iL x).zip (iL y)).map pairP) S).then _ = _
    rw [ih]
    rfl
theorem compL_rangeI {f : P → M (Option P)} {S : Sto} {n : Nat} (g : Nat → Int) (h : ∀ k, k < n → f (.int (k : Nat)) S = .ok (some (.int (g k))) S) : compL f (rangeL 0 n) S = .ok (iL ((List.range n).map g)) S := by
  rw [compL_ok (g := fun x => match x with | .int i => some (.int (g i.toNat)) | _ => none)]
  · rw [range_fm]
    simp [iL]
  · intro x hx
    obtain ⟨k, hk, rfl⟩ := mem_rangeL0 hx
    rw [h k hk]
    simp
theorem range_addI' : ∀ x y : List Int, x.length = y.length → (List.range x.length).map (fun k => x.getD k 0 + y.getD k 0) = addI x y
  | [], [], _ => rfl
  | [], _ :: _, h => by cases h
  | _ :: _, [], h => by cases h
  | a :: x, b :: y, h => by
    rw [List.length_cons, List.range_succ_eq_map, List.map_cons, List.map_map]
    show (a + b) :: _ = (a + b) :: addI x y
    rw [← range_addI' x y (by simpa using h)]
    congr 1
theorem range_addI {n : Nat} {x y : List Int} (hx : x.length = n) (hy : y.length = n) : (List.range n).map (fun k => x.getD k 0 + y.getD k 0) = addI x y := by
  rw [← range_addI' x y (by rw [hx, hy]), hx]
@[simp] theorem zip_iT (x y : List Int) : zipP (iT x) (iT y) = some (((iL x).zip (iL y)).map pairP) := rfl
theorem xop_sorted_sT {ws : List (List Int)} (h : ∀ w ∈ ws, w ≠ []) : xop .sorted [sT ws] = some (.lst (sL (sortI [] ws))) := by
  show (if srtOk (sL ws) then some (P.lst (isort (sL []) (sL ws))) else none) = _
  rw [srtOk_sL h, isort_sL]; rfl
theorem atI_last (B : List (List Int)) (y : List Int) : atI (sL (B ++ [y])) (-1) = some (iT y) := by
  unfold atI ixN
  have h1 : ¬ (0 : Int) ≤ -1 := by omega
  have h2 : -(((sL (B ++ [y])).length : Nat) : Int) ≤ -1 := by rw [sL_len, List.length_append, List.length_singleton]; omega
  rw [if_neg h1, if_pos h2]
  have h3 : (-1 + (((sL (B ++ [y])).length : Nat) : Int)).toNat = B.length := by rw [sL_len]; simp; omega
  simp only [Option.bind_some, h3]
  simp [sL]
theorem slice_init (B : List (List Int)) (y : List Int) : slice (.lst (sL (B ++ [y]))) none (some (-1)) = some (.lst (sL B)) := by
  show some (P.lst (cut (sL (B ++ [y])) none (some (-1)))) = _
  unfold cut sIx
  have e1 : (-1 + ((sL (B ++ [y])).length : Int)).toNat = B.length := by rw [sL_len]; simp; omega
  simp only [Int.reduceNeg, Int.reduceLT, if_true, e1]
  simp [sL]
@[simp] theorem shps_app (n : Nat) : ∀ a b : List P, shps n (a ++ b) = (shps n a && shps n b)
  | [], b => by simp
  | x :: a, b => by simp [shps_app n a b, Bool.and_assoc]
@[simp] theorem atI_z0 (x : P) (xs : List P) : atI (x :: xs) 0 = some x := atI_zero
theorem compL_iLm {f : P → M (Option P)} {S : Sto} {w : List Int} (g : Int → Int) (h : ∀ v ∈ w, f (.int v) S = .ok (some (.int (g v))) S) : compL f (iL w) S = .ok (iL (w.map g)) S := by
  have e := compL_fm (e := P.int) (e' := P.int) (g := fun v => some (g v)) (f := f) (S := S) (xs := w) h
  rw [List.filterMap_eq_map'] at e
  exact e
theorem compL_sLI {f : P → M (Option P)} {S : Sto} {ws : List (List Int)} (g : List Int → Int) (h : ∀ v ∈ ws, f (iT v) S = .ok (some (.int (g v))) S) : compL f (sL ws) S = .ok (iL (ws.map g)) S := by
  have e := compL_fm (e := iT) (e' := P.int) (g := fun v => some (g v)) (f := f) (S := S) (xs := ws) h
  rw [List.filterMap_eq_map'] at e
  exact e
theorem mulOk2 (v : Int) : mulOk 2 v = true := by rw [mulOk_eq]; simp
end Vi
namespace Vg
open PySem PySem.Spec PyProof.Rows L2 Vi
def topS (i : Nat) : Stmt := PySem.Challenge.pw_squaresact_k23_whole_powers_of_one_lette.main.body.getD i (.Pass ⟨0, 0, 0, 0⟩)
def s_is_whole : Stmt := topS 7
def s_need_whole : Stmt := topS 8
def s_is_tuple_of : Stmt := topS 9
def s_is_word : Stmt := topS 13
def s_need_word : Stmt := topS 14
def s_is_odd : Stmt := topS 15
def s_is_odd_choice : Stmt := topS 16
def s_words_from : Stmt := topS 18
def s_rising_in : Stmt := topS 19
def s_odd_ones : Stmt := topS 21
def s_is_polynomial : Stmt := topS 26
def s_need_polynomial : Stmt := topS 27
def s_need_number : Stmt := topS 30
def s_shared_out : Stmt := topS 31
def s_square_in : Stmt := topS 32
def s_square_of : Stmt := topS 33
def s_power_squared : Stmt := topS 36
def s_power_led : Stmt := topS 37
def s_need_exponent : Stmt := topS 38
def s_letter_square : Stmt := topS 39
def s_letter_word : Stmt := topS 40
def s_letter_words : Stmt := topS 41
def s_letter_reach : Stmt := topS 42
def s_stages_in : Stmt := topS 44
def s_word_in : Stmt := topS 45
def s_act_word : Stmt := topS 46
def s__law_cup : Stmt := topS 48
def s__law_roll : Stmt := topS 49
def s__law_sort : Stmt := topS 50
def s__law_like : Stmt := topS 51
def s__law_ways : Stmt := topS 52
def s__law_rising : Stmt := topS 53
def s__law_error : Stmt := topS 54
def s__law_led : Stmt := topS 55
def s__law_squares_right : Stmt := topS 56
def s__law_word_right : Stmt := topS 57
def s__law_words_right : Stmt := topS 58
def s__law_reach_right : Stmt := topS 59
def s__law_errors_right : Stmt := topS 60
def s_law : Stmt := topS 61
theorem sc_is_whole : FnScope ["value", "low", "high"] ["value", "low", "high"] (defScope s_is_whole) := ⟨by kernel_rfl, by kernel_rfl, by kernel_rfl, by decide +kernel, by kernel_rfl, by decide +kernel, by decide +kernel⟩
theorem sc_need_whole : FnScope ["value", "low", "high"] ["value", "low", "high"] (defScope s_need_whole) := ⟨by kernel_rfl, by kernel_rfl, by kernel_rfl, by decide +kernel, by kernel_rfl, by decide +kernel, by decide +kernel⟩
theorem sc_is_tuple_of : FnScope ["value", "low", "high"] ["value", "low", "high"] (defScope s_is_tuple_of) := ⟨by kernel_rfl, by kernel_rfl, by kernel_rfl, by decide +kernel, by kernel_rfl, by decide +kernel, by decide +kernel⟩
theorem sc_is_word : FnScope ["value", "own"] ["value"] (defScope s_is_word) := ⟨by kernel_rfl, by kernel_rfl, by kernel_rfl, by decide +kernel, by kernel_rfl, by decide +kernel, by decide +kernel⟩
theorem sc_need_word : FnScope ["value"] ["value"] (defScope s_need_word) := ⟨by kernel_rfl, by kernel_rfl, by kernel_rfl, by decide +kernel, by kernel_rfl, by decide +kernel, by decide +kernel⟩
theorem sc_is_odd : FnScope ["many", "some"] ["many", "some"] (defScope s_is_odd) := ⟨by kernel_rfl, by kernel_rfl, by kernel_rfl, by decide +kernel, by kernel_rfl, by decide +kernel, by decide +kernel⟩
theorem sc_is_odd_choice : FnScope ["many", "some"] ["many", "some"] (defScope s_is_odd_choice) := ⟨by kernel_rfl, by kernel_rfl, by kernel_rfl, by decide +kernel, by kernel_rfl, by decide +kernel, by decide +kernel⟩
theorem sc_words_from : FnScope ["degree", "most", "found", "own", "rest"] ["degree", "most"] (defScope s_words_from) := ⟨by kernel_rfl, by kernel_rfl, by kernel_rfl, by decide +kernel, by kernel_rfl, by decide +kernel, by decide +kernel⟩
theorem sc_rising_in : FnScope ["degree"] ["degree"] (defScope s_rising_in) := ⟨by kernel_rfl, by kernel_rfl, by kernel_rfl, by decide +kernel, by kernel_rfl, by decide +kernel, by decide +kernel⟩
theorem sc_odd_ones : FnScope ["things", "count", "own"] ["things"] (defScope s_odd_ones) := ⟨by kernel_rfl, by kernel_rfl, by kernel_rfl, by decide +kernel, by kernel_rfl, by decide +kernel, by decide +kernel⟩
theorem sc_is_polynomial : FnScope ["value", "letters", "terms", "term", "own", "at"] ["value"] (defScope s_is_polynomial) := ⟨by kernel_rfl, by kernel_rfl, by kernel_rfl, by decide +kernel, by kernel_rfl, by decide +kernel, by decide +kernel⟩
theorem sc_need_polynomial : FnScope ["value"] ["value"] (defScope s_need_polynomial) := ⟨by kernel_rfl, by kernel_rfl, by kernel_rfl, by decide +kernel, by kernel_rfl, by decide +kernel, by decide +kernel⟩
theorem sc_need_number : FnScope ["value"] ["value"] (defScope s_need_number) := ⟨by kernel_rfl, by kernel_rfl, by kernel_rfl, by decide +kernel, by kernel_rfl, by decide +kernel, by decide +kernel⟩
theorem sc_shared_out : FnScope ["number", "term", "rows", "own", "longer", "ahead", "used", "ways", "part"] ["number", "term"] (defScope s_shared_out) := ⟨by kernel_rfl, by kernel_rfl, by kernel_rfl, by decide +kernel, by kernel_rfl, by decide +kernel, by decide +kernel⟩
theorem sc_square_in : FnScope ["number", "terms", "found", "term"] ["number", "terms"] (defScope s_square_in) := ⟨by kernel_rfl, by kernel_rfl, by kernel_rfl, by decide +kernel, by kernel_rfl, by decide +kernel, by decide +kernel⟩
theorem sc_square_of : FnScope ["number", "polynomial"] ["number", "polynomial"] (defScope s_square_of) := ⟨by kernel_rfl, by kernel_rfl, by kernel_rfl, by decide +kernel, by kernel_rfl, by decide +kernel, by decide +kernel⟩
theorem sc_power_squared : FnScope ["number", "exponent"] ["number", "exponent"] (defScope s_power_squared) := ⟨by kernel_rfl, by kernel_rfl, by kernel_rfl, by decide +kernel, by kernel_rfl, by decide +kernel, by decide +kernel⟩
theorem sc_power_led : FnScope ["word", "exponent", "found", "number"] ["word", "exponent"] (defScope s_power_led) := ⟨by kernel_rfl, by kernel_rfl, by kernel_rfl, by decide +kernel, by kernel_rfl, by decide +kernel, by decide +kernel⟩
theorem sc_need_exponent : FnScope ["value"] ["value"] (defScope s_need_exponent) := ⟨by kernel_rfl, by kernel_rfl, by kernel_rfl, by decide +kernel, by kernel_rfl, by decide +kernel, by decide +kernel⟩
theorem sc_letter_square : FnScope ["number", "exponent"] ["number", "exponent"] (defScope s_letter_square) := ⟨by kernel_rfl, by kernel_rfl, by kernel_rfl, by decide +kernel, by kernel_rfl, by decide +kernel, by decide +kernel⟩
theorem sc_letter_word : FnScope ["word", "exponent"] ["word", "exponent"] (defScope s_letter_word) := ⟨by kernel_rfl, by kernel_rfl, by kernel_rfl, by decide +kernel, by kernel_rfl, by decide +kernel, by decide +kernel⟩
theorem sc_letter_words : FnScope ["degree", "exponent", "word"] ["degree", "exponent"] (defScope s_letter_words) := ⟨by kernel_rfl, by kernel_rfl, by kernel_rfl, by decide +kernel, by kernel_rfl, by decide +kernel, by decide +kernel⟩
theorem sc_letter_reach : FnScope ["exponent", "most", "known", "own", "number"] ["exponent", "most"] (defScope s_letter_reach) := ⟨by kernel_rfl, by kernel_rfl, by kernel_rfl, by decide +kernel, by kernel_rfl, by decide +kernel, by decide +kernel⟩
theorem sc_stages_in : FnScope ["word", "terms", "found", "number"] ["word", "terms"] (defScope s_stages_in) := ⟨by kernel_rfl, by kernel_rfl, by kernel_rfl, by decide +kernel, by kernel_rfl, by decide +kernel, by decide +kernel⟩
theorem sc_word_in : FnScope ["word", "terms"] ["word", "terms"] (defScope s_word_in) := ⟨by kernel_rfl, by kernel_rfl, by kernel_rfl, by decide +kernel, by kernel_rfl, by decide +kernel, by decide +kernel⟩
theorem sc_act_word : FnScope ["word", "polynomial"] ["word", "polynomial"] (defScope s_act_word) := ⟨by kernel_rfl, by kernel_rfl, by kernel_rfl, by decide +kernel, by kernel_rfl, by decide +kernel, by decide +kernel⟩
theorem sc__law_cup : FnScope ["script", "cell"] ["script"] (defScope s__law_cup) := ⟨by kernel_rfl, by kernel_rfl, by kernel_rfl, by decide +kernel, by kernel_rfl, by decide +kernel, by decide +kernel⟩
theorem sc__law_roll : FnScope ["cup", "many", "found"] ["cup", "many"] (defScope s__law_roll) := ⟨by kernel_rfl, by kernel_rfl, by kernel_rfl, by decide +kernel, by kernel_rfl, by decide +kernel, by decide +kernel⟩
theorem sc__law_sort : FnScope ["value"] ["value"] (defScope s__law_sort) := ⟨by kernel_rfl, by kernel_rfl, by kernel_rfl, by decide +kernel, by kernel_rfl, by decide +kernel, by decide +kernel⟩
theorem sc__law_like : FnScope ["one", "other", "sort", "first", "second"] ["one", "other"] (defScope s__law_like) := ⟨by kernel_rfl, by kernel_rfl, by kernel_rfl, by decide +kernel, by kernel_rfl, by decide +kernel, by decide +kernel⟩
theorem sc__law_ways : FnScope ["exponent", "row", "turn", "one", "other"] ["exponent"] (defScope s__law_ways) := ⟨by kernel_rfl, by kernel_rfl, by kernel_rfl, by decide +kernel, by kernel_rfl, by decide +kernel, by decide +kernel⟩
theorem sc__law_rising : FnScope ["degree", "most", "rows", "found", "turn", "longer", "ahead", "high", "left", "own"] ["degree", "most"] (defScope s__law_rising) := ⟨by kernel_rfl, by kernel_rfl, by kernel_rfl, by decide +kernel, by kernel_rfl, by decide +kernel, by decide +kernel⟩
theorem sc__law_error : FnScope ["call", "e", "rows", "word", "fits"] ["call"] (defScope s__law_error) := ⟨by kernel_rfl, by kernel_rfl, by kernel_rfl, by decide +kernel, by kernel_rfl, by decide +kernel, by decide +kernel⟩
theorem sc__law_led : FnScope ["word", "exponent", "found", "number", "ways"] ["word", "exponent"] (defScope s__law_led) := ⟨by kernel_rfl, by kernel_rfl, by kernel_rfl, by decide +kernel, by kernel_rfl, by decide +kernel, by decide +kernel⟩
theorem sc__law_squares_right : FnScope ["most", "exponent", "ways", "number", "due", "told"] ["most"] (defScope s__law_squares_right) := ⟨by kernel_rfl, by kernel_rfl, by kernel_rfl, by decide +kernel, by kernel_rfl, by decide +kernel, by decide +kernel⟩
theorem sc__law_word_right : FnScope ["word", "exponent", "due", "told"] ["word", "exponent"] (defScope s__law_word_right) := ⟨by kernel_rfl, by kernel_rfl, by kernel_rfl, by decide +kernel, by kernel_rfl, by decide +kernel, by decide +kernel⟩
theorem sc__law_words_right : FnScope ["degree", "exponent", "due", "word"] ["degree", "exponent"] (defScope s__law_words_right) := ⟨by kernel_rfl, by kernel_rfl, by kernel_rfl, by decide +kernel, by kernel_rfl, by decide +kernel, by decide +kernel⟩
theorem sc__law_reach_right : FnScope ["exponent", "most", "known", "turn", "longer", "own", "ways", "number"] ["exponent", "most"] (defScope s__law_reach_right) := ⟨by kernel_rfl, by kernel_rfl, by kernel_rfl, by decide +kernel, by kernel_rfl, by decide +kernel, by decide +kernel⟩
theorem sc__law_errors_right : FnScope ["words", "odd"] [] (defScope s__law_errors_right) := ⟨by kernel_rfl, by kernel_rfl, by kernel_rfl, by decide +kernel, by kernel_rfl, by decide +kernel, by decide +kernel⟩
theorem sc_law : FnScope ["script", "told", "due", "cup", "turn", "word", "exponent", "own"] ["script"] (defScope s_law) := ⟨by kernel_rfl, by kernel_rfl, by kernel_rfl, by decide +kernel, by kernel_rfl, by decide +kernel, by decide +kernel⟩
/-- the classes: 0 SquareError, 1 InvalidNumber, 6 InvalidWord, 8 InvalidPolynomial, 19 TooMany -/
def sub : Nat → Nat → Bool
  | 0, j => j == 0
  | 1, j => j == 1 || j == 0
  | 6, j => j == 6 || j == 0
  | 8, j => j == 8 || j == 0
  | 19, j => j == 19 || j == 0
  | _, _ => false
def prs0 (c : Nat) : List (Str × Bool) := [(("number" : Str), sub c 1), (("word" : Str), sub c 6)]
def hd (c : Nat) (_ : P) : Option Str := if sub c 19 then none else some (Txt.join (" " : Str) (wordsOf (prs0 c)))
def b_is_whole : Body := ⟨3, 3, .ret (.and (.blt (.isi .int) (.cons (.e (.var 0)) .nil)) (.and (.not (.blt (.isi .bool) (.cons (.e (.var 0)) .nil))) (.chn .le .le (.var 1) (.var 0) (.var 2))))⟩
def b_need_whole : Body := ⟨3, 3, .ife (.not (.val (.e (.call 8 (.cons (.var 0) (.cons (.var 1) (.cons (.var 2) (.nil)))))))) (.rais 1) (.pas)⟩
def b_is_tuple_of : Body := ⟨3, 3, .ret (.and (.blt (.isi .tuple) (.cons (.e (.var 0)) .nil)) (.chn .le .le (.var 1) (.blt .len (.cons (.e (.var 0)) (.nil))) (.var 2)))⟩
def c_is_word_1 : CE := .call 8 (.cons (.var 1) (.cons (.con (.int 1)) (.cons (.glob (.int 40)) (.nil))))
def b_is_word : Body := ⟨1, 2, .seq (.ife (.or (.not (.val (.e (.call 10 (.cons (.var 0) (.cons (.con (.int 0)) (.cons (.glob (.int 12)) (.nil)))))))) (.not (.val (.e (.blt .all (.cons (.e (.lc [1] (.n 1) (.seq (.e (.var 0))) (.yes) c_is_word_1)) (.nil))))))) (.ret (.con (.bl false))) (.pas)) (.ret (.cmp .le (.e (.blt .sum (.cons (.e (.var 0)) (.nil)))) (.e (.glob (.int 40)))))⟩
def b_need_word : Body := ⟨1, 1, .ife (.not (.val (.e (.call 605 (.cons (.var 0) (.nil)))))) (.rais 6) (.pas)⟩
def b_is_odd : Body := ⟨2, 2, .ret (.and (.chn .le .le (.con (.int 0)) (.var 1) (.var 0)) (.cmp .eq (.e (.op .band (.e (.var 0)) (.e (.var 1)))) (.e (.var 1))))⟩
def b_is_odd_choice : Body := ⟨2, 2, .seq (.ife (.not (.val (.e (.call 8 (.cons (.var 0) (.cons (.con (.int 0)) (.cons (.op .pow (.e (.con (.int 10))) (.e (.con (.int 6)))) (.nil)))))))) (.rais 1) (.pas)) (.seq (.ife (.not (.val (.e (.call 8 (.cons (.var 1) (.cons (.con (.int 0)) (.cons (.op .pow (.e (.con (.int 10))) (.e (.con (.int 6)))) (.nil)))))))) (.rais 1) (.pas)) (.ret (.call 610 (.cons (.var 0) (.cons (.var 1) (.nil))))))⟩
def c_words_from_1 : CE := .op .add (.e (.tup (.cons (.var 3) (.nil)))) (.e (.var 4))
def l_words_from_1 : CS := .set 2 (.op .add (.e (.var 2)) (.e (.lc [4] (.n 4) (.seq (.e (.call 254 (.cons (.op .sub (.e (.var 0)) (.e (.var 3))) (.cons (.op .fdiv (.e (.var 3)) (.e (.con (.int 2)))) (.nil)))))) (.yes) c_words_from_1)))
def b_words_from : Body := ⟨2, 5, .seq (.ife (.val (.e (.cmp .eq (.e (.var 0)) (.e (.con (.int 0)))))) (.ret (.lst (.cons (.tup (.nil)) (.nil)))) (.pas)) (.seq (.set 2 (.lst (.nil))) (.seq (.forr (.n 3) (.rng2 (.con (.int 1)) (.op .add (.e (.blt .min (.cons (.e (.var 0)) (.cons (.e (.var 1)) (.nil))))) (.e (.con (.int 1))))) (l_words_from_1)) (.ret (.var 2))))⟩
def b_rising_in_risingwords : Body := ⟨1, 1, .ret (.call 254 (.cons (.var 0) (.cons (.var 0) (.nil))))⟩
def c_odd_ones_1 : CE := .var 2
def q_odd_ones_1 : CQ := .one (.val (.e (.cmp .eq (.e (.x .dget (.cons (.look 1) (.cons (.e (.var 2)) .nil)))) (.e (.con (.int 1))))))
def l_odd_ones_1 : CS := .dput 1 (.var 2) (.op .sub (.e (.con (.int 1))) (.e (.xm .dgetd (.look 1) (.cons (.e (.var 2)) (.cons (.e (.con (.int 0))) .nil)))))
def b_odd_ones : Body := ⟨1, 3, .seq (.own 1 (.newd true)) (.seq (.forr (.n 2) (.seq (.e (.var 0))) (l_odd_ones_1)) (.seq (.frzd 1) (.ret (.blt .tuple (.cons (.e (.x .sorted (.cons (.e (.lc [2] (.n 2) (.x .keys (.cons (.e (.var 1)) .nil)) q_odd_ones_1 c_odd_ones_1)) (.nil)))) (.nil))))))⟩
def c_is_polynomial_1 : CE := .call 8 (.cons (.var 4) (.cons (.con (.int 0)) (.cons (.glob (.int 64)) (.nil))))
def c_is_polynomial_2 : CE := .cmp .lt (.e (.ix (.e (.var 2)) (.var 5))) (.e (.ix (.e (.var 2)) (.op .add (.e (.var 5)) (.e (.con (.int 1))))))
def l_is_polynomial_1 : CS := .ife (.or (.not (.val (.e (.call 10 (.cons (.var 3) (.cons (.var 1) (.cons (.var 1) (.nil)))))))) (.not (.val (.e (.blt .all (.cons (.e (.lc [4] (.n 4) (.seq (.e (.var 3))) (.yes) c_is_polynomial_1)) (.nil))))))) (.ret (.con (.bl false))) (.pas)
def b_is_polynomial : Body := ⟨1, 6, .seq (.ife (.or (.not (.val (.e (.call 10 (.cons (.var 0) (.cons (.con (.int 2)) (.cons (.con (.int 2)) (.nil)))))))) (.or (.not (.val (.e (.call 8 (.cons (.ix (.e (.var 0)) (.con (.int 0))) (.cons (.con (.int 1)) (.cons (.glob (.int 8)) (.nil)))))))) (.not (.val (.e (.call 10 (.cons (.ix (.e (.var 0)) (.con (.int 1))) (.cons (.con (.int 0)) (.cons (.glob (.int 2000)) (.nil)))))))))) (.ret (.con (.bl false))) (.pas)) (.seq (.unp [1, 2] (.var 0)) (.seq (.forr (.n 3) (.seq (.e (.var 2))) (l_is_polynomial_1)) (.ret (.blt .all (.cons (.e (.lc [5] (.n 5) (.rng1 (.op .sub (.e (.blt .len (.cons (.e (.var 2)) (.nil)))) (.e (.con (.int 1))))) (.yes) c_is_polynomial_2)) (.nil))))))⟩
def b_need_polynomial : Body := ⟨1, 1, .ife (.not (.val (.e (.call 224 (.cons (.var 0) (.nil)))))) (.rais 8) (.pas)⟩
def b_need_number : Body := ⟨1, 1, .drop (.call 9 (.cons (.var 0) (.cons (.con (.int 0)) (.cons (.glob (.int 64)) (.nil)))))⟩
def c_shared_out_1 : CE := .var 8
def q_shared_out_1 : CQ := .one (.val (.e (.call 610 (.cons (.var 3) (.cons (.var 8) (.nil))))))
def c_shared_out_3 : CE := .tup (.cons (.op .add (.e (.var 5)) (.e (.tup (.cons (.op .add (.e (.var 3)) (.e (.var 8))) (.nil))))) (.cons (.op .add (.e (.var 6)) (.e (.var 8))) (.nil)))
def c_shared_out_4 : CE := .var 5
def q_shared_out_4 : CQ := .one (.val (.e (.cmp .eq (.e (.var 6)) (.e (.var 0)))))
def l_shared_out_1 : CS := .seq (.set 7 (.lc [8] (.n 8) (.rng1 (.op .add (.e (.blt .min (.cons (.e (.var 3)) (.cons (.e (.op .sub (.e (.var 0)) (.e (.var 6)))) (.nil))))) (.e (.con (.int 1))))) q_shared_out_1 c_shared_out_1)) (.set 4 (.op .add (.e (.var 4)) (.e (.lc [8] (.n 8) (.seq (.e (.var 7))) (.yes) c_shared_out_3))))
def l_shared_out_2 : CS := .seq (.set 4 (.lst (.nil))) (.seq (.forr (.t [5, 6]) (.seq (.e (.var 2))) (l_shared_out_1)) (.set 2 (.var 4)))
def b_shared_out : Body := ⟨2, 9, .seq (.set 2 (.lst (.cons (.tup (.cons (.tup (.nil)) (.cons (.con (.int 0)) (.nil)))) (.nil)))) (.seq (.forr (.n 3) (.seq (.e (.var 1))) (l_shared_out_2)) (.ret (.lc [5, 6] (.t [5, 6]) (.seq (.e (.var 2))) q_shared_out_4 c_shared_out_4)))⟩
def l_square_in_squares_1 : CS := .set 2 (.op .add (.e (.var 2)) (.e (.call 418 (.cons (.var 0) (.cons (.var 3) (.nil))))))
def b_square_in_squares : Body := ⟨2, 4, .seq (.set 2 (.lst (.nil))) (.seq (.forr (.n 3) (.seq (.e (.var 1))) (l_square_in_squares_1)) (.ret (.call 526 (.cons (.var 2) (.nil)))))⟩
def b_square_of : Body := ⟨2, 2, .seq (.drop (.call 417 (.cons (.var 0) (.nil)))) (.seq (.drop (.call 225 (.cons (.var 1) (.nil)))) (.ret (.tup (.cons (.ix (.e (.var 1)) (.con (.int 0))) (.cons (.call 419 (.cons (.var 0) (.cons (.ix (.e (.var 1)) (.con (.int 1))) (.nil)))) (.nil))))))⟩
def b_power_squared : Body := ⟨2, 2, .ret (.ife (.val (.e (.call 610 (.cons (.var 1) (.cons (.var 0) (.nil)))))) (.op .add (.e (.var 1)) (.e (.var 0))) (.con .non))⟩
def l_power_led_1 : CS := .set 2 (.ife (.val (.e (.cmp .isnot (.e (.var 2)) (.e (.con .non))))) (.call 156 (.cons (.var 3) (.cons (.var 2) (.nil)))) (.con .non))
def b_power_led : Body := ⟨2, 4, .seq (.set 2 (.var 1)) (.seq (.forr (.n 3) (.seq (.e (.rev (.e (.var 0))))) (l_power_led_1)) (.ret (.var 2)))⟩
def b_need_exponent : Body := ⟨1, 1, .drop (.call 9 (.cons (.var 0) (.cons (.con (.int 0)) (.cons (.glob (.int 64)) (.nil)))))⟩
def b_letter_square : Body := ⟨2, 2, .seq (.drop (.call 417 (.cons (.var 0) (.nil)))) (.seq (.drop (.call 158 (.cons (.var 1) (.nil)))) (.ret (.call 156 (.cons (.var 0) (.cons (.var 1) (.nil))))))⟩
def b_letter_word : Body := ⟨2, 2, .seq (.drop (.call 606 (.cons (.var 0) (.nil)))) (.seq (.drop (.call 158 (.cons (.var 1) (.nil)))) (.ret (.call 157 (.cons (.var 0) (.cons (.var 1) (.nil))))))⟩
def c_letter_words_1 : CE := .var 2
def q_letter_words_1 : CQ := .one (.val (.e (.cmp .isnot (.e (.call 157 (.cons (.var 2) (.cons (.var 1) (.nil))))) (.e (.con .non)))))
def b_letter_words : Body := ⟨2, 3, .seq (.drop (.call 9 (.cons (.var 0) (.cons (.con (.int 0)) (.cons (.glob (.int 40)) (.nil)))))) (.seq (.drop (.call 158 (.cons (.var 1) (.nil)))) (.ret (.blt .tuple (.cons (.e (.lc [2] (.n 2) (.seq (.e (.call 255 (.cons (.var 0) (.nil))))) q_letter_words_1 c_letter_words_1)) (.nil)))))⟩
def c_letter_reach_1 : CE := .cmp .eq (.e (.var 3)) (.e (.var 0))
def c_letter_reach_2 : CE := .var 3
def q_letter_reach_2 : CQ := .one (.val (.e (.ix (.look 2) (.var 3))))
def l_letter_reach_1 : CS := .seti 2 (.op .add (.e (.var 3)) (.e (.var 4))) (.or (.ix (.look 2) (.op .add (.e (.var 3)) (.e (.var 4)))) (.call 610 (.cons (.var 3) (.cons (.var 4) (.nil)))))
def l_letter_reach_2 : CS := .ife (.val (.e (.ix (.look 2) (.var 3)))) (.forr (.n 4) (.rng2 (.con (.int 1)) (.op .add (.e (.blt .min (.cons (.e (.var 3)) (.cons (.e (.op .sub (.e (.var 1)) (.e (.var 3)))) (.nil))))) (.e (.con (.int 1))))) (l_letter_reach_1)) (.pas)
def b_letter_reach : Body := ⟨2, 5, .seq (.drop (.call 158 (.cons (.var 0) (.nil)))) (.seq (.drop (.call 9 (.cons (.var 1) (.cons (.con (.int 0)) (.cons (.glob (.int 200)) (.nil)))))) (.seq (.own 2 (.lc [3] (.n 3) (.rng1 (.op .add (.e (.blt .max (.cons (.e (.var 1)) (.cons (.e (.var 0)) (.nil))))) (.e (.con (.int 1))))) (.yes) c_letter_reach_1)) (.seq (.forr (.n 3) (.rng2 (.var 0) (.op .add (.e (.var 1)) (.e (.con (.int 1))))) (l_letter_reach_2)) (.ret (.blt .tuple (.cons (.e (.lc [3] (.n 3) (.rng1 (.op .add (.e (.var 1)) (.e (.con (.int 1))))) q_letter_reach_2 c_letter_reach_2)) (.nil)))))))⟩
def l_stages_in_1 : CS := .app 2 (.call 419 (.cons (.var 3) (.cons (.ix (.look 2) (.neg (.con (.int 1)))) (.nil))))
def b_stages_in : Body := ⟨2, 4, .seq (.own 2 (.lst (.cons (.var 1) (.nil)))) (.seq (.forr (.n 3) (.seq (.e (.rev (.e (.var 0))))) (l_stages_in_1)) (.seq (.frz 2) (.ret (.var 2))))⟩
def b_word_in_actedwords : Body := ⟨2, 2, .ret (.ix (.e (.call 700 (.cons (.var 0) (.cons (.var 1) (.nil))))) (.neg (.con (.int 1))))⟩
def b_act_word : Body := ⟨2, 2, .seq (.drop (.call 606 (.cons (.var 0) (.nil)))) (.seq (.drop (.call 225 (.cons (.var 1) (.nil)))) (.ret (.tup (.cons (.ix (.e (.var 1)) (.con (.int 0))) (.cons (.call 701 (.cons (.var 0) (.cons (.ix (.e (.var 1)) (.con (.int 1))) (.nil)))) (.nil))))))⟩
def b__law_cup : Body := ⟨1, 2, .seq (.set 1 (.blt .abs (.cons (.e (.ix (.e (.op .add (.e (.blt .list (.cons (.e (.var 0)) (.nil)))) (.e (.lst (.cons (.con (.int 0)) (.nil)))))) (.con (.int 0)))) (.nil)))) (.ret (.newref (.cons (.ife (.val (.e (.cmp .ge (.e (.var 1)) (.e (.op .pow (.e (.con (.int 10))) (.e (.con (.int 18)))))))) (.op .fdiv (.e (.var 1)) (.e (.con (.int 317)))) (.con (.int 0))) (.cons (.op .mod (.e (.blt .int (.cons (.e (.op .add (.e (.op .mul (.e (.var 1)) (.e (.con (.int 1097))))) (.e (.con (.int 99721))))) (.nil)))) (.e (.con (.int 1048576)))) (.nil)))))⟩
def b__law_roll : Body := ⟨2, 3, .seq (.ife (.val (.e (.cmp .gt (.e (.ix (.e (.var 0)) (.con (.int 0)))) (.e (.con (.int 0)))))) (.seq (.set 2 (.op .mod (.e (.blt .int (.cons (.e (.ix (.e (.var 0)) (.con (.int 0)))) (.nil)))) (.e (.var 1)))) (.seq (.rseti 0 (.con (.int 0)) (.op .fdiv (.e (.ix (.e (.var 0)) (.con (.int 0)))) (.e (.var 1)))) (.ret (.var 2)))) (.pas)) (.seq (.rseti 0 (.con (.int 1)) (.op .mod (.e (.blt .int (.cons (.e (.op .add (.e (.op .mul (.e (.ix (.e (.var 0)) (.con (.int 1)))) (.e (.con (.int 24317))))) (.e (.con (.int 50471))))) (.nil)))) (.e (.con (.int 1048576))))) (.ret (.op .mod (.e (.blt .int (.cons (.e (.op .fdiv (.e (.ix (.e (.var 0)) (.con (.int 1)))) (.e (.con (.int 149))))) (.nil)))) (.e (.var 1)))))⟩
def b__law_sort : Body := ⟨1, 1, .seq (.ife (.or (.val (.e (.cmp .is (.e (.var 0)) (.e (.con .non))))) (.val (.e (.blt (.isi .bool) (.cons (.e (.var 0)) .nil))))) (.ret (.ife (.val (.e (.cmp .is (.e (.var 0)) (.e (.con .non))))) (.con (.int 0)) (.con (.int 1)))) (.pas)) (.seq (.ife (.or (.val (.e (.blt (.isi .int) (.cons (.e (.var 0)) .nil)))) (.val (.e (.blt (.isi .str) (.cons (.e (.var 0)) .nil))))) (.ret (.ife (.val (.e (.blt (.isi .int) (.cons (.e (.var 0)) .nil)))) (.con (.int 2)) (.con (.int 3)))) (.pas)) (.ret (.ife (.val (.e (.blt (.isi .tuple) (.cons (.e (.var 0)) .nil)))) (.con (.int 4)) (.ife (.val (.e (.blt (.isi .list) (.cons (.e (.var 0)) .nil)))) (.con (.int 5)) (.con (.int 6))))))⟩
def c__law_like_1 : CE := .con (.int 1)
def q__law_like_1 : CQ := .one (.not (.val (.e (.call 904 (.cons (.var 3) (.cons (.var 4) (.nil)))))))
def b__law_like : Body := ⟨2, 5, .seq (.set 2 (.call 903 (.cons (.var 1) (.nil)))) (.seq (.ife (.or (.val (.e (.cmp .ne (.e (.call 903 (.cons (.var 0) (.nil)))) (.e (.var 2))))) (.val (.e (.cmp .eq (.e (.var 2)) (.e (.con (.int 6))))))) (.ret (.con (.bl false))) (.pas)) (.seq (.ife (.val (.e (.cmp .isin (.e (.var 2)) (.e (.tup (.cons (.con (.int 4)) (.cons (.con (.int 5)) (.nil)))))))) (.ret (.and (.cmp .eq (.e (.blt .len (.cons (.e (.var 0)) (.nil)))) (.e (.blt .len (.cons (.e (.var 1)) (.nil))))) (.cmp .eq (.e (.lc [3, 4] (.t [3, 4]) (.zip (.var 0) (.var 1)) q__law_like_1 c__law_like_1)) (.e (.lst (.nil)))))) (.pas)) (.ret (.cmp .eq (.e (.var 0)) (.e (.var 1))))))⟩
def c__law_ways_1 : CE := .op .mod (.e (.blt .int (.cons (.e (.op .add (.e (.var 3)) (.e (.var 4)))) (.nil)))) (.e (.con (.int 2)))
def l__law_ways_1 : CS := .set 1 (.op .add (.e (.op .add (.e (.lst (.cons (.con (.int 1)) (.nil)))) (.e (.lc [3, 4] (.t [3, 4]) (.zip (.var 1) (.slc (.e (.var 1)) (.som (.con (.int 1))) (.non))) (.yes) c__law_ways_1)))) (.e (.lst (.cons (.con (.int 1)) (.nil)))))
def b__law_ways : Body := ⟨1, 5, .seq (.set 1 (.lst (.cons (.con (.int 1)) (.nil)))) (.seq (.forr (.n 2) (.rng1 (.var 0)) (l__law_ways_1)) (.ret (.var 1)))⟩
def c__law_rising_1 : CE := .tup (.cons (.op .add (.e (.var 6)) (.e (.tup (.cons (.var 9) (.nil))))) (.cons (.op .fdiv (.e (.var 9)) (.e (.con (.int 2)))) (.cons (.op .sub (.e (.var 8)) (.e (.var 9))) (.nil))))
def l__law_rising_1 : CS := .ife (.val (.e (.cmp .eq (.e (.var 8)) (.e (.con (.int 0)))))) (.app 3 (.var 6)) (.set 5 (.op .add (.e (.var 5)) (.e (.lc [9] (.n 9) (.rng2 (.con (.int 1)) (.op .add (.e (.blt .min (.cons (.e (.var 7)) (.cons (.e (.var 8)) (.nil))))) (.e (.con (.int 1))))) (.yes) c__law_rising_1))))
def l__law_rising_2 : CS := .seq (.set 5 (.lst (.nil))) (.seq (.forr (.t [6, 7, 8]) (.seq (.e (.var 2))) (l__law_rising_1)) (.set 2 (.var 5)))
def b__law_rising : Body := ⟨2, 10, .seq (.pars [(false, 2), (true, 3)] (.cons (.lst (.cons (.tup (.cons (.tup (.nil)) (.cons (.var 1) (.cons (.var 0) (.nil))))) (.nil))) (.cons (.lst (.nil)) (.nil)))) (.seq (.forr (.n 4) (.rng1 (.con (.int 8))) (l__law_rising_2)) (.ret (.x .sorted (.cons (.look 3) (.nil)))))⟩
def l__law_led_1 : CS := .ife (.val (.e (.cmp .isnot (.e (.var 2)) (.e (.con .non))))) (.seq (.set 4 (.call 1000 (.cons (.var 2) (.nil)))) (.set 2 (.ife (.and (.val (.e (.cmp .le (.e (.var 3)) (.e (.var 2))))) (.val (.e (.cmp .eq (.e (.ix (.e (.var 4)) (.var 3))) (.e (.con (.int 1))))))) (.op .add (.e (.var 2)) (.e (.var 3))) (.con .non)))) (.pas)
def b__law_led : Body := ⟨2, 5, .seq (.set 2 (.var 1)) (.seq (.forr (.n 3) (.seq (.e (.rev (.e (.var 0))))) (l__law_led_1)) (.ret (.var 2)))⟩
def l__law_squares_right_1 : CS := .seq (.set 4 (.ife (.and (.val (.e (.cmp .le (.e (.var 3)) (.e (.var 1))))) (.val (.e (.cmp .eq (.e (.ix (.e (.var 2)) (.var 3))) (.e (.con (.int 1))))))) (.op .add (.e (.var 1)) (.e (.var 3))) (.con .non))) (.seq (.set 5 (.lst (.cons (.call 159 (.cons (.var 3) (.cons (.var 1) (.nil)))) (.cons (.call 422 (.cons (.var 3) (.cons (.tup (.cons (.con (.int 1)) (.cons (.tup (.cons (.tup (.cons (.var 1) (.nil))) (.nil))) (.nil)))) (.nil)))) (.cons (.call 611 (.cons (.var 1) (.cons (.var 3) (.nil)))) (.nil)))))) (.ife (.not (.val (.e (.call 904 (.cons (.var 5) (.cons (.lst (.cons (.var 4) (.cons (.tup (.cons (.con (.int 1)) (.cons (.ife (.val (.e (.cmp .isnot (.e (.var 4)) (.e (.con .non))))) (.tup (.cons (.tup (.cons (.var 4) (.nil))) (.nil))) (.tup (.nil))) (.nil)))) (.cons (.cmp .isnot (.e (.var 4)) (.e (.con .non))) (.nil))))) (.nil))))))) (.ret (.con (.bl false))) (.pas)))
def l__law_squares_right_2 : CS := .seq (.set 2 (.call 1000 (.cons (.var 1) (.nil)))) (.forr (.n 3) (.rng1 (.op .add (.e (.var 1)) (.e (.con (.int 3))))) (l__law_squares_right_1))
def b__law_squares_right : Body := ⟨1, 6, .seq (.forr (.n 1) (.rng1 (.op .add (.e (.var 0)) (.e (.con (.int 1))))) (l__law_squares_right_2)) (.ret (.con (.bl true)))⟩
def b__law_word_right : Body := ⟨2, 4, .seq (.set 2 (.call 1003 (.cons (.var 0) (.cons (.var 1) (.nil))))) (.seq (.set 3 (.lst (.cons (.call 160 (.cons (.var 0) (.cons (.var 1) (.nil)))) (.cons (.call 704 (.cons (.var 0) (.cons (.tup (.cons (.con (.int 1)) (.cons (.tup (.cons (.tup (.cons (.var 1) (.nil))) (.nil))) (.nil)))) (.nil)))) (.nil))))) (.ret (.call 904 (.cons (.var 3) (.cons (.lst (.cons (.var 2) (.cons (.tup (.cons (.con (.int 1)) (.cons (.ife (.val (.e (.cmp .isnot (.e (.var 2)) (.e (.con .non))))) (.tup (.cons (.tup (.cons (.var 2) (.nil))) (.nil))) (.tup (.nil))) (.nil)))) (.nil)))) (.nil))))))⟩
def c__law_words_right_1 : CE := .var 3
def q__law_words_right_1 : CQ := .one (.val (.e (.cmp .isnot (.e (.call 1003 (.cons (.var 3) (.cons (.var 1) (.nil))))) (.e (.con .non)))))
def b__law_words_right : Body := ⟨2, 4, .seq (.set 2 (.blt .tuple (.cons (.e (.lc [3] (.n 3) (.seq (.e (.call 1001 (.cons (.var 0) (.cons (.var 0) (.nil)))))) q__law_words_right_1 c__law_words_right_1)) (.nil)))) (.ret (.call 904 (.cons (.call 161 (.cons (.var 0) (.cons (.var 1) (.nil)))) (.cons (.var 2) (.nil)))))⟩
def c__law_reach_right_1 : CE := .op .add (.e (.var 5)) (.e (.var 7))
def q__law_reach_right_1 : CQ := .one (.and (.val (.e (.cmp .eq (.e (.ix (.e (.var 6)) (.var 7))) (.e (.con (.int 1)))))) (.val (.e (.cmp .le (.e (.op .add (.e (.var 5)) (.e (.var 7)))) (.e (.var 1))))))
def c__law_reach_right_3 : CE := .var 5
def q__law_reach_right_3 : CQ := .one (.val (.e (.cmp .le (.e (.var 5)) (.e (.var 1)))))
def l__law_reach_right_1 : CS := .seq (.set 6 (.call 1000 (.cons (.var 5) (.nil)))) (.set 4 (.op .add (.e (.var 4)) (.e (.lc [7] (.n 7) (.rng2 (.con (.int 1)) (.op .add (.e (.var 5)) (.e (.con (.int 1))))) q__law_reach_right_1 c__law_reach_right_1))))
def l__law_reach_right_2 : CS := .seq (.set 4 (.blt .list (.cons (.e (.var 2)) (.nil)))) (.seq (.forr (.n 5) (.seq (.e (.var 2))) (l__law_reach_right_1)) (.seq (.set 4 (.x .sortset (.cons (.e (.var 4)) .nil))) (.seq (.ife (.val (.e (.cmp .eq (.e (.var 4)) (.e (.var 2))))) (.brk) (.pas)) (.set 2 (.var 4)))))
def b__law_reach_right : Body := ⟨2, 8, .seq (.set 2 (.lst (.cons (.var 0) (.nil)))) (.seq (.forr (.n 3) (.rng1 (.op .add (.e (.var 1)) (.e (.con (.int 1))))) (l__law_reach_right_2)) (.ret (.call 904 (.cons (.call 162 (.cons (.var 0) (.cons (.var 1) (.nil)))) (.cons (.blt .tuple (.cons (.e (.lc [5] (.n 5) (.seq (.e (.var 2))) q__law_reach_right_3 c__law_reach_right_3)) (.nil))) (.nil))))))⟩
def c__law_errors_right_1 : CE := .told (.call 161 (.cons (.var 1) (.cons (.con .non) (.nil))))
def c__law_errors_right_2 : CE := .told (.call 162 (.cons (.con (.int 3)) (.cons (.var 1) (.nil))))
def c__law_errors_right_3 : CE := .told (.call 160 (.cons (.var 1) (.cons (.con .non) (.nil))))
def l__law_errors_right_1 : CS := .seq (.app 0 (.told (.call 159 (.cons (.var 1) (.cons (.con .non) (.nil)))))) (.seq (.app 0 (.told (.call 159 (.cons (.con (.int 1)) (.cons (.var 1) (.nil)))))) (.seq (.app 0 (.told (.call 160 (.cons (.tup (.cons (.con (.int 1)) (.nil))) (.cons (.var 1) (.nil)))))) (.seq (.app 0 (.told (.call 161 (.cons (.con (.int 3)) (.cons (.var 1) (.nil)))))) (.app 0 (.told (.call 162 (.cons (.var 1) (.cons (.con .non) (.nil)))))))))
def t__law_errors_right_6 : CS := .ret (.cmp .eq (.e (.lc [1] (.n 1) (.seq (.e (.tup (.cons (.con .non) (.cons (.lst (.cons (.con (.int 1)) (.nil))) (.cons (.tup (.cons (.con (.int 0)) (.nil))) (.cons (.tup (.cons (.con (.int 41)) (.nil))) (.cons (.tup (.cons (.con (.int 20)) (.cons (.con (.int 21)) (.nil)))) (.cons (.op .mul (.e (.tup (.cons (.con (.int 1)) (.nil)))) (.e (.con (.int 13)))) (.cons (.con (.int 1)) (.cons (.con (.str ("Sq1" : Str))) (.nil)))))))))))) (.yes) c__law_errors_right_3)) (.e (.op .mul (.e (.lst (.cons (.con (.str ("word" : Str))) (.nil)))) (.e (.con (.int 8))))))
def t__law_errors_right_5 : CS := .seq (.ife (.val (.e (.cmp .ne (.look 0) (.e (.op .mul (.e (.lst (.cons (.con (.str ("number" : Str))) (.nil)))) (.e (.con (.int 40)))))))) (.ret (.con (.bl false))) (.pas)) (t__law_errors_right_6)
def t__law_errors_right_4 : CS := .seq (.own 0 (.op .add (.look 0) (.e (.lc [1] (.n 1) (.seq (.e (.tup (.cons (.con .non) (.cons (.neg (.con (.int 1))) (.cons (.con (.int 201)) (.cons (.con (.bl true)) (.cons (.con (.str ("3" : Str))) (.nil))))))))) (.yes) c__law_errors_right_2)))) (t__law_errors_right_5)
def t__law_errors_right_3 : CS := .seq (.own 0 (.op .add (.look 0) (.e (.lc [1] (.n 1) (.seq (.e (.tup (.cons (.con .non) (.cons (.neg (.con (.int 1))) (.cons (.con (.int 41)) (.cons (.con (.bl true)) (.cons (.con (.str ("3" : Str))) (.nil))))))))) (.yes) c__law_errors_right_1)))) (t__law_errors_right_4)
def t__law_errors_right_2 : CS := .seq (.forr (.n 1) (.seq (.e (.tup (.cons (.con .non) (.cons (.neg (.con (.int 1))) (.cons (.con (.int 65)) (.cons (.con (.bl true)) (.cons (.con (.str ("1" : Str))) (.cons (.tup (.cons (.con (.int 1)) (.nil))) (.nil)))))))))) (l__law_errors_right_1)) (t__law_errors_right_3)
def b__law_errors_right : Body := ⟨0, 2, .seq (.own 0 (.lst (.nil))) (t__law_errors_right_2)⟩
def l_law_1 : CS := .set 5 (.op .add (.e (.var 5)) (.e (.tup (.cons (.op .add (.e (.con (.int 1))) (.e (.call 901 (.cons (.var 3) (.cons (.con (.int 8)) (.nil)))))) (.nil)))))
def l_law_2 : CS := .seq (.par [5, 6] (.cons (.tup (.nil)) (.cons (.call 901 (.cons (.var 3) (.cons (.con (.int 30)) (.nil)))) (.nil)))) (.seq (.forr (.n 7) (.rng1 (.call 901 (.cons (.var 3) (.cons (.con (.int 5)) (.nil))))) (l_law_1)) (.seq (.ife (.or (.not (.val (.e (.call 1005 (.cons (.ife (.val (.e (.cmp .le (.e (.blt .sum (.cons (.e (.var 5)) (.nil)))) (.e (.con (.int 40)))))) (.var 5) (.slc (.e (.var 5)) (.non) (.som (.con (.int 2))))) (.cons (.var 6) (.nil))))))) (.not (.val (.e (.call 1006 (.cons (.call 901 (.cons (.var 3) (.cons (.con (.int 13)) (.nil)))) (.cons (.var 6) (.nil)))))))) (.ret (.con (.bl false))) (.pas)) (.ife (.not (.val (.e (.call 1007 (.cons (.call 901 (.cons (.var 3) (.cons (.con (.int 20)) (.nil)))) (.cons (.call 901 (.cons (.var 3) (.cons (.con (.int 60)) (.nil)))) (.nil))))))) (.ret (.con (.bl false))) (.pas))))
def t_law_10 : CS := .ret (.con (.bl true))
def t_law_9 : CS := .seq (.forr (.n 4) (.rng1 (.con (.int 20))) (l_law_2)) (t_law_10)
def t_law_8 : CS := .seq (.set 3 (.call 900 (.cons (.var 0) (.nil)))) (t_law_9)
def t_law_7 : CS := .seq (.ife (.or (.not (.val (.e (.call 904 (.cons (.var 1) (.cons (.var 2) (.nil))))))) (.or (.not (.val (.e (.call 1008 .nil)))) (.not (.val (.e (.call 1004 (.cons (.con (.int 40)) (.nil)))))))) (.ret (.con (.bl false))) (.pas)) (t_law_8)
def t_law_6 : CS := .seq (.set 2 (.op .add (.e (.var 2)) (.e (.lst (.cons (.tup (.cons (.tup (.nil)) (.nil))) (.cons (.tup (.cons (.tup (.cons (.con (.int 4)) (.cons (.con (.int 2)) (.cons (.con (.int 1)) (.nil))))) (.nil))) (.cons (.con (.int 16)) (.cons (.tup (.cons (.con (.int 1)) (.cons (.con (.int 2)) (.cons (.con (.int 4)) (.cons (.con (.int 8)) (.cons (.con (.int 16)) (.cons (.con (.int 32)) (.cons (.con (.int 64)) (.cons (.con (.int 128)) (.nil)))))))))) (.cons (.tup (.cons (.tup (.cons (.con (.int 4)) (.cons (.con (.int 2)) (.nil)))) (.nil))) (.cons (.tup (.cons (.con (.int 5)) (.nil))) (.nil))))))))))) (t_law_7)
def t_law_5 : CS := .seq (.set 1 (.op .add (.e (.var 1)) (.e (.lst (.cons (.call 161 (.cons (.con (.int 0)) (.cons (.con (.int 7)) (.nil)))) (.cons (.call 161 (.cons (.con (.int 7)) (.cons (.con (.int 1)) (.nil)))) (.cons (.call 160 (.cons (.tup (.cons (.con (.int 8)) (.cons (.con (.int 4)) (.cons (.con (.int 2)) (.cons (.con (.int 1)) (.nil)))))) (.cons (.con (.int 1)) (.nil)))) (.cons (.call 162 (.cons (.con (.int 1)) (.cons (.con (.int 200)) (.nil)))) (.cons (.call 161 (.cons (.con (.int 6)) (.cons (.con (.int 2)) (.nil)))) (.cons (.call 162 (.cons (.con (.int 5)) (.cons (.con (.int 5)) (.nil)))) (.nil))))))))))) (t_law_6)
def t_law_4 : CS := .seq (.set 2 (.op .add (.e (.var 2)) (.e (.lst (.cons (.tup (.cons (.con (.int 1)) (.cons (.con (.int 2)) (.cons (.con (.int 4)) (.cons (.con (.int 8)) (.cons (.con (.int 16)) (.nil))))))) (.cons (.tup (.cons (.con (.int 3)) (.cons (.con (.int 4)) (.cons (.con (.int 5)) (.cons (.con (.int 6)) (.cons (.con (.int 8)) (.nil))))))) (.cons (.tup (.nil)) (.cons (.con (.int 5)) (.cons (.con (.int 0)) (.cons (.con (.int 128)) (.cons (.tup (.cons (.con (.int 0)) (.nil))) (.nil)))))))))))) (t_law_5)
def t_law_3 : CS := .seq (.set 1 (.op .add (.e (.var 1)) (.e (.lst (.cons (.call 162 (.cons (.con (.int 1)) (.cons (.con (.int 16)) (.nil)))) (.cons (.call 162 (.cons (.con (.int 3)) (.cons (.con (.int 8)) (.nil)))) (.cons (.call 162 (.cons (.con (.int 3)) (.cons (.con (.int 2)) (.nil)))) (.cons (.call 160 (.cons (.tup (.nil)) (.cons (.con (.int 5)) (.nil)))) (.cons (.call 159 (.cons (.con (.int 0)) (.cons (.con (.int 0)) (.nil)))) (.cons (.call 159 (.cons (.con (.int 64)) (.cons (.con (.int 64)) (.nil)))) (.cons (.call 162 (.cons (.con (.int 0)) (.cons (.con (.int 9)) (.nil)))) (.nil)))))))))))) (t_law_4)
def t_law_2 : CS := .seq (.set 2 (.lst (.cons (.con (.int 4)) (.cons (.con .non) (.cons (.con (.int 4)) (.cons (.con .non) (.cons (.tup (.cons (.tup (.cons (.con (.int 2)) (.cons (.con (.int 1)) (.nil)))) (.nil))) (.cons (.tup (.cons (.tup (.cons (.con (.int 3)) (.nil))) (.nil))) (.nil))))))))) (t_law_3)
def b_law : Body := ⟨1, 8, .seq (.set 1 (.lst (.cons (.call 159 (.cons (.con (.int 2)) (.cons (.con (.int 2)) (.nil)))) (.cons (.call 159 (.cons (.con (.int 1)) (.cons (.con (.int 2)) (.nil)))) (.cons (.call 160 (.cons (.tup (.cons (.con (.int 2)) (.cons (.con (.int 1)) (.nil)))) (.cons (.con (.int 1)) (.nil)))) (.cons (.call 160 (.cons (.tup (.cons (.con (.int 1)) (.cons (.con (.int 2)) (.nil)))) (.cons (.con (.int 1)) (.nil)))) (.cons (.call 161 (.cons (.con (.int 3)) (.cons (.con (.int 1)) (.nil)))) (.cons (.call 161 (.cons (.con (.int 3)) (.cons (.con (.int 3)) (.nil)))) (.nil))))))))) (t_law_2)⟩
def bodies : Nat → Option Body
  | 8 => some b_is_whole
  | 9 => some b_need_whole
  | 10 => some b_is_tuple_of
  | 605 => some b_is_word
  | 606 => some b_need_word
  | 610 => some b_is_odd
  | 611 => some b_is_odd_choice
  | 254 => some b_words_from
  | 255 => some b_rising_in_risingwords
  | 526 => some b_odd_ones
  | 224 => some b_is_polynomial
  | 225 => some b_need_polynomial
  | 417 => some b_need_number
  | 418 => some b_shared_out
  | 419 => some b_square_in_squares
  | 422 => some b_square_of
  | 156 => some b_power_squared
  | 157 => some b_power_led
  | 158 => some b_need_exponent
  | 159 => some b_letter_square
  | 160 => some b_letter_word
  | 161 => some b_letter_words
  | 162 => some b_letter_reach
  | 700 => some b_stages_in
  | 701 => some b_word_in_actedwords
  | 704 => some b_act_word
  | 900 => some b__law_cup
  | 901 => some b__law_roll
  | 903 => some b__law_sort
  | 904 => some b__law_like
  | 1000 => some b__law_ways
  | 1001 => some b__law_rising
  | 1003 => some b__law_led
  | 1004 => some b__law_squares_right
  | 1005 => some b__law_word_right
  | 1006 => some b__law_words_right
  | 1007 => some b__law_reach_right
  | 1008 => some b__law_errors_right
  | 1009 => some b_law
  | _ => none
def nm : Nat → Option Str
  | 8 => some "is_whole"
  | 9 => some "need_whole"
  | 10 => some "is_tuple_of"
  | 605 => some "is_word"
  | 606 => some "need_word"
  | 610 => some "is_odd"
  | 611 => some "is_odd_choice"
  | 254 => some "words_from"
  | 255 => some "rising_in"
  | 526 => some "odd_ones"
  | 224 => some "is_polynomial"
  | 225 => some "need_polynomial"
  | 417 => some "need_number"
  | 418 => some "shared_out"
  | 419 => some "square_in"
  | 422 => some "square_of"
  | 156 => some "power_squared"
  | 157 => some "power_led"
  | 158 => some "need_exponent"
  | 159 => some "letter_square"
  | 160 => some "letter_word"
  | 161 => some "letter_words"
  | 162 => some "letter_reach"
  | 700 => some "stages_in"
  | 701 => some "word_in"
  | 704 => some "act_word"
  | 900 => some "_law_cup"
  | 901 => some "_law_roll"
  | 903 => some "_law_sort"
  | 904 => some "_law_like"
  | 1000 => some "_law_ways"
  | 1001 => some "_law_rising"
  | 1003 => some "_law_led"
  | 1004 => some "_law_squares_right"
  | 1005 => some "_law_word_right"
  | 1006 => some "_law_words_right"
  | 1007 => some "_law_reach_right"
  | 1008 => some "_law_errors_right"
  | _ => none
/-- the level of the law's body -/
def lawLevel : Nat := 40
def pg : Pg := ⟨bodies, sub, 0, hd, "none"⟩
end Vg
namespace Vg
open PySem PySem.Spec PyProof.Rows L2 Vi
section
variable {Pr : Program} {w : World} {K : PySem.W.Frag} {mg : Str → Option Value} {base : Heap} {R : Rc} {T : List (Addr × Str)}
theorem t_is_whole (hRK : R.K = K) (hRP : R.pr = Pr) (hRW : R.w = w) {f_is_whole : Addr} {kV_is_whole doc_is_whole pm_is_whole ct_is_whole oc_is_whole : Value} {cv_is_whole : Value} {an_is_whole od_is_whole : Option Addr} {osl_is_whole : Array (Option Value)} (lk_is_whole : K.lookup f_is_whole = some ⟨oc_is_whole, od_is_whole, .func (PySem.W.fnOf "is_whole" "is_whole" (defArgs s_is_whole) (defBody s_is_whole) (defScope s_is_whole) .none kV_is_whole doc_is_whole pm_is_whole an_is_whole cv_is_whole ct_is_whole), osl_is_whole⟩) (cd_is_whole : PySem.W.codeIn K cv_is_whole "is_whole" = true) (m_is_whole : mg "is_whole" = some (.ref f_is_whole)) (kp_is_whole : PySem.W.keepIn K (.ref f_is_whole) = true)  (n_isinstance : mg "isinstance" = none) (n_int : mg "int" = none) (n_bool : mg "bool" = none) : Fx Pr w K mg base R T pg nm "is_whole" b_is_whole :=
  fx_mk2 lk_is_whole cd_is_whole m_is_whole kp_is_whole sc_is_whole rfl rfl (fun us hl => match us, hl with | [_, _, _], _ => by kernel_rfl) fun n L L2 A outer s H E N0 hr =>
    z_one (z_ret (k_and (k_isi (t := .int) hRK rfl (gl_of (by kernel_rfl)) n_isinstance (by kernel_rfl) (gl_of (by kernel_rfl)) n_int (by kernel_rfl) (o_e (k_var (i := 0) (by kernel_rfl) (vis_of (by kernel_rfl)) (by kernel_rfl) (by kernel_rfl))) (by decide) (by kernel_rfl) (by decide) (by kernel_rfl) (by kernel_rfl)) (k_and (k_not hRK (k_isi (t := .bool) hRK rfl (gl_of (by kernel_rfl)) n_isinstance (by kernel_rfl) (gl_of (by kernel_rfl)) n_bool (by kernel_rfl) (o_e (k_var (i := 0) (by kernel_rfl) (vis_of (by kernel_rfl)) (by kernel_rfl) (by kernel_rfl))) (by decide) (by kernel_rfl) (by decide) (by kernel_rfl) (by kernel_rfl))) (k_one (k_chn (o := .le) (o' := .le) hRK (u65 hr) (by kernel_rfl) (k_var (i := 1) (by kernel_rfl) (vis_of (by kernel_rfl)) (by kernel_rfl) (by kernel_rfl)) (k_var (i := 0) (by kernel_rfl) (vis_of (by kernel_rfl)) (by kernel_rfl) (by kernel_rfl)) (k_var (i := 2) (by kernel_rfl) (vis_of (by kernel_rfl)) (by kernel_rfl) (by kernel_rfl)))))))
theorem t_need_whole (hRK : R.K = K) (hRP : R.pr = Pr) (hRW : R.w = w) {f_need_whole : Addr} {kV_need_whole doc_need_whole pm_need_whole ct_need_whole oc_need_whole : Value} {cv_need_whole : Value} {an_need_whole od_need_whole : Option Addr} {osl_need_whole : Array (Option Value)} (lk_need_whole : K.lookup f_need_whole = some ⟨oc_need_whole, od_need_whole, .func (PySem.W.fnOf "need_whole" "need_whole" (defArgs s_need_whole) (defBody s_need_whole) (defScope s_need_whole) .none kV_need_whole doc_need_whole pm_need_whole an_need_whole cv_need_whole ct_need_whole), osl_need_whole⟩) (cd_need_whole : PySem.W.codeIn K cv_need_whole "need_whole" = true) (m_need_whole : mg "need_whole" = some (.ref f_need_whole)) (kp_need_whole : PySem.W.keepIn K (.ref f_need_whole) = true) {c_1 : Addr} (gc_1 : mg "InvalidNumber" = some (.ref c_1)) (kc_1 : PySem.W.keepIn K (.ref c_1) = true) (xc_1 : PySem.W.excIn K c_1 [.type "ValueError", .type "Exception", .type "BaseException", .type "object"] "ValueError.__new__" = true) (sc_c1 : PySem.W.subIn K (.ref c_1) (.type "BaseException") = some true) (tc_1 : PySem.W.typeIn K (.ref c_1) = some (.type "type")) (hc_1 : R.cad 1 = some c_1) : Fx Pr w K mg base R T pg nm "need_whole" b_need_whole :=
  fx_mk2 lk_need_whole cd_need_whole m_need_whole kp_need_whole sc_need_whole rfl rfl (fun us hl => match us, hl with | [_, _, _], _ => by kernel_rfl) fun n L L2 A outer s H E N0 hr =>
    z_one (z_if (kt_not (kt_val hRK (o_e (k_call (p := pg) (i := 8) (L 8 "is_whole" (by kernel_rfl)) (dnD_F pg n) hr (pass_fn takes_fn) (gl_of (by kernel_rfl)) (k_cons (k_var (i := 0) (by kernel_rfl) (vis_of (by kernel_rfl)) (by kernel_rfl) (by kernel_rfl)) (k_cons (k_var (i := 1) (by kernel_rfl) (vis_of (by kernel_rfl)) (by kernel_rfl) (by kernel_rfl)) (k_cons (k_var (i := 2) (by kernel_rfl) (vis_of (by kernel_rfl)) (by kernel_rfl) (by kernel_rfl)) (k_nil) (by kernel_rfl)) (by kernel_rfl)) (by kernel_rfl)) (by kernel_rfl) (by kernel_rfl) (by kernel_rfl))) (fun _ => (by kernel_rfl)))) (z_one (z_raise (c := 1) rfl takes_fn PySem.F.excBase_ValueError xc_1 gc_1 kc_1 (raises_own sc_c1 tc_1) (gl_of (by kernel_rfl)) (by kernel_rfl) hc_1)) (z_nil))
theorem t_is_tuple_of (hRK : R.K = K) (hRP : R.pr = Pr) (hRW : R.w = w) {f_is_tuple_of : Addr} {kV_is_tuple_of doc_is_tuple_of pm_is_tuple_of ct_is_tuple_of oc_is_tuple_of : Value} {cv_is_tuple_of : Value} {an_is_tuple_of od_is_tuple_of : Option Addr} {osl_is_tuple_of : Array (Option Value)} (lk_is_tuple_of : K.lookup f_is_tuple_of = some ⟨oc_is_tuple_of, od_is_tuple_of, .func (PySem.W.fnOf "is_tuple_of" "is_tuple_of" (defArgs s_is_tuple_of) (defBody s_is_tuple_of) (defScope s_is_tuple_of) .none kV_is_tuple_of doc_is_tuple_of pm_is_tuple_of an_is_tuple_of cv_is_tuple_of ct_is_tuple_of), osl_is_tuple_of⟩) (cd_is_tuple_of : PySem.W.codeIn K cv_is_tuple_of "is_tuple_of" = true) (m_is_tuple_of : mg "is_tuple_of" = some (.ref f_is_tuple_of)) (kp_is_tuple_of : PySem.W.keepIn K (.ref f_is_tuple_of) = true)  (n_isinstance : mg "isinstance" = none) (n_tuple : mg "tuple" = none) (n_len : mg "len" = none) : Fx Pr w K mg base R T pg nm "is_tuple_of" b_is_tuple_of :=
  fx_mk2 lk_is_tuple_of cd_is_tuple_of m_is_tuple_of kp_is_tuple_of sc_is_tuple_of rfl rfl (fun us hl => match us, hl with | [_, _, _], _ => by kernel_rfl) fun n L L2 A outer s H E N0 hr =>
    z_one (z_ret (k_and (k_isi (t := .tuple) hRK rfl (gl_of (by kernel_rfl)) n_isinstance (by kernel_rfl) (gl_of (by kernel_rfl)) n_tuple (by kernel_rfl) (o_e (k_var (i := 0) (by kernel_rfl) (vis_of (by kernel_rfl)) (by kernel_rfl) (by kernel_rfl))) (by decide) (by kernel_rfl) (by decide) (by kernel_rfl) (by kernel_rfl)) (k_one (k_chn (o := .le) (o' := .le) hRK (u65 hr) (by kernel_rfl) (k_var (i := 1) (by kernel_rfl) (vis_of (by kernel_rfl)) (by kernel_rfl) (by kernel_rfl)) (k_blt (T := .len) hRK rfl rfl rfl (gl_of (by kernel_rfl)) n_len (by kernel_rfl) (ko_cons (o_e (k_var (i := 0) (by kernel_rfl) (vis_of (by kernel_rfl)) (by kernel_rfl) (by kernel_rfl))) (ko_nil) (by kernel_rfl)) (by decide) (by kernel_rfl) (by kernel_rfl) (by kernel_rfl)) (k_var (i := 2) (by kernel_rfl) (vis_of (by kernel_rfl)) (by kernel_rfl) (by kernel_rfl))))))
theorem t_is_word (hRK : R.K = K) (hRP : R.pr = Pr) (hRW : R.w = w) {f_is_word : Addr} {kV_is_word doc_is_word pm_is_word ct_is_word oc_is_word : Value} {cv_is_word : Value} {an_is_word od_is_word : Option Addr} {osl_is_word : Array (Option Value)} (lk_is_word : K.lookup f_is_word = some ⟨oc_is_word, od_is_word, .func (PySem.W.fnOf "is_word" "is_word" (defArgs s_is_word) (defBody s_is_word) (defScope s_is_word) .none kV_is_word doc_is_word pm_is_word an_is_word cv_is_word ct_is_word), osl_is_word⟩) (cd_is_word : PySem.W.codeIn K cv_is_word "is_word" = true) (m_is_word : mg "is_word" = some (.ref f_is_word)) (kp_is_word : PySem.W.keepIn K (.ref f_is_word) = true) {t_LONG : Tok} {t_GREAT_words : Tok} (g_LONG : mg "LONG" = some (.int 12 t_LONG)) (n_all : mg "all" = none) (g_GREAT_words : mg "GREAT_words" = some (.int 40 t_GREAT_words)) (n_sum : mg "sum" = none) : Fx Pr w K mg base R T pg nm "is_word" b_is_word :=
  fx_mk2 lk_is_word cd_is_word m_is_word kp_is_word sc_is_word rfl rfl (fun us hl => match us, hl with | [_], _ => by kernel_rfl) fun n L L2 A outer s H E N0 hr =>
    z_seq (z_if (kt_w (kw_or (kt_not (kt_val hRK (o_e (k_call (p := pg) (i := 10) (L 10 "is_tuple_of" (by kernel_rfl)) (dnD_F pg n) hr (pass_fn takes_fn) (gl_of (by kernel_rfl)) (k_cons (k_var (i := 0) (by kernel_rfl) (vis_of (by kernel_rfl)) (by kernel_rfl) (by kernel_rfl)) (k_cons (k_int) (k_cons (k_globI (gl_of (by kernel_rfl)) g_LONG (by kernel_rfl)) (k_nil) (by kernel_rfl)) (by kernel_rfl)) (by kernel_rfl)) (by kernel_rfl) (by kernel_rfl) (by kernel_rfl))) (fun _ => (by kernel_rfl)))) (kw_or1 (kt_not (kt_val hRK (o_e (k_blt (T := .all) hRK rfl rfl rfl (gl_of (by kernel_rfl)) n_all (by kernel_rfl) (ko_cons (o_e (k_lc (own := [("own", 1)]) (tg := .n 1) (look := []) hRK rfl sc_is_word.nd (ki_e hRK (k_var (i := 0) (by kernel_rfl) (vis_of (by kernel_rfl)) (by kernel_rfl) (by kernel_rfl))) (blkOk_by (by kernel_rfl)) (by decide) (by decide) (fun _ _ _ _ _ => pg_name (i := 1) sc_is_word.nd (by kernel_rfl) (loc_of (by kernel_rfl)) (.inr (by kernel_rfl))) (fun _ _ _ _ _ _ => kq_yes) (fun _ _ _ _ _ _ => k_call (p := pg) (i := 8) (L 8 "is_whole" (by kernel_rfl)) (dnD_F pg n) hr (pass_no fun _ _ _ h => h) (gl_of (by kernel_rfl)) (k_cons (k_var (i := 1) (by kernel_rfl) (vis_of (by kernel_rfl)) (by kernel_rfl) (by kernel_rfl)) (k_cons (k_int) (k_cons (k_globI (gl_of (by kernel_rfl)) g_GREAT_words (by kernel_rfl)) (k_nil) (by kernel_rfl)) (by kernel_rfl)) (by kernel_rfl)) (by kernel_rfl) (by kernel_rfl) (by kernel_rfl)) (fun _ => (by kernel_rfl)))) (ko_nil) (by kernel_rfl)) (by decide) (by kernel_rfl) (by kernel_rfl) (by kernel_rfl))) (fun _ => (by kernel_rfl))))))) (z_one (z_ret (k_bl))) (z_nil)) (z_one (z_ret (k_cmp (o := .le) hRK (u65 hr) (by kernel_rfl) (o_e (k_blt (T := .sum) hRK rfl rfl rfl (gl_of (by kernel_rfl)) n_sum (by kernel_rfl) (ko_cons (o_e (k_var (i := 0) (by kernel_rfl) (vis_of (by kernel_rfl)) (by kernel_rfl) (by kernel_rfl))) (ko_nil) (by kernel_rfl)) (by decide) (by kernel_rfl) (by kernel_rfl) (by kernel_rfl))) (o_e (k_globI (gl_of (by kernel_rfl)) g_GREAT_words (by kernel_rfl))))))
theorem t_need_word (hRK : R.K = K) (hRP : R.pr = Pr) (hRW : R.w = w) {f_need_word : Addr} {kV_need_word doc_need_word pm_need_word ct_need_word oc_need_word : Value} {cv_need_word : Value} {an_need_word od_need_word : Option Addr} {osl_need_word : Array (Option Value)} (lk_need_word : K.lookup f_need_word = some ⟨oc_need_word, od_need_word, .func (PySem.W.fnOf "need_word" "need_word" (defArgs s_need_word) (defBody s_need_word) (defScope s_need_word) .none kV_need_word doc_need_word pm_need_word an_need_word cv_need_word ct_need_word), osl_need_word⟩) (cd_need_word : PySem.W.codeIn K cv_need_word "need_word" = true) (m_need_word : mg "need_word" = some (.ref f_need_word)) (kp_need_word : PySem.W.keepIn K (.ref f_need_word) = true) {c_6 : Addr} (gc_6 : mg "InvalidWord" = some (.ref c_6)) (kc_6 : PySem.W.keepIn K (.ref c_6) = true) (xc_6 : PySem.W.excIn K c_6 [.type "ValueError", .type "Exception", .type "BaseException", .type "object"] "ValueError.__new__" = true) (sc_c6 : PySem.W.subIn K (.ref c_6) (.type "BaseException") = some true) (tc_6 : PySem.W.typeIn K (.ref c_6) = some (.type "type")) (hc_6 : R.cad 6 = some c_6) : Fx Pr w K mg base R T pg nm "need_word" b_need_word :=
  fx_mk2 lk_need_word cd_need_word m_need_word kp_need_word sc_need_word rfl rfl (fun us hl => match us, hl with | [_], _ => by kernel_rfl) fun n L L2 A outer s H E N0 hr =>
    z_one (z_if (kt_not (kt_val hRK (o_e (k_call (p := pg) (i := 605) (L 605 "is_word" (by kernel_rfl)) (dnD_F pg n) hr (pass_fn takes_fn) (gl_of (by kernel_rfl)) (k_cons (k_var (i := 0) (by kernel_rfl) (vis_of (by kernel_rfl)) (by kernel_rfl) (by kernel_rfl)) (k_nil) (by kernel_rfl)) (by kernel_rfl) (by kernel_rfl) (by kernel_rfl))) (fun _ => (by kernel_rfl)))) (z_one (z_raise (c := 6) rfl takes_fn PySem.F.excBase_ValueError xc_6 gc_6 kc_6 (raises_own sc_c6 tc_6) (gl_of (by kernel_rfl)) (by kernel_rfl) hc_6)) (z_nil))
theorem t_is_odd (hRK : R.K = K) (hRP : R.pr = Pr) (hRW : R.w = w) {f_is_odd : Addr} {kV_is_odd doc_is_odd pm_is_odd ct_is_odd oc_is_odd : Value} {cv_is_odd : Value} {an_is_odd od_is_odd : Option Addr} {osl_is_odd : Array (Option Value)} (lk_is_odd : K.lookup f_is_odd = some ⟨oc_is_odd, od_is_odd, .func (PySem.W.fnOf "is_odd" "is_odd" (defArgs s_is_odd) (defBody s_is_odd) (defScope s_is_odd) .none kV_is_odd doc_is_odd pm_is_odd an_is_odd cv_is_odd ct_is_odd), osl_is_odd⟩) (cd_is_odd : PySem.W.codeIn K cv_is_odd "is_odd" = true) (m_is_odd : mg "is_odd" = some (.ref f_is_odd)) (kp_is_odd : PySem.W.keepIn K (.ref f_is_odd) = true)   : Fx Pr w K mg base R T pg nm "is_odd" b_is_odd :=
  fx_mk2 lk_is_odd cd_is_odd m_is_odd kp_is_odd sc_is_odd rfl rfl (fun us hl => match us, hl with | [_, _], _ => by kernel_rfl) fun n L L2 A outer s H E N0 hr =>
    z_one (z_ret (k_and (k_chn (o := .le) (o' := .le) hRK (u65 hr) (by kernel_rfl) (k_int) (k_var (i := 1) (by kernel_rfl) (vis_of (by kernel_rfl)) (by kernel_rfl) (by kernel_rfl)) (k_var (i := 0) (by kernel_rfl) (vis_of (by kernel_rfl)) (by kernel_rfl) (by kernel_rfl))) (k_one (k_cmp (o := .eq) hRK (u65 hr) (by kernel_rfl) (o_e (k_op (o := .band) hRK (o_e (k_var (i := 0) (by kernel_rfl) (vis_of (by kernel_rfl)) (by kernel_rfl) (by kernel_rfl))) (o_e (k_var (i := 1) (by kernel_rfl) (vis_of (by kernel_rfl)) (by kernel_rfl) (by kernel_rfl))))) (o_e (k_var (i := 1) (by kernel_rfl) (vis_of (by kernel_rfl)) (by kernel_rfl) (by kernel_rfl)))))))
theorem t_is_odd_choice (hRK : R.K = K) (hRP : R.pr = Pr) (hRW : R.w = w) {f_is_odd_choice : Addr} {kV_is_odd_choice doc_is_odd_choice pm_is_odd_choice ct_is_odd_choice oc_is_odd_choice : Value} {cv_is_odd_choice : Value} {an_is_odd_choice od_is_odd_choice : Option Addr} {osl_is_odd_choice : Array (Option Value)} (lk_is_odd_choice : K.lookup f_is_odd_choice = some ⟨oc_is_odd_choice, od_is_odd_choice, .func (PySem.W.fnOf "is_odd_choice" "is_odd_choice" (defArgs s_is_odd_choice) (defBody s_is_odd_choice) (defScope s_is_odd_choice) .none kV_is_odd_choice doc_is_odd_choice pm_is_odd_choice an_is_odd_choice cv_is_odd_choice ct_is_odd_choice), osl_is_odd_choice⟩) (cd_is_odd_choice : PySem.W.codeIn K cv_is_odd_choice "is_odd_choice" = true) (m_is_odd_choice : mg "is_odd_choice" = some (.ref f_is_odd_choice)) (kp_is_odd_choice : PySem.W.keepIn K (.ref f_is_odd_choice) = true) {c_1 : Addr} (gc_1 : mg "InvalidNumber" = some (.ref c_1)) (kc_1 : PySem.W.keepIn K (.ref c_1) = true) (xc_1 : PySem.W.excIn K c_1 [.type "ValueError", .type "Exception", .type "BaseException", .type "object"] "ValueError.__new__" = true) (sc_c1 : PySem.W.subIn K (.ref c_1) (.type "BaseException") = some true) (tc_1 : PySem.W.typeIn K (.ref c_1) = some (.type "type")) (hc_1 : R.cad 1 = some c_1) : Fx Pr w K mg base R T pg nm "is_odd_choice" b_is_odd_choice :=
  fx_mk2 lk_is_odd_choice cd_is_odd_choice m_is_odd_choice kp_is_odd_choice sc_is_odd_choice rfl rfl (fun us hl => match us, hl with | [_, _], _ => by kernel_rfl) fun n L L2 A outer s H E N0 hr =>
    z_seq (z_if (kt_not (kt_val hRK (o_e (k_call (p := pg) (i := 8) (L 8 "is_whole" (by kernel_rfl)) (dnD_F pg n) hr (pass_fn takes_fn) (gl_of (by kernel_rfl)) (k_cons (k_var (i := 0) (by kernel_rfl) (vis_of (by kernel_rfl)) (by kernel_rfl) (by kernel_rfl)) (k_cons (k_int) (k_cons (k_op (o := .pow) hRK (o_e (k_int)) (o_e (k_int))) (k_nil) (by kernel_rfl)) (by kernel_rfl)) (by kernel_rfl)) (by kernel_rfl) (by kernel_rfl) (by kernel_rfl))) (fun _ => (by kernel_rfl)))) (z_one (z_raise (c := 1) rfl takes_fn PySem.F.excBase_ValueError xc_1 gc_1 kc_1 (raises_own sc_c1 tc_1) (gl_of (by kernel_rfl)) (by kernel_rfl) hc_1)) (z_nil)) (z_seq (z_if (kt_not (kt_val hRK (o_e (k_call (p := pg) (i := 8) (L 8 "is_whole" (by kernel_rfl)) (dnD_F pg n) hr (pass_fn takes_fn) (gl_of (by kernel_rfl)) (k_cons (k_var (i := 1) (by kernel_rfl) (vis_of (by kernel_rfl)) (by kernel_rfl) (by kernel_rfl)) (k_cons (k_int) (k_cons (k_op (o := .pow) hRK (o_e (k_int)) (o_e (k_int))) (k_nil) (by kernel_rfl)) (by kernel_rfl)) (by kernel_rfl)) (by kernel_rfl) (by kernel_rfl) (by kernel_rfl))) (fun _ => (by kernel_rfl)))) (z_one (z_raise (c := 1) rfl takes_fn PySem.F.excBase_ValueError xc_1 gc_1 kc_1 (raises_own sc_c1 tc_1) (gl_of (by kernel_rfl)) (by kernel_rfl) hc_1)) (z_nil)) (z_one (z_ret (k_call (p := pg) (i := 610) (L 610 "is_odd" (by kernel_rfl)) (dnD_F pg n) hr (pass_fn takes_fn) (gl_of (by kernel_rfl)) (k_cons (k_var (i := 0) (by kernel_rfl) (vis_of (by kernel_rfl)) (by kernel_rfl) (by kernel_rfl)) (k_cons (k_var (i := 1) (by kernel_rfl) (vis_of (by kernel_rfl)) (by kernel_rfl) (by kernel_rfl)) (k_nil) (by kernel_rfl)) (by kernel_rfl)) (by kernel_rfl) (by kernel_rfl) (by kernel_rfl)))))
theorem t_words_from (hRK : R.K = K) (hRP : R.pr = Pr) (hRW : R.w = w) {f_words_from : Addr} {kV_words_from doc_words_from pm_words_from ct_words_from oc_words_from : Value} {cv_words_from : Value} {an_words_from od_words_from : Option Addr} {osl_words_from : Array (Option Value)} (lk_words_from : K.lookup f_words_from = some ⟨oc_words_from, od_words_from, .func (PySem.W.fnOf "words_from" "words_from" (defArgs s_words_from) (defBody s_words_from) (defScope s_words_from) .none kV_words_from doc_words_from pm_words_from an_words_from cv_words_from ct_words_from), osl_words_from⟩) (cd_words_from : PySem.W.codeIn K cv_words_from "words_from" = true) (m_words_from : mg "words_from" = some (.ref f_words_from)) (kp_words_from : PySem.W.keepIn K (.ref f_words_from) = true)  (n_range : mg "range" = none) (n_min : mg "min" = none) : Fx Pr w K mg base R T pg nm "words_from" b_words_from :=
  fx_mk2 lk_words_from cd_words_from m_words_from kp_words_from sc_words_from rfl rfl (fun us hl => match us, hl with | [_, _], _ => by kernel_rfl) fun n L L2 A outer s H E N0 hr =>
    z_seq (z_if (kt_cmp (o := .eq) hRK (u65 hr) (by kernel_rfl) (o_e (k_var (i := 0) (by kernel_rfl) (vis_of (by kernel_rfl)) (by kernel_rfl) (by kernel_rfl))) (o_e (k_int))) (z_one (z_ret (k_lst (k_cons (k_tup (k_nil)) (k_nil) (by kernel_rfl))))) (z_nil)) (z_seq (z_set (i := 2) sc_words_from.nd (by kernel_rfl) (loc_of (by kernel_rfl)) (k_lst (k_nil)) (by kernel_rfl) (.inl rfl)) (z_seq (z_for (tg := .n 3) hRK own_fn rfl (ki_rng2 (gl_of (by kernel_rfl)) n_range (k_int) (k_op (o := .add) hRK (o_e (k_blt (T := .min) hRK rfl rfl rfl (gl_of (by kernel_rfl)) n_min (by kernel_rfl) (ko_cons (o_e (k_var (i := 0) (by kernel_rfl) (vis_of (by kernel_rfl)) (by kernel_rfl) (by kernel_rfl))) (ko_cons (o_e (k_var (i := 1) (by kernel_rfl) (vis_of (by kernel_rfl)) (by kernel_rfl) (by kernel_rfl))) (ko_nil) (by kernel_rfl)) (by kernel_rfl)) (by decide) (by kernel_rfl) (by kernel_rfl) (by kernel_rfl))) (o_e (k_int))) (by kernel_rfl) (by kernel_rfl)) (pg_name (i := 3) sc_words_from.nd (by kernel_rfl) (loc_of (by kernel_rfl)) (.inl rfl)) (z_one (z_set (i := 2) sc_words_from.nd (by kernel_rfl) (loc_of (by kernel_rfl)) (k_op (o := .add) hRK (o_e (k_var (i := 2) (by kernel_rfl) (vis_of (by kernel_rfl)) (by kernel_rfl) (by kernel_rfl))) (o_e (k_lc (own := [("rest", 4)]) (tg := .n 4) (look := []) hRK rfl sc_words_from.nd (ki_e hRK (k_call (p := pg) (i := 254) (L 254 "words_from" (by kernel_rfl)) (dnD_F pg n) hr (pass_fn takes_fn) (gl_of (by kernel_rfl)) (k_cons (k_op (o := .sub) hRK (o_e (k_var (i := 0) (by kernel_rfl) (vis_of (by kernel_rfl)) (by kernel_rfl) (by kernel_rfl))) (o_e (k_var (i := 3) (by kernel_rfl) (vis_of (by kernel_rfl)) (by kernel_rfl) (by kernel_rfl)))) (k_cons (k_op (o := .fdiv) hRK (o_e (k_var (i := 3) (by kernel_rfl) (vis_of (by kernel_rfl)) (by kernel_rfl) (by kernel_rfl))) (o_e (k_int))) (k_nil) (by kernel_rfl)) (by kernel_rfl)) (by kernel_rfl) (by kernel_rfl) (by kernel_rfl))) (blkOk_by (by kernel_rfl)) (by decide) (by decide) (fun _ _ _ _ _ => pg_name (i := 4) sc_words_from.nd (by kernel_rfl) (loc_of (by kernel_rfl)) (.inr (by kernel_rfl))) (fun _ _ _ _ _ _ => kq_yes) (fun _ _ _ _ _ _ => k_op (o := .add) hRK (o_e (k_tup (k_cons (k_var (i := 3) (by kernel_rfl) (vis_of (by kernel_rfl)) (by kernel_rfl) (by kernel_rfl)) (k_nil) (by kernel_rfl)))) (o_e (k_var (i := 4) (by kernel_rfl) (vis_of (by kernel_rfl)) (by kernel_rfl) (by kernel_rfl)))) (fun _ => (by kernel_rfl))))) (by kernel_rfl) (.inl rfl))) (fun _ => (by kernel_rfl))) (z_one (z_ret (k_var (i := 2) (by kernel_rfl) (vis_of (by kernel_rfl)) (by kernel_rfl) (by kernel_rfl))))))
theorem t_rising_in (hRK : R.K = K) (hRP : R.pr = Pr) (hRW : R.w = w) {f_rising_in : Addr} {kV_rising_in doc_rising_in pm_rising_in ct_rising_in oc_rising_in : Value} {cv_rising_in : Value} {an_rising_in od_rising_in : Option Addr} {osl_rising_in : Array (Option Value)} (lk_rising_in : K.lookup f_rising_in = some ⟨oc_rising_in, od_rising_in, .func (PySem.W.fnOf "rising_in" "rising_in" (defArgs s_rising_in) (defBody s_rising_in) (defScope s_rising_in) .none kV_rising_in doc_rising_in pm_rising_in an_rising_in cv_rising_in ct_rising_in), osl_rising_in⟩) (cd_rising_in : PySem.W.codeIn K cv_rising_in "rising_in" = true) (m_rising_in : mg "rising_in" = some (.ref f_rising_in)) (kp_rising_in : PySem.W.keepIn K (.ref f_rising_in) = true)   : Fx Pr w K mg base R T pg nm "rising_in" b_rising_in_risingwords :=
  fx_mk2 lk_rising_in cd_rising_in m_rising_in kp_rising_in sc_rising_in rfl rfl (fun us hl => match us, hl with | [_], _ => by kernel_rfl) fun n L L2 A outer s H E N0 hr =>
    z_one (z_ret (k_call (p := pg) (i := 254) (L 254 "words_from" (by kernel_rfl)) (dnD_F pg n) hr (pass_fn takes_fn) (gl_of (by kernel_rfl)) (k_cons (k_var (i := 0) (by kernel_rfl) (vis_of (by kernel_rfl)) (by kernel_rfl) (by kernel_rfl)) (k_cons (k_var (i := 0) (by kernel_rfl) (vis_of (by kernel_rfl)) (by kernel_rfl) (by kernel_rfl)) (k_nil) (by kernel_rfl)) (by kernel_rfl)) (by kernel_rfl) (by kernel_rfl) (by kernel_rfl)))
theorem t_odd_ones (hRK : R.K = K) (hRP : R.pr = Pr) (hRW : R.w = w) {f_odd_ones : Addr} {kV_odd_ones doc_odd_ones pm_odd_ones ct_odd_ones oc_odd_ones : Value} {cv_odd_ones : Value} {an_odd_ones od_odd_ones : Option Addr} {osl_odd_ones : Array (Option Value)} (lk_odd_ones : K.lookup f_odd_ones = some ⟨oc_odd_ones, od_odd_ones, .func (PySem.W.fnOf "odd_ones" "odd_ones" (defArgs s_odd_ones) (defBody s_odd_ones) (defScope s_odd_ones) .none kV_odd_ones doc_odd_ones pm_odd_ones an_odd_ones cv_odd_ones ct_odd_ones), osl_odd_ones⟩) (cd_odd_ones : PySem.W.codeIn K cv_odd_ones "odd_ones" = true) (m_odd_ones : mg "odd_ones" = some (.ref f_odd_ones)) (kp_odd_ones : PySem.W.keepIn K (.ref f_odd_ones) = true)  (n_tuple : mg "tuple" = none) (n_sorted : mg "sorted" = none) : Fx Pr w K mg base R T pg nm "odd_ones" b_odd_ones :=
  fx_mk2 lk_odd_ones cd_odd_ones m_odd_ones kp_odd_ones sc_odd_ones rfl rfl (fun us hl => match us, hl with | [_], _ => by kernel_rfl) fun n L L2 A outer s H E N0 hr =>
    z_seq (z_own (i := 1) sc_odd_ones.nd (by kernel_rfl) (loc_of (by kernel_rfl)) (n_newT ⟨hRK, hRP, hRW⟩) (by kernel_rfl) (.inl rfl)) (z_seq (z_for (tg := .n 2) hRK own_fn rfl (ki_e hRK (k_var (i := 0) (by kernel_rfl) (vis_of (by kernel_rfl)) (by kernel_rfl) (by kernel_rfl))) (pg_name (i := 2) sc_odd_ones.nd (by kernel_rfl) (loc_of (by kernel_rfl)) (.inl rfl)) (z_one (z_dput (i := 1) ⟨hRK, hRP, hRW⟩ (u65 hr) (by kernel_rfl) (vis_of (by kernel_rfl)) (by kernel_rfl) (by kernel_rfl) (k_var (i := 2) (by kernel_rfl) (vis_of (by kernel_rfl)) (by kernel_rfl) (by kernel_rfl)) (k_op (o := .sub) hRK (o_e (k_int)) (o_e (k_dgetd ⟨hRK, hRP, hRW⟩ (u65 hr) (o_look (i := 1) (by kernel_rfl) (vis_of (by kernel_rfl)) (by kernel_rfl) (by kernel_rfl)) (k_var (i := 2) (by kernel_rfl) (vis_of (by kernel_rfl)) (by kernel_rfl) (by kernel_rfl)) (k_int) ⟨(by kernel_rfl), (by kernel_rfl), (by kernel_rfl), (by kernel_rfl)⟩))) (by kernel_rfl))) (fun _ => (by kernel_rfl))) (z_one (z_frzd (i := 1) (z_ret (k_bltT (T := .tuple) hRK rfl rfl rfl (gl_of (by kernel_rfl)) n_tuple (by kernel_rfl) (ko_cons (o_e (k_xcall (T := .sorted) (call_sorted hRK (u65 hr)) (gl_of (by kernel_rfl)) n_sorted (by kernel_rfl) (ko_cons (o_e (k_lc (own := [("own", 2)]) (tg := .n 2) (look := []) hRK rfl sc_odd_ones.nd (ki_keys ⟨hRK, hRP, hRW⟩ (k_var (i := 1) (by kernel_rfl) (vis_of (by kernel_rfl)) (by kernel_rfl) (by kernel_rfl))) (blkOk_by (by kernel_rfl)) (by decide) (by decide) (fun _ _ _ _ _ => pg_name (i := 2) sc_odd_ones.nd (by kernel_rfl) (loc_of (by kernel_rfl)) (.inr (by kernel_rfl))) (fun _ _ _ _ _ _ => kq_one (kt_cmp (o := .eq) hRK (u65 hr) (by kernel_rfl) (o_e (k_dget ⟨hRK, hRP, hRW⟩ (u65 hr) (o_look (i := 1) (by kernel_rfl) (vis_of (by kernel_rfl)) (by kernel_rfl) (by kernel_rfl)) (k_var (i := 2) (by kernel_rfl) (vis_of (by kernel_rfl)) (by kernel_rfl) (by kernel_rfl)) (fun _ _ => (by kernel_rfl)))) (o_e (k_int)))) (fun _ _ _ _ _ _ => k_var (i := 2) (by kernel_rfl) (vis_of (by kernel_rfl)) (by kernel_rfl) (by kernel_rfl)) (fun _ => (by kernel_rfl)))) (ko_nil) (by kernel_rfl)) (by decide) (by kernel_rfl) (by kernel_rfl) (by kernel_rfl))) (ko_nil) (by kernel_rfl)) (by decide) (by kernel_rfl) (by kernel_rfl) (by kernel_rfl))))))
theorem t_is_polynomial (hRK : R.K = K) (hRP : R.pr = Pr) (hRW : R.w = w) {f_is_polynomial : Addr} {kV_is_polynomial doc_is_polynomial pm_is_polynomial ct_is_polynomial oc_is_polynomial : Value} {cv_is_polynomial : Value} {an_is_polynomial od_is_polynomial : Option Addr} {osl_is_polynomial : Array (Option Value)} (lk_is_polynomial : K.lookup f_is_polynomial = some ⟨oc_is_polynomial, od_is_polynomial, .func (PySem.W.fnOf "is_polynomial" "is_polynomial" (defArgs s_is_polynomial) (defBody s_is_polynomial) (defScope s_is_polynomial) .none kV_is_polynomial doc_is_polynomial pm_is_polynomial an_is_polynomial cv_is_polynomial ct_is_polynomial), osl_is_polynomial⟩) (cd_is_polynomial : PySem.W.codeIn K cv_is_polynomial "is_polynomial" = true) (m_is_polynomial : mg "is_polynomial" = some (.ref f_is_polynomial)) (kp_is_polynomial : PySem.W.keepIn K (.ref f_is_polynomial) = true) {t_LETTERS : Tok} {t_MOST : Tok} {t_HIGH : Tok} (g_LETTERS : mg "LETTERS" = some (.int 8 t_LETTERS)) (g_MOST : mg "MOST" = some (.int 2000 t_MOST)) (n_all : mg "all" = none) (g_HIGH : mg "HIGH" = some (.int 64 t_HIGH)) (n_range : mg "range" = none) (n_len : mg "len" = none) : Fx Pr w K mg base R T pg nm "is_polynomial" b_is_polynomial :=
  fx_mk2 lk_is_polynomial cd_is_polynomial m_is_polynomial kp_is_polynomial sc_is_polynomial rfl rfl (fun us hl => match us, hl with | [_], _ => by kernel_rfl) fun n L L2 A outer s H E N0 hr =>
    z_seq (z_if (kt_w (kw_or (kt_not (kt_val hRK (o_e (k_call (p := pg) (i := 10) (L 10 "is_tuple_of" (by kernel_rfl)) (dnD_F pg n) hr (pass_fn takes_fn) (gl_of (by kernel_rfl)) (k_cons (k_var (i := 0) (by kernel_rfl) (vis_of (by kernel_rfl)) (by kernel_rfl) (by kernel_rfl)) (k_cons (k_int) (k_cons (k_int) (k_nil) (by kernel_rfl)) (by kernel_rfl)) (by kernel_rfl)) (by kernel_rfl) (by kernel_rfl) (by kernel_rfl))) (fun _ => (by kernel_rfl)))) (kw_or (kt_not (kt_val hRK (o_e (k_call (p := pg) (i := 8) (L 8 "is_whole" (by kernel_rfl)) (dnD_F pg n) hr (pass_fn takes_fn) (gl_of (by kernel_rfl)) (k_cons (k_ix hRK (o_e (k_var (i := 0) (by kernel_rfl) (vis_of (by kernel_rfl)) (by kernel_rfl) (by kernel_rfl))) (k_int) (fun _ _ => (by kernel_rfl))) (k_cons (k_int) (k_cons (k_globI (gl_of (by kernel_rfl)) g_LETTERS (by kernel_rfl)) (k_nil) (by kernel_rfl)) (by kernel_rfl)) (by kernel_rfl)) (by kernel_rfl) (by kernel_rfl) (by kernel_rfl))) (fun _ => (by kernel_rfl)))) (kw_or1 (kt_not (kt_val hRK (o_e (k_call (p := pg) (i := 10) (L 10 "is_tuple_of" (by kernel_rfl)) (dnD_F pg n) hr (pass_fn takes_fn) (gl_of (by kernel_rfl)) (k_cons (k_ix hRK (o_e (k_var (i := 0) (by kernel_rfl) (vis_of (by kernel_rfl)) (by kernel_rfl) (by kernel_rfl))) (k_int) (fun _ _ => (by kernel_rfl))) (k_cons (k_int) (k_cons (k_globI (gl_of (by kernel_rfl)) g_MOST (by kernel_rfl)) (k_nil) (by kernel_rfl)) (by kernel_rfl)) (by kernel_rfl)) (by kernel_rfl) (by kernel_rfl) (by kernel_rfl))) (fun _ => (by kernel_rfl)))))))) (z_one (z_ret (k_bl))) (z_nil)) (z_seq (z_unp (is := [1, 2]) hRK (k_var (i := 0) (by kernel_rfl) (vis_of (by kernel_rfl)) (by kernel_rfl) (by kernel_rfl)) (pg_tup (n := 2) rfl (pgs_cons (pg_name (i := 1) sc_is_polynomial.nd (by kernel_rfl) (loc_of (by kernel_rfl)) (.inl rfl)) (pgs_cons (pg_name (i := 2) sc_is_polynomial.nd (by kernel_rfl) (loc_of (by kernel_rfl)) (.inl rfl)) (pgs_nil) (by kernel_rfl)) (by kernel_rfl)) (by kernel_rfl) (by kernel_rfl)) (by kernel_rfl) (by kernel_rfl) (by kernel_rfl)) (z_seq (z_for (tg := .n 3) hRK own_fn rfl (ki_e hRK (k_var (i := 2) (by kernel_rfl) (vis_of (by kernel_rfl)) (by kernel_rfl) (by kernel_rfl))) (pg_name (i := 3) sc_is_polynomial.nd (by kernel_rfl) (loc_of (by kernel_rfl)) (.inl rfl)) (z_one (z_if (kt_w (kw_or (kt_not (kt_val hRK (o_e (k_call (p := pg) (i := 10) (L 10 "is_tuple_of" (by kernel_rfl)) (dnD_F pg n) hr (pass_fn takes_fn) (gl_of (by kernel_rfl)) (k_cons (k_var (i := 3) (by kernel_rfl) (vis_of (by kernel_rfl)) (by kernel_rfl) (by kernel_rfl)) (k_cons (k_var (i := 1) (by kernel_rfl) (vis_of (by kernel_rfl)) (by kernel_rfl) (by kernel_rfl)) (k_cons (k_var (i := 1) (by kernel_rfl) (vis_of (by kernel_rfl)) (by kernel_rfl) (by kernel_rfl)) (k_nil) (by kernel_rfl)) (by kernel_rfl)) (by kernel_rfl)) (by kernel_rfl) (by kernel_rfl) (by kernel_rfl))) (fun _ => (by kernel_rfl)))) (kw_or1 (kt_not (kt_val hRK (o_e (k_blt (T := .all) hRK rfl rfl rfl (gl_of (by kernel_rfl)) n_all (by kernel_rfl) (ko_cons (o_e (k_lc (own := [("own", 4)]) (tg := .n 4) (look := []) hRK rfl sc_is_polynomial.nd (ki_e hRK (k_var (i := 3) (by kernel_rfl) (vis_of (by kernel_rfl)) (by kernel_rfl) (by kernel_rfl))) (blkOk_by (by kernel_rfl)) (by decide) (by decide) (fun _ _ _ _ _ => pg_name (i := 4) sc_is_polynomial.nd (by kernel_rfl) (loc_of (by kernel_rfl)) (.inr (by kernel_rfl))) (fun _ _ _ _ _ _ => kq_yes) (fun _ _ _ _ _ _ => k_call (p := pg) (i := 8) (L 8 "is_whole" (by kernel_rfl)) (dnD_F pg n) hr (pass_no fun _ _ _ h => h) (gl_of (by kernel_rfl)) (k_cons (k_var (i := 4) (by kernel_rfl) (vis_of (by kernel_rfl)) (by kernel_rfl) (by kernel_rfl)) (k_cons (k_int) (k_cons (k_globI (gl_of (by kernel_rfl)) g_HIGH (by kernel_rfl)) (k_nil) (by kernel_rfl)) (by kernel_rfl)) (by kernel_rfl)) (by kernel_rfl) (by kernel_rfl) (by kernel_rfl)) (fun _ => (by kernel_rfl)))) (ko_nil) (by kernel_rfl)) (by decide) (by kernel_rfl) (by kernel_rfl) (by kernel_rfl))) (fun _ => (by kernel_rfl))))))) (z_one (z_ret (k_bl))) (z_nil))) (fun _ => (by kernel_rfl))) (z_one (z_ret (k_blt (T := .all) hRK rfl rfl rfl (gl_of (by kernel_rfl)) n_all (by kernel_rfl) (ko_cons (o_e (k_lc (own := [("at", 5)]) (tg := .n 5) (look := []) hRK rfl sc_is_polynomial.nd (ki_rng1 (gl_of (by kernel_rfl)) n_range (k_op (o := .sub) hRK (o_e (k_blt (T := .len) hRK rfl rfl rfl (gl_of (by kernel_rfl)) n_len (by kernel_rfl) (ko_cons (o_e (k_var (i := 2) (by kernel_rfl) (vis_of (by kernel_rfl)) (by kernel_rfl) (by kernel_rfl))) (ko_nil) (by kernel_rfl)) (by decide) (by kernel_rfl) (by kernel_rfl) (by kernel_rfl))) (o_e (k_int))) (by kernel_rfl)) (blkOk_by (by kernel_rfl)) (by decide) (by decide) (fun _ _ _ _ _ => pg_name (i := 5) sc_is_polynomial.nd (by kernel_rfl) (loc_of (by kernel_rfl)) (.inr (by kernel_rfl))) (fun _ _ _ _ _ _ => kq_yes) (fun _ _ _ _ _ _ => k_cmp (o := .lt) hRK (u65 hr) (by kernel_rfl) (o_e (k_ix hRK (o_e (k_var (i := 2) (by kernel_rfl) (vis_of (by kernel_rfl)) (by kernel_rfl) (by kernel_rfl))) (k_var (i := 5) (by kernel_rfl) (vis_of (by kernel_rfl)) (by kernel_rfl) (by kernel_rfl)) (fun _ _ => (by kernel_rfl)))) (o_e (k_ix hRK (o_e (k_var (i := 2) (by kernel_rfl) (vis_of (by kernel_rfl)) (by kernel_rfl) (by kernel_rfl))) (k_op (o := .add) hRK (o_e (k_var (i := 5) (by kernel_rfl) (vis_of (by kernel_rfl)) (by kernel_rfl) (by kernel_rfl))) (o_e (k_int))) (fun _ _ => (by kernel_rfl))))) (fun _ => (by kernel_rfl)))) (ko_nil) (by kernel_rfl)) (by decide) (by kernel_rfl) (by kernel_rfl) (by kernel_rfl))))))
theorem t_need_polynomial (hRK : R.K = K) (hRP : R.pr = Pr) (hRW : R.w = w) {f_need_polynomial : Addr} {kV_need_polynomial doc_need_polynomial pm_need_polynomial ct_need_polynomial oc_need_polynomial : Value} {cv_need_polynomial : Value} {an_need_polynomial od_need_polynomial : Option Addr} {osl_need_polynomial : Array (Option Value)} (lk_need_polynomial : K.lookup f_need_polynomial = some ⟨oc_need_polynomial, od_need_polynomial, .func (PySem.W.fnOf "need_polynomial" "need_polynomial" (defArgs s_need_polynomial) (defBody s_need_polynomial) (defScope s_need_polynomial) .none kV_need_polynomial doc_need_polynomial pm_need_polynomial an_need_polynomial cv_need_polynomial ct_need_polynomial), osl_need_polynomial⟩) (cd_need_polynomial : PySem.W.codeIn K cv_need_polynomial "need_polynomial" = true) (m_need_polynomial : mg "need_polynomial" = some (.ref f_need_polynomial)) (kp_need_polynomial : PySem.W.keepIn K (.ref f_need_polynomial) = true) {c_8 : Addr} (gc_8 : mg "InvalidPolynomial" = some (.ref c_8)) (kc_8 : PySem.W.keepIn K (.ref c_8) = true) (xc_8 : PySem.W.excIn K c_8 [.type "ValueError", .type "Exception", .type "BaseException", .type "object"] "ValueError.__new__" = true) (sc_c8 : PySem.W.subIn K (.ref c_8) (.type "BaseException") = some true) (tc_8 : PySem.W.typeIn K (.ref c_8) = some (.type "type")) (hc_8 : R.cad 8 = some c_8) : Fx Pr w K mg base R T pg nm "need_polynomial" b_need_polynomial :=
  fx_mk2 lk_need_polynomial cd_need_polynomial m_need_polynomial kp_need_polynomial sc_need_polynomial rfl rfl (fun us hl => match us, hl with | [_], _ => by kernel_rfl) fun n L L2 A outer s H E N0 hr =>
    z_one (z_if (kt_not (kt_val hRK (o_e (k_call (p := pg) (i := 224) (L 224 "is_polynomial" (by kernel_rfl)) (dnD_F pg n) hr (pass_fn takes_fn) (gl_of (by kernel_rfl)) (k_cons (k_var (i := 0) (by kernel_rfl) (vis_of (by kernel_rfl)) (by kernel_rfl) (by kernel_rfl)) (k_nil) (by kernel_rfl)) (by kernel_rfl) (by kernel_rfl) (by kernel_rfl))) (fun _ => (by kernel_rfl)))) (z_one (z_raise (c := 8) rfl takes_fn PySem.F.excBase_ValueError xc_8 gc_8 kc_8 (raises_own sc_c8 tc_8) (gl_of (by kernel_rfl)) (by kernel_rfl) hc_8)) (z_nil))
theorem t_need_number (hRK : R.K = K) (hRP : R.pr = Pr) (hRW : R.w = w) {f_need_number : Addr} {kV_need_number doc_need_number pm_need_number ct_need_number oc_need_number : Value} {cv_need_number : Value} {an_need_number od_need_number : Option Addr} {osl_need_number : Array (Option Value)} (lk_need_number : K.lookup f_need_number = some ⟨oc_need_number, od_need_number, .func (PySem.W.fnOf "need_number" "need_number" (defArgs s_need_number) (defBody s_need_number) (defScope s_need_number) .none kV_need_number doc_need_number pm_need_number an_need_number cv_need_number ct_need_number), osl_need_number⟩) (cd_need_number : PySem.W.codeIn K cv_need_number "need_number" = true) (m_need_number : mg "need_number" = some (.ref f_need_number)) (kp_need_number : PySem.W.keepIn K (.ref f_need_number) = true) {t_GREAT_squares : Tok} (g_GREAT_squares : mg "GREAT_squares" = some (.int 64 t_GREAT_squares)) : Fx Pr w K mg base R T pg nm "need_number" b_need_number :=
  fx_mk2 lk_need_number cd_need_number m_need_number kp_need_number sc_need_number rfl rfl (fun us hl => match us, hl with | [_], _ => by kernel_rfl) fun n L L2 A outer s H E N0 hr =>
    z_one (z_drop (k_call (p := pg) (i := 9) (L 9 "need_whole" (by kernel_rfl)) (dnD_F pg n) hr (pass_fn takes_fn) (gl_of (by kernel_rfl)) (k_cons (k_var (i := 0) (by kernel_rfl) (vis_of (by kernel_rfl)) (by kernel_rfl) (by kernel_rfl)) (k_cons (k_int) (k_cons (k_globI (gl_of (by kernel_rfl)) g_GREAT_squares (by kernel_rfl)) (k_nil) (by kernel_rfl)) (by kernel_rfl)) (by kernel_rfl)) (by kernel_rfl) (by kernel_rfl) (by kernel_rfl)) (by kernel_rfl))
theorem t_shared_out (hRK : R.K = K) (hRP : R.pr = Pr) (hRW : R.w = w) {f_shared_out : Addr} {kV_shared_out doc_shared_out pm_shared_out ct_shared_out oc_shared_out : Value} {cv_shared_out : Value} {an_shared_out od_shared_out : Option Addr} {osl_shared_out : Array (Option Value)} (lk_shared_out : K.lookup f_shared_out = some ⟨oc_shared_out, od_shared_out, .func (PySem.W.fnOf "shared_out" "shared_out" (defArgs s_shared_out) (defBody s_shared_out) (defScope s_shared_out) .none kV_shared_out doc_shared_out pm_shared_out an_shared_out cv_shared_out ct_shared_out), osl_shared_out⟩) (cd_shared_out : PySem.W.codeIn K cv_shared_out "shared_out" = true) (m_shared_out : mg "shared_out" = some (.ref f_shared_out)) (kp_shared_out : PySem.W.keepIn K (.ref f_shared_out) = true)  (n_range : mg "range" = none) (n_min : mg "min" = none) : Fx Pr w K mg base R T pg nm "shared_out" b_shared_out :=
  fx_mk2 lk_shared_out cd_shared_out m_shared_out kp_shared_out sc_shared_out rfl rfl (fun us hl => match us, hl with | [_, _], _ => by kernel_rfl) fun n L L2 A outer s H E N0 hr =>
    z_seq (z_set (i := 2) sc_shared_out.nd (by kernel_rfl) (loc_of (by kernel_rfl)) (k_lst (k_cons (k_tup (k_cons (k_tup (k_nil)) (k_cons (k_int) (k_nil) (by kernel_rfl)) (by kernel_rfl))) (k_nil) (by kernel_rfl))) (by kernel_rfl) (.inl rfl)) (z_seq (z_for (tg := .n 3) hRK own_fn rfl (ki_e hRK (k_var (i := 1) (by kernel_rfl) (vis_of (by kernel_rfl)) (by kernel_rfl) (by kernel_rfl))) (pg_name (i := 3) sc_shared_out.nd (by kernel_rfl) (loc_of (by kernel_rfl)) (.inl rfl)) (z_seq (z_set (i := 4) sc_shared_out.nd (by kernel_rfl) (loc_of (by kernel_rfl)) (k_lst (k_nil)) (by kernel_rfl) (.inl rfl)) (z_seq (z_for (tg := .t [5, 6]) hRK own_fn rfl (ki_e hRK (k_var (i := 2) (by kernel_rfl) (vis_of (by kernel_rfl)) (by kernel_rfl) (by kernel_rfl))) (pg_tup (n := 2) rfl (pgs_cons (pg_name (i := 5) sc_shared_out.nd (by kernel_rfl) (loc_of (by kernel_rfl)) (.inl rfl)) (pgs_cons (pg_name (i := 6) sc_shared_out.nd (by kernel_rfl) (loc_of (by kernel_rfl)) (.inl rfl)) (pgs_nil) (by kernel_rfl)) (by kernel_rfl)) (by kernel_rfl) (by kernel_rfl)) (z_seq (z_setLc (i := 7) (own := [("part", 8)]) (tg := .n 8) (look := []) hRK rfl sc_shared_out.nd (by kernel_rfl) (by kernel_rfl) (sw_true (by kernel_rfl) (by kernel_rfl) (by kernel_rfl) (by kernel_rfl)) (ki_rng1 (gl_of (by kernel_rfl)) n_range (k_op (o := .add) hRK (o_e (k_blt (T := .min) hRK rfl rfl rfl (gl_of (by kernel_rfl)) n_min (by kernel_rfl) (ko_cons (o_e (k_var (i := 3) (by kernel_rfl) (vis_of (by kernel_rfl)) (by kernel_rfl) (by kernel_rfl))) (ko_cons (o_e (k_op (o := .sub) hRK (o_e (k_var (i := 0) (by kernel_rfl) (vis_of (by kernel_rfl)) (by kernel_rfl) (by kernel_rfl))) (o_e (k_var (i := 6) (by kernel_rfl) (vis_of (by kernel_rfl)) (by kernel_rfl) (by kernel_rfl))))) (ko_nil) (by kernel_rfl)) (by kernel_rfl)) (by decide) (by kernel_rfl) (by kernel_rfl) (by kernel_rfl))) (o_e (k_int))) (by kernel_rfl)) (blkOk_by (by kernel_rfl)) (by decide) (by decide) (fun _ _ _ _ _ => pg_name (i := 8) sc_shared_out.nd (by kernel_rfl) (loc_of (by kernel_rfl)) (.inr (by kernel_rfl))) (fun _ _ _ _ _ _ => kq_one (kt_val hRK (o_e (k_call (p := pg) (i := 610) (L 610 "is_odd" (by kernel_rfl)) (dnD_F pg n) hr (pass_no fun _ _ _ h => h) (gl_of (by kernel_rfl)) (k_cons (k_var (i := 3) (by kernel_rfl) (vis_of (by kernel_rfl)) (by kernel_rfl) (by kernel_rfl)) (k_cons (k_var (i := 8) (by kernel_rfl) (vis_of (by kernel_rfl)) (by kernel_rfl) (by kernel_rfl)) (k_nil) (by kernel_rfl)) (by kernel_rfl)) (by kernel_rfl) (by kernel_rfl) (by kernel_rfl))) (fun _ => (by kernel_rfl)))) (fun _ _ _ _ _ _ => k_var (i := 8) (by kernel_rfl) (vis_of (by kernel_rfl)) (by kernel_rfl) (by kernel_rfl)) (fun _ => (by kernel_rfl))) (z_one (z_set (i := 4) sc_shared_out.nd (by kernel_rfl) (loc_of (by kernel_rfl)) (k_op (o := .add) hRK (o_e (k_var (i := 4) (by kernel_rfl) (vis_of (by kernel_rfl)) (by kernel_rfl) (by kernel_rfl))) (o_e (k_lc (own := [("part", 8)]) (tg := .n 8) (look := []) hRK rfl sc_shared_out.nd (ki_e hRK (k_var (i := 7) (by kernel_rfl) (vis_of (by kernel_rfl)) (by kernel_rfl) (by kernel_rfl))) (blkOk_by (by kernel_rfl)) (by decide) (by decide) (fun _ _ _ _ _ => pg_name (i := 8) sc_shared_out.nd (by kernel_rfl) (loc_of (by kernel_rfl)) (.inr (by kernel_rfl))) (fun _ _ _ _ _ _ => kq_yes) (fun _ _ _ _ _ _ => k_tup (k_cons (k_op (o := .add) hRK (o_e (k_var (i := 5) (by kernel_rfl) (vis_of (by kernel_rfl)) (by kernel_rfl) (by kernel_rfl))) (o_e (k_tup (k_cons (k_op (o := .add) hRK (o_e (k_var (i := 3) (by kernel_rfl) (vis_of (by kernel_rfl)) (by kernel_rfl) (by kernel_rfl))) (o_e (k_var (i := 8) (by kernel_rfl) (vis_of (by kernel_rfl)) (by kernel_rfl) (by kernel_rfl)))) (k_nil) (by kernel_rfl))))) (k_cons (k_op (o := .add) hRK (o_e (k_var (i := 6) (by kernel_rfl) (vis_of (by kernel_rfl)) (by kernel_rfl) (by kernel_rfl))) (o_e (k_var (i := 8) (by kernel_rfl) (vis_of (by kernel_rfl)) (by kernel_rfl) (by kernel_rfl)))) (k_nil) (by kernel_rfl)) (by kernel_rfl))) (fun _ => (by kernel_rfl))))) (by kernel_rfl) (.inl rfl)))) (fun _ => (by kernel_rfl))) (z_one (z_set (i := 2) sc_shared_out.nd (by kernel_rfl) (loc_of (by kernel_rfl)) (k_var (i := 4) (by kernel_rfl) (vis_of (by kernel_rfl)) (by kernel_rfl) (by kernel_rfl)) (by kernel_rfl) (.inl rfl))))) (fun _ => (by kernel_rfl))) (z_one (z_ret (k_lc (own := [("ahead", 5), ("used", 6)]) (tg := .t [5, 6]) (look := []) hRK rfl sc_shared_out.nd (ki_e hRK (k_var (i := 2) (by kernel_rfl) (vis_of (by kernel_rfl)) (by kernel_rfl) (by kernel_rfl))) (blkOk_by (by kernel_rfl)) (by decide) (by decide) (fun _ _ _ _ _ => pg_tup (n := 2) rfl (pgs_cons (pg_name (i := 5) sc_shared_out.nd (by kernel_rfl) (loc_of (by kernel_rfl)) (.inr (by kernel_rfl))) (pgs_cons (pg_name (i := 6) sc_shared_out.nd (by kernel_rfl) (loc_of (by kernel_rfl)) (.inr (by kernel_rfl))) (pgs_nil) (by kernel_rfl)) (by kernel_rfl)) (by kernel_rfl) (by kernel_rfl)) (fun _ _ _ _ _ _ => kq_one (kt_cmp (o := .eq) hRK (u65 hr) (by kernel_rfl) (o_e (k_var (i := 6) (by kernel_rfl) (vis_of (by kernel_rfl)) (by kernel_rfl) (by kernel_rfl))) (o_e (k_var (i := 0) (by kernel_rfl) (vis_of (by kernel_rfl)) (by kernel_rfl) (by kernel_rfl))))) (fun _ _ _ _ _ _ => k_var (i := 5) (by kernel_rfl) (vis_of (by kernel_rfl)) (by kernel_rfl) (by kernel_rfl)) (fun _ => (by kernel_rfl))))))
theorem t_square_in (hRK : R.K = K) (hRP : R.pr = Pr) (hRW : R.w = w) {f_square_in : Addr} {kV_square_in doc_square_in pm_square_in ct_square_in oc_square_in : Value} {cv_square_in : Value} {an_square_in od_square_in : Option Addr} {osl_square_in : Array (Option Value)} (lk_square_in : K.lookup f_square_in = some ⟨oc_square_in, od_square_in, .func (PySem.W.fnOf "square_in" "square_in" (defArgs s_square_in) (defBody s_square_in) (defScope s_square_in) .none kV_square_in doc_square_in pm_square_in an_square_in cv_square_in ct_square_in), osl_square_in⟩) (cd_square_in : PySem.W.codeIn K cv_square_in "square_in" = true) (m_square_in : mg "square_in" = some (.ref f_square_in)) (kp_square_in : PySem.W.keepIn K (.ref f_square_in) = true)   : Fx Pr w K mg base R T pg nm "square_in" b_square_in_squares :=
  fx_mk2 lk_square_in cd_square_in m_square_in kp_square_in sc_square_in rfl rfl (fun us hl => match us, hl with | [_, _], _ => by kernel_rfl) fun n L L2 A outer s H E N0 hr =>
    z_seq (z_set (i := 2) sc_square_in.nd (by kernel_rfl) (loc_of (by kernel_rfl)) (k_lst (k_nil)) (by kernel_rfl) (.inl rfl)) (z_seq (z_for (tg := .n 3) hRK own_fn rfl (ki_e hRK (k_var (i := 1) (by kernel_rfl) (vis_of (by kernel_rfl)) (by kernel_rfl) (by kernel_rfl))) (pg_name (i := 3) sc_square_in.nd (by kernel_rfl) (loc_of (by kernel_rfl)) (.inl rfl)) (z_one (z_set (i := 2) sc_square_in.nd (by kernel_rfl) (loc_of (by kernel_rfl)) (k_op (o := .add) hRK (o_e (k_var (i := 2) (by kernel_rfl) (vis_of (by kernel_rfl)) (by kernel_rfl) (by kernel_rfl))) (o_e (k_call (p := pg) (i := 418) (L 418 "shared_out" (by kernel_rfl)) (dnD_F pg n) hr (pass_fn takes_fn) (gl_of (by kernel_rfl)) (k_cons (k_var (i := 0) (by kernel_rfl) (vis_of (by kernel_rfl)) (by kernel_rfl) (by kernel_rfl)) (k_cons (k_var (i := 3) (by kernel_rfl) (vis_of (by kernel_rfl)) (by kernel_rfl) (by kernel_rfl)) (k_nil) (by kernel_rfl)) (by kernel_rfl)) (by kernel_rfl) (by kernel_rfl) (by kernel_rfl)))) (by kernel_rfl) (.inl rfl))) (fun _ => (by kernel_rfl))) (z_one (z_ret (k_call (p := pg) (i := 526) (L 526 "odd_ones" (by kernel_rfl)) (dnD_F pg n) hr (pass_fn takes_fn) (gl_of (by kernel_rfl)) (k_cons (k_var (i := 2) (by kernel_rfl) (vis_of (by kernel_rfl)) (by kernel_rfl) (by kernel_rfl)) (k_nil) (by kernel_rfl)) (by kernel_rfl) (by kernel_rfl) (by kernel_rfl)))))
theorem t_square_of (hRK : R.K = K) (hRP : R.pr = Pr) (hRW : R.w = w) {f_square_of : Addr} {kV_square_of doc_square_of pm_square_of ct_square_of oc_square_of : Value} {cv_square_of : Value} {an_square_of od_square_of : Option Addr} {osl_square_of : Array (Option Value)} (lk_square_of : K.lookup f_square_of = some ⟨oc_square_of, od_square_of, .func (PySem.W.fnOf "square_of" "square_of" (defArgs s_square_of) (defBody s_square_of) (defScope s_square_of) .none kV_square_of doc_square_of pm_square_of an_square_of cv_square_of ct_square_of), osl_square_of⟩) (cd_square_of : PySem.W.codeIn K cv_square_of "square_of" = true) (m_square_of : mg "square_of" = some (.ref f_square_of)) (kp_square_of : PySem.W.keepIn K (.ref f_square_of) = true)   : Fx Pr w K mg base R T pg nm "square_of" b_square_of :=
  fx_mk2 lk_square_of cd_square_of m_square_of kp_square_of sc_square_of rfl rfl (fun us hl => match us, hl with | [_, _], _ => by kernel_rfl) fun n L L2 A outer s H E N0 hr =>
    z_seq (z_drop (k_call (p := pg) (i := 417) (L 417 "need_number" (by kernel_rfl)) (dnD_F pg n) hr (pass_fn takes_fn) (gl_of (by kernel_rfl)) (k_cons (k_var (i := 0) (by kernel_rfl) (vis_of (by kernel_rfl)) (by kernel_rfl) (by kernel_rfl)) (k_nil) (by kernel_rfl)) (by kernel_rfl) (by kernel_rfl) (by kernel_rfl)) (by kernel_rfl)) (z_seq (z_drop (k_call (p := pg) (i := 225) (L 225 "need_polynomial" (by kernel_rfl)) (dnD_F pg n) hr (pass_fn takes_fn) (gl_of (by kernel_rfl)) (k_cons (k_var (i := 1) (by kernel_rfl) (vis_of (by kernel_rfl)) (by kernel_rfl) (by kernel_rfl)) (k_nil) (by kernel_rfl)) (by kernel_rfl) (by kernel_rfl) (by kernel_rfl)) (by kernel_rfl)) (z_one (z_ret (k_tup (k_cons (k_ix hRK (o_e (k_var (i := 1) (by kernel_rfl) (vis_of (by kernel_rfl)) (by kernel_rfl) (by kernel_rfl))) (k_int) (fun _ _ => (by kernel_rfl))) (k_cons (k_call (p := pg) (i := 419) (L 419 "square_in" (by kernel_rfl)) (dnD_F pg n) hr (pass_fn takes_fn) (gl_of (by kernel_rfl)) (k_cons (k_var (i := 0) (by kernel_rfl) (vis_of (by kernel_rfl)) (by kernel_rfl) (by kernel_rfl)) (k_cons (k_ix hRK (o_e (k_var (i := 1) (by kernel_rfl) (vis_of (by kernel_rfl)) (by kernel_rfl) (by kernel_rfl))) (k_int) (fun _ _ => (by kernel_rfl))) (k_nil) (by kernel_rfl)) (by kernel_rfl)) (by kernel_rfl) (by kernel_rfl) (by kernel_rfl)) (k_nil) (by kernel_rfl)) (by kernel_rfl))))))
theorem t_power_squared (hRK : R.K = K) (hRP : R.pr = Pr) (hRW : R.w = w) {f_power_squared : Addr} {kV_power_squared doc_power_squared pm_power_squared ct_power_squared oc_power_squared : Value} {cv_power_squared : Value} {an_power_squared od_power_squared : Option Addr} {osl_power_squared : Array (Option Value)} (lk_power_squared : K.lookup f_power_squared = some ⟨oc_power_squared, od_power_squared, .func (PySem.W.fnOf "power_squared" "power_squared" (defArgs s_power_squared) (defBody s_power_squared) (defScope s_power_squared) .none kV_power_squared doc_power_squared pm_power_squared an_power_squared cv_power_squared ct_power_squared), osl_power_squared⟩) (cd_power_squared : PySem.W.codeIn K cv_power_squared "power_squared" = true) (m_power_squared : mg "power_squared" = some (.ref f_power_squared)) (kp_power_squared : PySem.W.keepIn K (.ref f_power_squared) = true)   : Fx Pr w K mg base R T pg nm "power_squared" b_power_squared :=
  fx_mk2 lk_power_squared cd_power_squared m_power_squared kp_power_squared sc_power_squared rfl rfl (fun us hl => match us, hl with | [_, _], _ => by kernel_rfl) fun n L L2 A outer s H E N0 hr =>
    z_one (z_ret (k_ife (kt_val hRK (o_e (k_call (p := pg) (i := 610) (L 610 "is_odd" (by kernel_rfl)) (dnD_F pg n) hr (pass_fn takes_fn) (gl_of (by kernel_rfl)) (k_cons (k_var (i := 1) (by kernel_rfl) (vis_of (by kernel_rfl)) (by kernel_rfl) (by kernel_rfl)) (k_cons (k_var (i := 0) (by kernel_rfl) (vis_of (by kernel_rfl)) (by kernel_rfl) (by kernel_rfl)) (k_nil) (by kernel_rfl)) (by kernel_rfl)) (by kernel_rfl) (by kernel_rfl) (by kernel_rfl))) (fun _ => (by kernel_rfl))) (k_op (o := .add) hRK (o_e (k_var (i := 1) (by kernel_rfl) (vis_of (by kernel_rfl)) (by kernel_rfl) (by kernel_rfl))) (o_e (k_var (i := 0) (by kernel_rfl) (vis_of (by kernel_rfl)) (by kernel_rfl) (by kernel_rfl)))) (k_non)))
theorem t_power_led (hRK : R.K = K) (hRP : R.pr = Pr) (hRW : R.w = w) {f_power_led : Addr} {kV_power_led doc_power_led pm_power_led ct_power_led oc_power_led : Value} {cv_power_led : Value} {an_power_led od_power_led : Option Addr} {osl_power_led : Array (Option Value)} (lk_power_led : K.lookup f_power_led = some ⟨oc_power_led, od_power_led, .func (PySem.W.fnOf "power_led" "power_led" (defArgs s_power_led) (defBody s_power_led) (defScope s_power_led) .none kV_power_led doc_power_led pm_power_led an_power_led cv_power_led ct_power_led), osl_power_led⟩) (cd_power_led : PySem.W.codeIn K cv_power_led "power_led" = true) (m_power_led : mg "power_led" = some (.ref f_power_led)) (kp_power_led : PySem.W.keepIn K (.ref f_power_led) = true)   : Fx Pr w K mg base R T pg nm "power_led" b_power_led :=
  fx_mk2 lk_power_led cd_power_led m_power_led kp_power_led sc_power_led rfl rfl (fun us hl => match us, hl with | [_, _], _ => by kernel_rfl) fun n L L2 A outer s H E N0 hr =>
    z_seq (z_set (i := 2) sc_power_led.nd (by kernel_rfl) (loc_of (by kernel_rfl)) (k_var (i := 1) (by kernel_rfl) (vis_of (by kernel_rfl)) (by kernel_rfl) (by kernel_rfl)) (by kernel_rfl) (.inl rfl)) (z_seq (z_for (tg := .n 3) hRK own_fn rfl (ki_e hRK (k_rev hRK (o_e (k_var (i := 0) (by kernel_rfl) (vis_of (by kernel_rfl)) (by kernel_rfl) (by kernel_rfl))))) (pg_name (i := 3) sc_power_led.nd (by kernel_rfl) (loc_of (by kernel_rfl)) (.inl rfl)) (z_one (z_set (i := 2) sc_power_led.nd (by kernel_rfl) (loc_of (by kernel_rfl)) (k_ife (kt_cmp (o := .isnot) hRK (u65 hr) (by kernel_rfl) (o_e (k_var (i := 2) (by kernel_rfl) (vis_of (by kernel_rfl)) (by kernel_rfl) (by kernel_rfl))) (o_e (k_non))) (k_call (p := pg) (i := 156) (L 156 "power_squared" (by kernel_rfl)) (dnD_F pg n) hr (pass_fn takes_fn) (gl_of (by kernel_rfl)) (k_cons (k_var (i := 3) (by kernel_rfl) (vis_of (by kernel_rfl)) (by kernel_rfl) (by kernel_rfl)) (k_cons (k_var (i := 2) (by kernel_rfl) (vis_of (by kernel_rfl)) (by kernel_rfl) (by kernel_rfl)) (k_nil) (by kernel_rfl)) (by kernel_rfl)) (by kernel_rfl) (by kernel_rfl) (by kernel_rfl)) (k_non)) (by kernel_rfl) (.inl rfl))) (fun _ => (by kernel_rfl))) (z_one (z_ret (k_var (i := 2) (by kernel_rfl) (vis_of (by kernel_rfl)) (by kernel_rfl) (by kernel_rfl)))))
theorem t_need_exponent (hRK : R.K = K) (hRP : R.pr = Pr) (hRW : R.w = w) {f_need_exponent : Addr} {kV_need_exponent doc_need_exponent pm_need_exponent ct_need_exponent oc_need_exponent : Value} {cv_need_exponent : Value} {an_need_exponent od_need_exponent : Option Addr} {osl_need_exponent : Array (Option Value)} (lk_need_exponent : K.lookup f_need_exponent = some ⟨oc_need_exponent, od_need_exponent, .func (PySem.W.fnOf "need_exponent" "need_exponent" (defArgs s_need_exponent) (defBody s_need_exponent) (defScope s_need_exponent) .none kV_need_exponent doc_need_exponent pm_need_exponent an_need_exponent cv_need_exponent ct_need_exponent), osl_need_exponent⟩) (cd_need_exponent : PySem.W.codeIn K cv_need_exponent "need_exponent" = true) (m_need_exponent : mg "need_exponent" = some (.ref f_need_exponent)) (kp_need_exponent : PySem.W.keepIn K (.ref f_need_exponent) = true) {t_GREAT_squares : Tok} (g_GREAT_squares : mg "GREAT_squares" = some (.int 64 t_GREAT_squares)) : Fx Pr w K mg base R T pg nm "need_exponent" b_need_exponent :=
  fx_mk2 lk_need_exponent cd_need_exponent m_need_exponent kp_need_exponent sc_need_exponent rfl rfl (fun us hl => match us, hl with | [_], _ => by kernel_rfl) fun n L L2 A outer s H E N0 hr =>
    z_one (z_drop (k_call (p := pg) (i := 9) (L 9 "need_whole" (by kernel_rfl)) (dnD_F pg n) hr (pass_fn takes_fn) (gl_of (by kernel_rfl)) (k_cons (k_var (i := 0) (by kernel_rfl) (vis_of (by kernel_rfl)) (by kernel_rfl) (by kernel_rfl)) (k_cons (k_int) (k_cons (k_globI (gl_of (by kernel_rfl)) g_GREAT_squares (by kernel_rfl)) (k_nil) (by kernel_rfl)) (by kernel_rfl)) (by kernel_rfl)) (by kernel_rfl) (by kernel_rfl) (by kernel_rfl)) (by kernel_rfl))
theorem t_letter_square (hRK : R.K = K) (hRP : R.pr = Pr) (hRW : R.w = w) {f_letter_square : Addr} {kV_letter_square doc_letter_square pm_letter_square ct_letter_square oc_letter_square : Value} {cv_letter_square : Value} {an_letter_square od_letter_square : Option Addr} {osl_letter_square : Array (Option Value)} (lk_letter_square : K.lookup f_letter_square = some ⟨oc_letter_square, od_letter_square, .func (PySem.W.fnOf "letter_square" "letter_square" (defArgs s_letter_square) (defBody s_letter_square) (defScope s_letter_square) .none kV_letter_square doc_letter_square pm_letter_square an_letter_square cv_letter_square ct_letter_square), osl_letter_square⟩) (cd_letter_square : PySem.W.codeIn K cv_letter_square "letter_square" = true) (m_letter_square : mg "letter_square" = some (.ref f_letter_square)) (kp_letter_square : PySem.W.keepIn K (.ref f_letter_square) = true)   : Fx Pr w K mg base R T pg nm "letter_square" b_letter_square :=
  fx_mk2 lk_letter_square cd_letter_square m_letter_square kp_letter_square sc_letter_square rfl rfl (fun us hl => match us, hl with | [_, _], _ => by kernel_rfl) fun n L L2 A outer s H E N0 hr =>
    z_seq (z_drop (k_call (p := pg) (i := 417) (L 417 "need_number" (by kernel_rfl)) (dnD_F pg n) hr (pass_fn takes_fn) (gl_of (by kernel_rfl)) (k_cons (k_var (i := 0) (by kernel_rfl) (vis_of (by kernel_rfl)) (by kernel_rfl) (by kernel_rfl)) (k_nil) (by kernel_rfl)) (by kernel_rfl) (by kernel_rfl) (by kernel_rfl)) (by kernel_rfl)) (z_seq (z_drop (k_call (p := pg) (i := 158) (L 158 "need_exponent" (by kernel_rfl)) (dnD_F pg n) hr (pass_fn takes_fn) (gl_of (by kernel_rfl)) (k_cons (k_var (i := 1) (by kernel_rfl) (vis_of (by kernel_rfl)) (by kernel_rfl) (by kernel_rfl)) (k_nil) (by kernel_rfl)) (by kernel_rfl) (by kernel_rfl) (by kernel_rfl)) (by kernel_rfl)) (z_one (z_ret (k_call (p := pg) (i := 156) (L 156 "power_squared" (by kernel_rfl)) (dnD_F pg n) hr (pass_fn takes_fn) (gl_of (by kernel_rfl)) (k_cons (k_var (i := 0) (by kernel_rfl) (vis_of (by kernel_rfl)) (by kernel_rfl) (by kernel_rfl)) (k_cons (k_var (i := 1) (by kernel_rfl) (vis_of (by kernel_rfl)) (by kernel_rfl) (by kernel_rfl)) (k_nil) (by kernel_rfl)) (by kernel_rfl)) (by kernel_rfl) (by kernel_rfl) (by kernel_rfl)))))
theorem t_letter_word (hRK : R.K = K) (hRP : R.pr = Pr) (hRW : R.w = w) {f_letter_word : Addr} {kV_letter_word doc_letter_word pm_letter_word ct_letter_word oc_letter_word : Value} {cv_letter_word : Value} {an_letter_word od_letter_word : Option Addr} {osl_letter_word : Array (Option Value)} (lk_letter_word : K.lookup f_letter_word = some ⟨oc_letter_word, od_letter_word, .func (PySem.W.fnOf "letter_word" "letter_word" (defArgs s_letter_word) (defBody s_letter_word) (defScope s_letter_word) .none kV_letter_word doc_letter_word pm_letter_word an_letter_word cv_letter_word ct_letter_word), osl_letter_word⟩) (cd_letter_word : PySem.W.codeIn K cv_letter_word "letter_word" = true) (m_letter_word : mg "letter_word" = some (.ref f_letter_word)) (kp_letter_word : PySem.W.keepIn K (.ref f_letter_word) = true)   : Fx Pr w K mg base R T pg nm "letter_word" b_letter_word :=
  fx_mk2 lk_letter_word cd_letter_word m_letter_word kp_letter_word sc_letter_word rfl rfl (fun us hl => match us, hl with | [_, _], _ => by kernel_rfl) fun n L L2 A outer s H E N0 hr =>
    z_seq (z_drop (k_call (p := pg) (i := 606) (L 606 "need_word" (by kernel_rfl)) (dnD_F pg n) hr (pass_fn takes_fn) (gl_of (by kernel_rfl)) (k_cons (k_var (i := 0) (by kernel_rfl) (vis_of (by kernel_rfl)) (by kernel_rfl) (by kernel_rfl)) (k_nil) (by kernel_rfl)) (by kernel_rfl) (by kernel_rfl) (by kernel_rfl)) (by kernel_rfl)) (z_seq (z_drop (k_call (p := pg) (i := 158) (L 158 "need_exponent" (by kernel_rfl)) (dnD_F pg n) hr (pass_fn takes_fn) (gl_of (by kernel_rfl)) (k_cons (k_var (i := 1) (by kernel_rfl) (vis_of (by kernel_rfl)) (by kernel_rfl) (by kernel_rfl)) (k_nil) (by kernel_rfl)) (by kernel_rfl) (by kernel_rfl) (by kernel_rfl)) (by kernel_rfl)) (z_one (z_ret (k_call (p := pg) (i := 157) (L 157 "power_led" (by kernel_rfl)) (dnD_F pg n) hr (pass_fn takes_fn) (gl_of (by kernel_rfl)) (k_cons (k_var (i := 0) (by kernel_rfl) (vis_of (by kernel_rfl)) (by kernel_rfl) (by kernel_rfl)) (k_cons (k_var (i := 1) (by kernel_rfl) (vis_of (by kernel_rfl)) (by kernel_rfl) (by kernel_rfl)) (k_nil) (by kernel_rfl)) (by kernel_rfl)) (by kernel_rfl) (by kernel_rfl) (by kernel_rfl)))))
theorem t_letter_words (hRK : R.K = K) (hRP : R.pr = Pr) (hRW : R.w = w) {f_letter_words : Addr} {kV_letter_words doc_letter_words pm_letter_words ct_letter_words oc_letter_words : Value} {cv_letter_words : Value} {an_letter_words od_letter_words : Option Addr} {osl_letter_words : Array (Option Value)} (lk_letter_words : K.lookup f_letter_words = some ⟨oc_letter_words, od_letter_words, .func (PySem.W.fnOf "letter_words" "letter_words" (defArgs s_letter_words) (defBody s_letter_words) (defScope s_letter_words) .none kV_letter_words doc_letter_words pm_letter_words an_letter_words cv_letter_words ct_letter_words), osl_letter_words⟩) (cd_letter_words : PySem.W.codeIn K cv_letter_words "letter_words" = true) (m_letter_words : mg "letter_words" = some (.ref f_letter_words)) (kp_letter_words : PySem.W.keepIn K (.ref f_letter_words) = true) {t_GREAT_words : Tok} (g_GREAT_words : mg "GREAT_words" = some (.int 40 t_GREAT_words)) (n_tuple : mg "tuple" = none) : Fx Pr w K mg base R T pg nm "letter_words" b_letter_words :=
  fx_mk2 lk_letter_words cd_letter_words m_letter_words kp_letter_words sc_letter_words rfl rfl (fun us hl => match us, hl with | [_, _], _ => by kernel_rfl) fun n L L2 A outer s H E N0 hr =>
    z_seq (z_drop (k_call (p := pg) (i := 9) (L 9 "need_whole" (by kernel_rfl)) (dnD_F pg n) hr (pass_fn takes_fn) (gl_of (by kernel_rfl)) (k_cons (k_var (i := 0) (by kernel_rfl) (vis_of (by kernel_rfl)) (by kernel_rfl) (by kernel_rfl)) (k_cons (k_int) (k_cons (k_globI (gl_of (by kernel_rfl)) g_GREAT_words (by kernel_rfl)) (k_nil) (by kernel_rfl)) (by kernel_rfl)) (by kernel_rfl)) (by kernel_rfl) (by kernel_rfl) (by kernel_rfl)) (by kernel_rfl)) (z_seq (z_drop (k_call (p := pg) (i := 158) (L 158 "need_exponent" (by kernel_rfl)) (dnD_F pg n) hr (pass_fn takes_fn) (gl_of (by kernel_rfl)) (k_cons (k_var (i := 1) (by kernel_rfl) (vis_of (by kernel_rfl)) (by kernel_rfl) (by kernel_rfl)) (k_nil) (by kernel_rfl)) (by kernel_rfl) (by kernel_rfl) (by kernel_rfl)) (by kernel_rfl)) (z_one (z_ret (k_bltT (T := .tuple) hRK rfl rfl rfl (gl_of (by kernel_rfl)) n_tuple (by kernel_rfl) (ko_cons (o_e (k_lc (own := [("word", 2)]) (tg := .n 2) (look := []) hRK rfl sc_letter_words.nd (ki_e hRK (k_call (p := pg) (i := 255) (L 255 "rising_in" (by kernel_rfl)) (dnD_F pg n) hr (pass_fn takes_fn) (gl_of (by kernel_rfl)) (k_cons (k_var (i := 0) (by kernel_rfl) (vis_of (by kernel_rfl)) (by kernel_rfl) (by kernel_rfl)) (k_nil) (by kernel_rfl)) (by kernel_rfl) (by kernel_rfl) (by kernel_rfl))) (blkOk_by (by kernel_rfl)) (by decide) (by decide) (fun _ _ _ _ _ => pg_name (i := 2) sc_letter_words.nd (by kernel_rfl) (loc_of (by kernel_rfl)) (.inr (by kernel_rfl))) (fun _ _ _ _ _ _ => kq_one (kt_cmp (o := .isnot) hRK (u65 hr) (by kernel_rfl) (o_e (k_call (p := pg) (i := 157) (L 157 "power_led" (by kernel_rfl)) (dnD_F pg n) hr (pass_no fun _ _ _ h => h) (gl_of (by kernel_rfl)) (k_cons (k_var (i := 2) (by kernel_rfl) (vis_of (by kernel_rfl)) (by kernel_rfl) (by kernel_rfl)) (k_cons (k_var (i := 1) (by kernel_rfl) (vis_of (by kernel_rfl)) (by kernel_rfl) (by kernel_rfl)) (k_nil) (by kernel_rfl)) (by kernel_rfl)) (by kernel_rfl) (by kernel_rfl) (by kernel_rfl))) (o_e (k_non)))) (fun _ _ _ _ _ _ => k_var (i := 2) (by kernel_rfl) (vis_of (by kernel_rfl)) (by kernel_rfl) (by kernel_rfl)) (fun _ => (by kernel_rfl)))) (ko_nil) (by kernel_rfl)) (by decide) (by kernel_rfl) (by kernel_rfl) (by kernel_rfl)))))
theorem t_letter_reach (hRK : R.K = K) (hRP : R.pr = Pr) (hRW : R.w = w) {f_letter_reach : Addr} {kV_letter_reach doc_letter_reach pm_letter_reach ct_letter_reach oc_letter_reach : Value} {cv_letter_reach : Value} {an_letter_reach od_letter_reach : Option Addr} {osl_letter_reach : Array (Option Value)} (lk_letter_reach : K.lookup f_letter_reach = some ⟨oc_letter_reach, od_letter_reach, .func (PySem.W.fnOf "letter_reach" "letter_reach" (defArgs s_letter_reach) (defBody s_letter_reach) (defScope s_letter_reach) .none kV_letter_reach doc_letter_reach pm_letter_reach an_letter_reach cv_letter_reach ct_letter_reach), osl_letter_reach⟩) (cd_letter_reach : PySem.W.codeIn K cv_letter_reach "letter_reach" = true) (m_letter_reach : mg "letter_reach" = some (.ref f_letter_reach)) (kp_letter_reach : PySem.W.keepIn K (.ref f_letter_reach) = true) {t_FAR : Tok} (g_FAR : mg "FAR" = some (.int 200 t_FAR)) (n_range : mg "range" = none) (n_max : mg "max" = none) (n_min : mg "min" = none) (n_tuple : mg "tuple" = none) : Fx Pr w K mg base R T pg nm "letter_reach" b_letter_reach :=
  fx_mk2 lk_letter_reach cd_letter_reach m_letter_reach kp_letter_reach sc_letter_reach rfl rfl (fun us hl => match us, hl with | [_, _], _ => by kernel_rfl) fun n L L2 A outer s H E N0 hr =>
    z_seq (z_drop (k_call (p := pg) (i := 158) (L 158 "need_exponent" (by kernel_rfl)) (dnD_F pg n) hr (pass_fn takes_fn) (gl_of (by kernel_rfl)) (k_cons (k_var (i := 0) (by kernel_rfl) (vis_of (by kernel_rfl)) (by kernel_rfl) (by kernel_rfl)) (k_nil) (by kernel_rfl)) (by kernel_rfl) (by kernel_rfl) (by kernel_rfl)) (by kernel_rfl)) (z_seq (z_drop (k_call (p := pg) (i := 9) (L 9 "need_whole" (by kernel_rfl)) (dnD_F pg n) hr (pass_fn takes_fn) (gl_of (by kernel_rfl)) (k_cons (k_var (i := 1) (by kernel_rfl) (vis_of (by kernel_rfl)) (by kernel_rfl) (by kernel_rfl)) (k_cons (k_int) (k_cons (k_globI (gl_of (by kernel_rfl)) g_FAR (by kernel_rfl)) (k_nil) (by kernel_rfl)) (by kernel_rfl)) (by kernel_rfl)) (by kernel_rfl) (by kernel_rfl) (by kernel_rfl)) (by kernel_rfl)) (z_seq (z_own (i := 2) sc_letter_reach.nd (by kernel_rfl) (loc_of (by kernel_rfl)) (n_lc (own := [("own", 3)]) (tg := .n 3) (look := []) hRK rfl sc_letter_reach.nd (ki_rng1 (gl_of (by kernel_rfl)) n_range (k_op (o := .add) hRK (o_e (k_blt (T := .max) hRK rfl rfl rfl (gl_of (by kernel_rfl)) n_max (by kernel_rfl) (ko_cons (o_e (k_var (i := 1) (by kernel_rfl) (vis_of (by kernel_rfl)) (by kernel_rfl) (by kernel_rfl))) (ko_cons (o_e (k_var (i := 0) (by kernel_rfl) (vis_of (by kernel_rfl)) (by kernel_rfl) (by kernel_rfl))) (ko_nil) (by kernel_rfl)) (by kernel_rfl)) (by decide) (by kernel_rfl) (by kernel_rfl) (by kernel_rfl))) (o_e (k_int))) (by kernel_rfl)) (blkOk_by (by kernel_rfl)) (by decide) (by decide) (fun _ _ _ _ _ => pg_name (i := 3) sc_letter_reach.nd (by kernel_rfl) (loc_of (by kernel_rfl)) (.inr (by kernel_rfl))) (fun _ _ _ _ _ _ => kq_yes) (fun _ _ _ _ _ _ => k_cmp (o := .eq) hRK (u65 hr) (by kernel_rfl) (o_e (k_var (i := 3) (by kernel_rfl) (vis_of (by kernel_rfl)) (by kernel_rfl) (by kernel_rfl))) (o_e (k_var (i := 0) (by kernel_rfl) (vis_of (by kernel_rfl)) (by kernel_rfl) (by kernel_rfl)))) (fun _ => (by kernel_rfl))) (by kernel_rfl) (.inl rfl)) (z_seq (z_for (tg := .n 3) hRK own_fn rfl (ki_rng2 (gl_of (by kernel_rfl)) n_range (k_var (i := 0) (by kernel_rfl) (vis_of (by kernel_rfl)) (by kernel_rfl) (by kernel_rfl)) (k_op (o := .add) hRK (o_e (k_var (i := 1) (by kernel_rfl) (vis_of (by kernel_rfl)) (by kernel_rfl) (by kernel_rfl))) (o_e (k_int))) (by kernel_rfl) (by kernel_rfl)) (pg_name (i := 3) sc_letter_reach.nd (by kernel_rfl) (loc_of (by kernel_rfl)) (.inl rfl)) (z_one (z_if (kt_val hRK (o_e (k_ix hRK (o_look (i := 2) (by kernel_rfl) (vis_of (by kernel_rfl)) (by kernel_rfl) (by kernel_rfl)) (k_var (i := 3) (by kernel_rfl) (vis_of (by kernel_rfl)) (by kernel_rfl) (by kernel_rfl)) (fun _ _ => (by kernel_rfl)))) (fun _ => (by kernel_rfl))) (z_one (z_for (tg := .n 4) hRK own_fn rfl (ki_rng2 (gl_of (by kernel_rfl)) n_range (k_int) (k_op (o := .add) hRK (o_e (k_blt (T := .min) hRK rfl rfl rfl (gl_of (by kernel_rfl)) n_min (by kernel_rfl) (ko_cons (o_e (k_var (i := 3) (by kernel_rfl) (vis_of (by kernel_rfl)) (by kernel_rfl) (by kernel_rfl))) (ko_cons (o_e (k_op (o := .sub) hRK (o_e (k_var (i := 1) (by kernel_rfl) (vis_of (by kernel_rfl)) (by kernel_rfl) (by kernel_rfl))) (o_e (k_var (i := 3) (by kernel_rfl) (vis_of (by kernel_rfl)) (by kernel_rfl) (by kernel_rfl))))) (ko_nil) (by kernel_rfl)) (by kernel_rfl)) (by decide) (by kernel_rfl) (by kernel_rfl) (by kernel_rfl))) (o_e (k_int))) (by kernel_rfl) (by kernel_rfl)) (pg_name (i := 4) sc_letter_reach.nd (by kernel_rfl) (loc_of (by kernel_rfl)) (.inl rfl)) (z_one (z_seti (i := 2) (by kernel_rfl) (vis_of (by kernel_rfl)) (by kernel_rfl) (by kernel_rfl) (k_op (o := .add) hRK (o_e (k_var (i := 3) (by kernel_rfl) (vis_of (by kernel_rfl)) (by kernel_rfl) (by kernel_rfl))) (o_e (k_var (i := 4) (by kernel_rfl) (vis_of (by kernel_rfl)) (by kernel_rfl) (by kernel_rfl)))) (k_or (k_ix hRK (o_look (i := 2) (by kernel_rfl) (vis_of (by kernel_rfl)) (by kernel_rfl) (by kernel_rfl)) (k_op (o := .add) hRK (o_e (k_var (i := 3) (by kernel_rfl) (vis_of (by kernel_rfl)) (by kernel_rfl) (by kernel_rfl))) (o_e (k_var (i := 4) (by kernel_rfl) (vis_of (by kernel_rfl)) (by kernel_rfl) (by kernel_rfl)))) (fun _ _ => (by kernel_rfl))) (k_one (k_call (p := pg) (i := 610) (L 610 "is_odd" (by kernel_rfl)) (dnD_F pg n) hr (pass_fn takes_fn) (gl_of (by kernel_rfl)) (k_cons (k_var (i := 3) (by kernel_rfl) (vis_of (by kernel_rfl)) (by kernel_rfl) (by kernel_rfl)) (k_cons (k_var (i := 4) (by kernel_rfl) (vis_of (by kernel_rfl)) (by kernel_rfl) (by kernel_rfl)) (k_nil) (by kernel_rfl)) (by kernel_rfl)) (by kernel_rfl) (by kernel_rfl) (by kernel_rfl)))) (fun _ => (by kernel_rfl)) (by kernel_rfl) (by kernel_rfl) (by kernel_rfl))) (fun _ => (by kernel_rfl)))) (z_nil))) (fun _ => (by kernel_rfl))) (z_one (z_ret (k_bltT (T := .tuple) hRK rfl rfl rfl (gl_of (by kernel_rfl)) n_tuple (by kernel_rfl) (ko_cons (o_e (k_lc (own := [("own", 3)]) (tg := .n 3) (look := []) hRK rfl sc_letter_reach.nd (ki_rng1 (gl_of (by kernel_rfl)) n_range (k_op (o := .add) hRK (o_e (k_var (i := 1) (by kernel_rfl) (vis_of (by kernel_rfl)) (by kernel_rfl) (by kernel_rfl))) (o_e (k_int))) (by kernel_rfl)) (blkOk_by (by kernel_rfl)) (by decide) (by decide) (fun _ _ _ _ _ => pg_name (i := 3) sc_letter_reach.nd (by kernel_rfl) (loc_of (by kernel_rfl)) (.inr (by kernel_rfl))) (fun _ _ _ _ _ _ => kq_one (kt_val hRK (o_e (k_ix hRK (o_look (i := 2) (by kernel_rfl) (vis_of (by kernel_rfl)) (by kernel_rfl) (by kernel_rfl)) (k_var (i := 3) (by kernel_rfl) (vis_of (by kernel_rfl)) (by kernel_rfl) (by kernel_rfl)) (fun _ _ => (by kernel_rfl)))) (fun _ => (by kernel_rfl)))) (fun _ _ _ _ _ _ => k_var (i := 3) (by kernel_rfl) (vis_of (by kernel_rfl)) (by kernel_rfl) (by kernel_rfl)) (fun _ => (by kernel_rfl)))) (ko_nil) (by kernel_rfl)) (by decide) (by kernel_rfl) (by kernel_rfl) (by kernel_rfl)))))))
theorem t_stages_in (hRK : R.K = K) (hRP : R.pr = Pr) (hRW : R.w = w) {f_stages_in : Addr} {kV_stages_in doc_stages_in pm_stages_in ct_stages_in oc_stages_in : Value} {cv_stages_in : Value} {an_stages_in od_stages_in : Option Addr} {osl_stages_in : Array (Option Value)} (lk_stages_in : K.lookup f_stages_in = some ⟨oc_stages_in, od_stages_in, .func (PySem.W.fnOf "stages_in" "stages_in" (defArgs s_stages_in) (defBody s_stages_in) (defScope s_stages_in) .none kV_stages_in doc_stages_in pm_stages_in an_stages_in cv_stages_in ct_stages_in), osl_stages_in⟩) (cd_stages_in : PySem.W.codeIn K cv_stages_in "stages_in" = true) (m_stages_in : mg "stages_in" = some (.ref f_stages_in)) (kp_stages_in : PySem.W.keepIn K (.ref f_stages_in) = true)   : Fx Pr w K mg base R T pg nm "stages_in" b_stages_in :=
  fx_mk2 lk_stages_in cd_stages_in m_stages_in kp_stages_in sc_stages_in rfl rfl (fun us hl => match us, hl with | [_, _], _ => by kernel_rfl) fun n L L2 A outer s H E N0 hr =>
    z_seq (z_own (i := 2) sc_stages_in.nd (by kernel_rfl) (loc_of (by kernel_rfl)) (n_lst (k_cons (k_var (i := 1) (by kernel_rfl) (vis_of (by kernel_rfl)) (by kernel_rfl) (by kernel_rfl)) (k_nil) (by kernel_rfl))) (by kernel_rfl) (.inl rfl)) (z_seq (z_for (tg := .n 3) hRK own_fn rfl (ki_e hRK (k_rev hRK (o_e (k_var (i := 0) (by kernel_rfl) (vis_of (by kernel_rfl)) (by kernel_rfl) (by kernel_rfl))))) (pg_name (i := 3) sc_stages_in.nd (by kernel_rfl) (loc_of (by kernel_rfl)) (.inl rfl)) (z_one (z_app (i := 2) (by kernel_rfl) (vis_of (by kernel_rfl)) (by kernel_rfl) (by kernel_rfl) (k_call (p := pg) (i := 419) (L 419 "square_in" (by kernel_rfl)) (dnD_F pg n) hr (pass_fn takes_fn) (gl_of (by kernel_rfl)) (k_cons (k_var (i := 3) (by kernel_rfl) (vis_of (by kernel_rfl)) (by kernel_rfl) (by kernel_rfl)) (k_cons (k_ix hRK (o_look (i := 2) (by kernel_rfl) (vis_of (by kernel_rfl)) (by kernel_rfl) (by kernel_rfl)) (k_neg (k_int)) (fun _ _ => (by kernel_rfl))) (k_nil) (by kernel_rfl)) (by kernel_rfl)) (by kernel_rfl) (by kernel_rfl) (by kernel_rfl)) (by kernel_rfl) (by kernel_rfl) (by kernel_rfl) (by kernel_rfl) (by kernel_rfl))) (fun _ => (by kernel_rfl))) (z_one (z_frz (i := 2) (z_ret (k_var (i := 2) (by kernel_rfl) (vis_of (by kernel_rfl)) (by kernel_rfl) (by kernel_rfl))))))
theorem t_word_in (hRK : R.K = K) (hRP : R.pr = Pr) (hRW : R.w = w) {f_word_in : Addr} {kV_word_in doc_word_in pm_word_in ct_word_in oc_word_in : Value} {cv_word_in : Value} {an_word_in od_word_in : Option Addr} {osl_word_in : Array (Option Value)} (lk_word_in : K.lookup f_word_in = some ⟨oc_word_in, od_word_in, .func (PySem.W.fnOf "word_in" "word_in" (defArgs s_word_in) (defBody s_word_in) (defScope s_word_in) .none kV_word_in doc_word_in pm_word_in an_word_in cv_word_in ct_word_in), osl_word_in⟩) (cd_word_in : PySem.W.codeIn K cv_word_in "word_in" = true) (m_word_in : mg "word_in" = some (.ref f_word_in)) (kp_word_in : PySem.W.keepIn K (.ref f_word_in) = true)   : Fx Pr w K mg base R T pg nm "word_in" b_word_in_actedwords :=
  fx_mk2 lk_word_in cd_word_in m_word_in kp_word_in sc_word_in rfl rfl (fun us hl => match us, hl with | [_, _], _ => by kernel_rfl) fun n L L2 A outer s H E N0 hr =>
    z_one (z_ret (k_ix hRK (o_e (k_call (p := pg) (i := 700) (L 700 "stages_in" (by kernel_rfl)) (dnD_F pg n) hr (pass_fn takes_fn) (gl_of (by kernel_rfl)) (k_cons (k_var (i := 0) (by kernel_rfl) (vis_of (by kernel_rfl)) (by kernel_rfl) (by kernel_rfl)) (k_cons (k_var (i := 1) (by kernel_rfl) (vis_of (by kernel_rfl)) (by kernel_rfl) (by kernel_rfl)) (k_nil) (by kernel_rfl)) (by kernel_rfl)) (by kernel_rfl) (by kernel_rfl) (by kernel_rfl))) (k_neg (k_int)) (fun _ _ => (by kernel_rfl))))
theorem t_act_word (hRK : R.K = K) (hRP : R.pr = Pr) (hRW : R.w = w) {f_act_word : Addr} {kV_act_word doc_act_word pm_act_word ct_act_word oc_act_word : Value} {cv_act_word : Value} {an_act_word od_act_word : Option Addr} {osl_act_word : Array (Option Value)} (lk_act_word : K.lookup f_act_word = some ⟨oc_act_word, od_act_word, .func (PySem.W.fnOf "act_word" "act_word" (defArgs s_act_word) (defBody s_act_word) (defScope s_act_word) .none kV_act_word doc_act_word pm_act_word an_act_word cv_act_word ct_act_word), osl_act_word⟩) (cd_act_word : PySem.W.codeIn K cv_act_word "act_word" = true) (m_act_word : mg "act_word" = some (.ref f_act_word)) (kp_act_word : PySem.W.keepIn K (.ref f_act_word) = true)   : Fx Pr w K mg base R T pg nm "act_word" b_act_word :=
  fx_mk2 lk_act_word cd_act_word m_act_word kp_act_word sc_act_word rfl rfl (fun us hl => match us, hl with | [_, _], _ => by kernel_rfl) fun n L L2 A outer s H E N0 hr =>
    z_seq (z_drop (k_call (p := pg) (i := 606) (L 606 "need_word" (by kernel_rfl)) (dnD_F pg n) hr (pass_fn takes_fn) (gl_of (by kernel_rfl)) (k_cons (k_var (i := 0) (by kernel_rfl) (vis_of (by kernel_rfl)) (by kernel_rfl) (by kernel_rfl)) (k_nil) (by kernel_rfl)) (by kernel_rfl) (by kernel_rfl) (by kernel_rfl)) (by kernel_rfl)) (z_seq (z_drop (k_call (p := pg) (i := 225) (L 225 "need_polynomial" (by kernel_rfl)) (dnD_F pg n) hr (pass_fn takes_fn) (gl_of (by kernel_rfl)) (k_cons (k_var (i := 1) (by kernel_rfl) (vis_of (by kernel_rfl)) (by kernel_rfl) (by kernel_rfl)) (k_nil) (by kernel_rfl)) (by kernel_rfl) (by kernel_rfl) (by kernel_rfl)) (by kernel_rfl)) (z_one (z_ret (k_tup (k_cons (k_ix hRK (o_e (k_var (i := 1) (by kernel_rfl) (vis_of (by kernel_rfl)) (by kernel_rfl) (by kernel_rfl))) (k_int) (fun _ _ => (by kernel_rfl))) (k_cons (k_call (p := pg) (i := 701) (L 701 "word_in" (by kernel_rfl)) (dnD_F pg n) hr (pass_fn takes_fn) (gl_of (by kernel_rfl)) (k_cons (k_var (i := 0) (by kernel_rfl) (vis_of (by kernel_rfl)) (by kernel_rfl) (by kernel_rfl)) (k_cons (k_ix hRK (o_e (k_var (i := 1) (by kernel_rfl) (vis_of (by kernel_rfl)) (by kernel_rfl) (by kernel_rfl))) (k_int) (fun _ _ => (by kernel_rfl))) (k_nil) (by kernel_rfl)) (by kernel_rfl)) (by kernel_rfl) (by kernel_rfl) (by kernel_rfl)) (k_nil) (by kernel_rfl)) (by kernel_rfl))))))
theorem t__law_cup (hRK : R.K = K) (hRP : R.pr = Pr) (hRW : R.w = w) {f__law_cup : Addr} {kV__law_cup doc__law_cup pm__law_cup ct__law_cup oc__law_cup : Value} {cv__law_cup : Value} {an__law_cup od__law_cup : Option Addr} {osl__law_cup : Array (Option Value)} (lk__law_cup : K.lookup f__law_cup = some ⟨oc__law_cup, od__law_cup, .func (PySem.W.fnOf "_law_cup" "_law_cup" (defArgs s__law_cup) (defBody s__law_cup) (defScope s__law_cup) .none kV__law_cup doc__law_cup pm__law_cup an__law_cup cv__law_cup ct__law_cup), osl__law_cup⟩) (cd__law_cup : PySem.W.codeIn K cv__law_cup "_law_cup" = true) (m__law_cup : mg "_law_cup" = some (.ref f__law_cup)) (kp__law_cup : PySem.W.keepIn K (.ref f__law_cup) = true)  (n_abs : mg "abs" = none) (n_list : mg "list" = none) (n_int : mg "int" = none) : Fx Pr w K mg base R T pg nm "_law_cup" b__law_cup :=
  fx_mk2 lk__law_cup cd__law_cup m__law_cup kp__law_cup sc__law_cup rfl rfl (fun us hl => match us, hl with | [_], _ => by kernel_rfl) fun n L L2 A outer s H E N0 hr =>
    z_seq (z_set (i := 1) sc__law_cup.nd (by kernel_rfl) (loc_of (by kernel_rfl)) (k_blt (T := .abs) hRK rfl rfl rfl (gl_of (by kernel_rfl)) n_abs (by kernel_rfl) (ko_cons (o_e (k_ix hRK (o_e (k_op (o := .add) hRK (o_e (k_bltT (T := .list) hRK rfl rfl rfl (gl_of (by kernel_rfl)) n_list (by kernel_rfl) (ko_cons (o_e (k_var (i := 0) (by kernel_rfl) (vis_of (by kernel_rfl)) (by kernel_rfl) (by kernel_rfl))) (ko_nil) (by kernel_rfl)) (by decide) (by kernel_rfl) (by kernel_rfl) (by kernel_rfl))) (o_e (k_lst (k_cons (k_int) (k_nil) (by kernel_rfl)))))) (k_int) (fun _ _ => (by kernel_rfl)))) (ko_nil) (by kernel_rfl)) (by decide) (by kernel_rfl) (by kernel_rfl) (by kernel_rfl)) (by kernel_rfl) (.inl rfl)) (z_one (z_ret (k_newref (k_cons (k_ife (kt_cmp (o := .ge) hRK (u65 hr) (by kernel_rfl) (o_e (k_var (i := 1) (by kernel_rfl) (vis_of (by kernel_rfl)) (by kernel_rfl) (by kernel_rfl))) (o_e (k_op (o := .pow) hRK (o_e (k_int)) (o_e (k_int))))) (k_op (o := .fdiv) hRK (o_e (k_var (i := 1) (by kernel_rfl) (vis_of (by kernel_rfl)) (by kernel_rfl) (by kernel_rfl))) (o_e (k_int))) (k_int)) (k_cons (k_op (o := .mod) hRK (o_e (k_bltT (T := .int) hRK rfl rfl rfl (gl_of (by kernel_rfl)) n_int (by kernel_rfl) (ko_cons (o_e (k_op (o := .add) hRK (o_e (k_op (o := .mul) hRK (o_e (k_var (i := 1) (by kernel_rfl) (vis_of (by kernel_rfl)) (by kernel_rfl) (by kernel_rfl))) (o_e (k_int)))) (o_e (k_int)))) (ko_nil) (by kernel_rfl)) (by decide) (by kernel_rfl) (by kernel_rfl) (by kernel_rfl))) (o_e (k_int))) (k_nil) (by kernel_rfl)) (by kernel_rfl)))))
theorem t__law_roll (hRK : R.K = K) (hRP : R.pr = Pr) (hRW : R.w = w) {f__law_roll : Addr} {kV__law_roll doc__law_roll pm__law_roll ct__law_roll oc__law_roll : Value} {cv__law_roll : Value} {an__law_roll od__law_roll : Option Addr} {osl__law_roll : Array (Option Value)} (lk__law_roll : K.lookup f__law_roll = some ⟨oc__law_roll, od__law_roll, .func (PySem.W.fnOf "_law_roll" "_law_roll" (defArgs s__law_roll) (defBody s__law_roll) (defScope s__law_roll) .none kV__law_roll doc__law_roll pm__law_roll an__law_roll cv__law_roll ct__law_roll), osl__law_roll⟩) (cd__law_roll : PySem.W.codeIn K cv__law_roll "_law_roll" = true) (m__law_roll : mg "_law_roll" = some (.ref f__law_roll)) (kp__law_roll : PySem.W.keepIn K (.ref f__law_roll) = true)  (n_int : mg "int" = none) : Fx Pr w K mg base R T pg nm "_law_roll" b__law_roll :=
  fx_mk2 lk__law_roll cd__law_roll m__law_roll kp__law_roll sc__law_roll rfl rfl (fun us hl => match us, hl with | [_, _], _ => by kernel_rfl) fun n L L2 A outer s H E N0 hr =>
    z_seq (z_if (kt_cmp (o := .gt) hRK (u65 hr) (by kernel_rfl) (o_e (k_ix hRK (o_e (k_var (i := 0) (by kernel_rfl) (vis_of (by kernel_rfl)) (by kernel_rfl) (by kernel_rfl))) (k_int) (fun _ _ => (by kernel_rfl)))) (o_e (k_int))) (z_seq (z_set (i := 2) sc__law_roll.nd (by kernel_rfl) (loc_of (by kernel_rfl)) (k_op (o := .mod) hRK (o_e (k_bltT (T := .int) hRK rfl rfl rfl (gl_of (by kernel_rfl)) n_int (by kernel_rfl) (ko_cons (o_e (k_ix hRK (o_e (k_var (i := 0) (by kernel_rfl) (vis_of (by kernel_rfl)) (by kernel_rfl) (by kernel_rfl))) (k_int) (fun _ _ => (by kernel_rfl)))) (ko_nil) (by kernel_rfl)) (by decide) (by kernel_rfl) (by kernel_rfl) (by kernel_rfl))) (o_e (k_var (i := 1) (by kernel_rfl) (vis_of (by kernel_rfl)) (by kernel_rfl) (by kernel_rfl)))) (by kernel_rfl) (.inl rfl)) (z_seq (z_rseti (i := 0) (by kernel_rfl) (vis_of (by kernel_rfl)) (by kernel_rfl) (by kernel_rfl) (k_int) (k_op (o := .fdiv) hRK (o_e (k_ix hRK (o_e (k_var (i := 0) (by kernel_rfl) (vis_of (by kernel_rfl)) (by kernel_rfl) (by kernel_rfl))) (k_int) (fun _ _ => (by kernel_rfl)))) (o_e (k_var (i := 1) (by kernel_rfl) (vis_of (by kernel_rfl)) (by kernel_rfl) (by kernel_rfl)))) (fun _ => (by kernel_rfl)) (by kernel_rfl) (by kernel_rfl) (by kernel_rfl)) (z_one (z_ret (k_var (i := 2) (by kernel_rfl) (vis_of (by kernel_rfl)) (by kernel_rfl) (by kernel_rfl)))))) (z_nil)) (z_seq (z_rseti (i := 0) (by kernel_rfl) (vis_of (by kernel_rfl)) (by kernel_rfl) (by kernel_rfl) (k_int) (k_op (o := .mod) hRK (o_e (k_bltT (T := .int) hRK rfl rfl rfl (gl_of (by kernel_rfl)) n_int (by kernel_rfl) (ko_cons (o_e (k_op (o := .add) hRK (o_e (k_op (o := .mul) hRK (o_e (k_ix hRK (o_e (k_var (i := 0) (by kernel_rfl) (vis_of (by kernel_rfl)) (by kernel_rfl) (by kernel_rfl))) (k_int) (fun _ _ => (by kernel_rfl)))) (o_e (k_int)))) (o_e (k_int)))) (ko_nil) (by kernel_rfl)) (by decide) (by kernel_rfl) (by kernel_rfl) (by kernel_rfl))) (o_e (k_int))) (fun _ => (by kernel_rfl)) (by kernel_rfl) (by kernel_rfl) (by kernel_rfl)) (z_one (z_ret (k_op (o := .mod) hRK (o_e (k_bltT (T := .int) hRK rfl rfl rfl (gl_of (by kernel_rfl)) n_int (by kernel_rfl) (ko_cons (o_e (k_op (o := .fdiv) hRK (o_e (k_ix hRK (o_e (k_var (i := 0) (by kernel_rfl) (vis_of (by kernel_rfl)) (by kernel_rfl) (by kernel_rfl))) (k_int) (fun _ _ => (by kernel_rfl)))) (o_e (k_int)))) (ko_nil) (by kernel_rfl)) (by decide) (by kernel_rfl) (by kernel_rfl) (by kernel_rfl))) (o_e (k_var (i := 1) (by kernel_rfl) (vis_of (by kernel_rfl)) (by kernel_rfl) (by kernel_rfl)))))))
theorem t__law_sort (hRK : R.K = K) (hRP : R.pr = Pr) (hRW : R.w = w) {f__law_sort : Addr} {kV__law_sort doc__law_sort pm__law_sort ct__law_sort oc__law_sort : Value} {cv__law_sort : Value} {an__law_sort od__law_sort : Option Addr} {osl__law_sort : Array (Option Value)} (lk__law_sort : K.lookup f__law_sort = some ⟨oc__law_sort, od__law_sort, .func (PySem.W.fnOf "_law_sort" "_law_sort" (defArgs s__law_sort) (defBody s__law_sort) (defScope s__law_sort) .none kV__law_sort doc__law_sort pm__law_sort an__law_sort cv__law_sort ct__law_sort), osl__law_sort⟩) (cd__law_sort : PySem.W.codeIn K cv__law_sort "_law_sort" = true) (m__law_sort : mg "_law_sort" = some (.ref f__law_sort)) (kp__law_sort : PySem.W.keepIn K (.ref f__law_sort) = true)  (n_isinstance : mg "isinstance" = none) (n_bool : mg "bool" = none) (n_int : mg "int" = none) (n_str : mg "str" = none) (n_tuple : mg "tuple" = none) (n_list : mg "list" = none) : Fx Pr w K mg base R T pg nm "_law_sort" b__law_sort :=
  fx_mk2 lk__law_sort cd__law_sort m__law_sort kp__law_sort sc__law_sort rfl rfl (fun us hl => match us, hl with | [_], _ => by kernel_rfl) fun n L L2 A outer s H E N0 hr =>
    z_seq (z_if (kt_w (kw_or (kt_cmp (o := .is) hRK (u65 hr) (by kernel_rfl) (o_e (k_var (i := 0) (by kernel_rfl) (vis_of (by kernel_rfl)) (by kernel_rfl) (by kernel_rfl))) (o_e (k_non))) (kw_or1 (kt_val hRK (o_e (k_isi (t := .bool) hRK rfl (gl_of (by kernel_rfl)) n_isinstance (by kernel_rfl) (gl_of (by kernel_rfl)) n_bool (by kernel_rfl) (o_e (k_var (i := 0) (by kernel_rfl) (vis_of (by kernel_rfl)) (by kernel_rfl) (by kernel_rfl))) (by decide) (by kernel_rfl) (by decide) (by kernel_rfl) (by kernel_rfl))) (fun _ => (by kernel_rfl)))))) (z_one (z_ret (k_ife (kt_cmp (o := .is) hRK (u65 hr) (by kernel_rfl) (o_e (k_var (i := 0) (by kernel_rfl) (vis_of (by kernel_rfl)) (by kernel_rfl) (by kernel_rfl))) (o_e (k_non))) (k_int) (k_int)))) (z_nil)) (z_seq (z_if (kt_w (kw_or (kt_val hRK (o_e (k_isi (t := .int) hRK rfl (gl_of (by kernel_rfl)) n_isinstance (by kernel_rfl) (gl_of (by kernel_rfl)) n_int (by kernel_rfl) (o_e (k_var (i := 0) (by kernel_rfl) (vis_of (by kernel_rfl)) (by kernel_rfl) (by kernel_rfl))) (by decide) (by kernel_rfl) (by decide) (by kernel_rfl) (by kernel_rfl))) (fun _ => (by kernel_rfl))) (kw_or1 (kt_val hRK (o_e (k_isi (t := .str) hRK rfl (gl_of (by kernel_rfl)) n_isinstance (by kernel_rfl) (gl_of (by kernel_rfl)) n_str (by kernel_rfl) (o_e (k_var (i := 0) (by kernel_rfl) (vis_of (by kernel_rfl)) (by kernel_rfl) (by kernel_rfl))) (by decide) (by kernel_rfl) (by decide) (by kernel_rfl) (by kernel_rfl))) (fun _ => (by kernel_rfl)))))) (z_one (z_ret (k_ife (kt_val hRK (o_e (k_isi (t := .int) hRK rfl (gl_of (by kernel_rfl)) n_isinstance (by kernel_rfl) (gl_of (by kernel_rfl)) n_int (by kernel_rfl) (o_e (k_var (i := 0) (by kernel_rfl) (vis_of (by kernel_rfl)) (by kernel_rfl) (by kernel_rfl))) (by decide) (by kernel_rfl) (by decide) (by kernel_rfl) (by kernel_rfl))) (fun _ => (by kernel_rfl))) (k_int) (k_int)))) (z_nil)) (z_one (z_ret (k_ife (kt_val hRK (o_e (k_isi (t := .tuple) hRK rfl (gl_of (by kernel_rfl)) n_isinstance (by kernel_rfl) (gl_of (by kernel_rfl)) n_tuple (by kernel_rfl) (o_e (k_var (i := 0) (by kernel_rfl) (vis_of (by kernel_rfl)) (by kernel_rfl) (by kernel_rfl))) (by decide) (by kernel_rfl) (by decide) (by kernel_rfl) (by kernel_rfl))) (fun _ => (by kernel_rfl))) (k_int) (k_ife (kt_val hRK (o_e (k_isi (t := .list) hRK rfl (gl_of (by kernel_rfl)) n_isinstance (by kernel_rfl) (gl_of (by kernel_rfl)) n_list (by kernel_rfl) (o_e (k_var (i := 0) (by kernel_rfl) (vis_of (by kernel_rfl)) (by kernel_rfl) (by kernel_rfl))) (by decide) (by kernel_rfl) (by decide) (by kernel_rfl) (by kernel_rfl))) (fun _ => (by kernel_rfl))) (k_int) (k_int))))))
theorem t__law_like (hRK : R.K = K) (hRP : R.pr = Pr) (hRW : R.w = w) {f__law_like : Addr} {kV__law_like doc__law_like pm__law_like ct__law_like oc__law_like : Value} {cv__law_like : Value} {an__law_like od__law_like : Option Addr} {osl__law_like : Array (Option Value)} (lk__law_like : K.lookup f__law_like = some ⟨oc__law_like, od__law_like, .func (PySem.W.fnOf "_law_like" "_law_like" (defArgs s__law_like) (defBody s__law_like) (defScope s__law_like) .none kV__law_like doc__law_like pm__law_like an__law_like cv__law_like ct__law_like), osl__law_like⟩) (cd__law_like : PySem.W.codeIn K cv__law_like "_law_like" = true) (m__law_like : mg "_law_like" = some (.ref f__law_like)) (kp__law_like : PySem.W.keepIn K (.ref f__law_like) = true)  (n_len : mg "len" = none) (n_zip : mg "zip" = none) : Fx Pr w K mg base R T pg nm "_law_like" b__law_like :=
  fx_mk2 lk__law_like cd__law_like m__law_like kp__law_like sc__law_like rfl rfl (fun us hl => match us, hl with | [_, _], _ => by kernel_rfl) fun n L L2 A outer s H E N0 hr =>
    z_seq (z_set (i := 2) sc__law_like.nd (by kernel_rfl) (loc_of (by kernel_rfl)) (k_call (p := pg) (i := 903) (L 903 "_law_sort" (by kernel_rfl)) (dnD_F pg n) hr (pass_fn takes_fn) (gl_of (by kernel_rfl)) (k_cons (k_var (i := 1) (by kernel_rfl) (vis_of (by kernel_rfl)) (by kernel_rfl) (by kernel_rfl)) (k_nil) (by kernel_rfl)) (by kernel_rfl) (by kernel_rfl) (by kernel_rfl)) (by kernel_rfl) (.inl rfl)) (z_seq (z_if (kt_w (kw_or (kt_cmp (o := .ne) hRK (u65 hr) (by kernel_rfl) (o_e (k_call (p := pg) (i := 903) (L 903 "_law_sort" (by kernel_rfl)) (dnD_F pg n) hr (pass_fn takes_fn) (gl_of (by kernel_rfl)) (k_cons (k_var (i := 0) (by kernel_rfl) (vis_of (by kernel_rfl)) (by kernel_rfl) (by kernel_rfl)) (k_nil) (by kernel_rfl)) (by kernel_rfl) (by kernel_rfl) (by kernel_rfl))) (o_e (k_var (i := 2) (by kernel_rfl) (vis_of (by kernel_rfl)) (by kernel_rfl) (by kernel_rfl)))) (kw_or1 (kt_cmp (o := .eq) hRK (u65 hr) (by kernel_rfl) (o_e (k_var (i := 2) (by kernel_rfl) (vis_of (by kernel_rfl)) (by kernel_rfl) (by kernel_rfl))) (o_e (k_int)))))) (z_one (z_ret (k_bl))) (z_nil)) (z_seq (z_if (kt_cmp (o := .isin) hRK (u65 hr) (by kernel_rfl) (o_e (k_var (i := 2) (by kernel_rfl) (vis_of (by kernel_rfl)) (by kernel_rfl) (by kernel_rfl))) (o_e (k_tup (k_cons (k_int) (k_cons (k_int) (k_nil) (by kernel_rfl)) (by kernel_rfl))))) (z_one (z_ret (k_and (k_cmp (o := .eq) hRK (u65 hr) (by kernel_rfl) (o_e (k_blt (T := .len) hRK rfl rfl rfl (gl_of (by kernel_rfl)) n_len (by kernel_rfl) (ko_cons (o_e (k_var (i := 0) (by kernel_rfl) (vis_of (by kernel_rfl)) (by kernel_rfl) (by kernel_rfl))) (ko_nil) (by kernel_rfl)) (by decide) (by kernel_rfl) (by kernel_rfl) (by kernel_rfl))) (o_e (k_blt (T := .len) hRK rfl rfl rfl (gl_of (by kernel_rfl)) n_len (by kernel_rfl) (ko_cons (o_e (k_var (i := 1) (by kernel_rfl) (vis_of (by kernel_rfl)) (by kernel_rfl) (by kernel_rfl))) (ko_nil) (by kernel_rfl)) (by decide) (by kernel_rfl) (by kernel_rfl) (by kernel_rfl)))) (k_one (k_cmp (o := .eq) hRK (u65 hr) (by kernel_rfl) (o_e (k_lc (own := [("first", 3), ("second", 4)]) (tg := .t [3, 4]) (look := []) hRK rfl sc__law_like.nd (ki_zip hRK (gl_of (by kernel_rfl)) n_zip (k_var (i := 0) (by kernel_rfl) (vis_of (by kernel_rfl)) (by kernel_rfl) (by kernel_rfl)) (k_var (i := 1) (by kernel_rfl) (vis_of (by kernel_rfl)) (by kernel_rfl) (by kernel_rfl)) (by kernel_rfl) (by kernel_rfl)) (blkOk_by (by kernel_rfl)) (by decide) (by decide) (fun _ _ _ _ _ => pg_tup (n := 2) rfl (pgs_cons (pg_name (i := 3) sc__law_like.nd (by kernel_rfl) (loc_of (by kernel_rfl)) (.inr (by kernel_rfl))) (pgs_cons (pg_name (i := 4) sc__law_like.nd (by kernel_rfl) (loc_of (by kernel_rfl)) (.inr (by kernel_rfl))) (pgs_nil) (by kernel_rfl)) (by kernel_rfl)) (by kernel_rfl) (by kernel_rfl)) (fun _ _ _ _ _ _ => kq_one (kt_not (kt_val hRK (o_e (k_call (p := pg) (i := 904) (L 904 "_law_like" (by kernel_rfl)) (dnD_F pg n) hr (pass_no fun _ _ _ h => h) (gl_of (by kernel_rfl)) (k_cons (k_var (i := 3) (by kernel_rfl) (vis_of (by kernel_rfl)) (by kernel_rfl) (by kernel_rfl)) (k_cons (k_var (i := 4) (by kernel_rfl) (vis_of (by kernel_rfl)) (by kernel_rfl) (by kernel_rfl)) (k_nil) (by kernel_rfl)) (by kernel_rfl)) (by kernel_rfl) (by kernel_rfl) (by kernel_rfl))) (fun _ => (by kernel_rfl))))) (fun _ _ _ _ _ _ => k_int) (fun _ => (by kernel_rfl)))) (o_e (k_lst (k_nil)))))))) (z_nil)) (z_one (z_ret (k_cmp (o := .eq) hRK (u65 hr) (by kernel_rfl) (o_e (k_var (i := 0) (by kernel_rfl) (vis_of (by kernel_rfl)) (by kernel_rfl) (by kernel_rfl))) (o_e (k_var (i := 1) (by kernel_rfl) (vis_of (by kernel_rfl)) (by kernel_rfl) (by kernel_rfl))))))))
theorem t__law_ways (hRK : R.K = K) (hRP : R.pr = Pr) (hRW : R.w = w) {f__law_ways : Addr} {kV__law_ways doc__law_ways pm__law_ways ct__law_ways oc__law_ways : Value} {cv__law_ways : Value} {an__law_ways od__law_ways : Option Addr} {osl__law_ways : Array (Option Value)} (lk__law_ways : K.lookup f__law_ways = some ⟨oc__law_ways, od__law_ways, .func (PySem.W.fnOf "_law_ways" "_law_ways" (defArgs s__law_ways) (defBody s__law_ways) (defScope s__law_ways) .none kV__law_ways doc__law_ways pm__law_ways an__law_ways cv__law_ways ct__law_ways), osl__law_ways⟩) (cd__law_ways : PySem.W.codeIn K cv__law_ways "_law_ways" = true) (m__law_ways : mg "_law_ways" = some (.ref f__law_ways)) (kp__law_ways : PySem.W.keepIn K (.ref f__law_ways) = true)  (n_range : mg "range" = none) (n_zip : mg "zip" = none) (n_int : mg "int" = none) : Fx Pr w K mg base R T pg nm "_law_ways" b__law_ways :=
  fx_mk2 lk__law_ways cd__law_ways m__law_ways kp__law_ways sc__law_ways rfl rfl (fun us hl => match us, hl with | [_], _ => by kernel_rfl) fun n L L2 A outer s H E N0 hr =>
    z_seq (z_set (i := 1) sc__law_ways.nd (by kernel_rfl) (loc_of (by kernel_rfl)) (k_lst (k_cons (k_int) (k_nil) (by kernel_rfl))) (by kernel_rfl) (.inl rfl)) (z_seq (z_for (tg := .n 2) hRK own_fn rfl (ki_rng1 (gl_of (by kernel_rfl)) n_range (k_var (i := 0) (by kernel_rfl) (vis_of (by kernel_rfl)) (by kernel_rfl) (by kernel_rfl)) (by kernel_rfl)) (pg_name (i := 2) sc__law_ways.nd (by kernel_rfl) (loc_of (by kernel_rfl)) (.inl rfl)) (z_one (z_set (i := 1) sc__law_ways.nd (by kernel_rfl) (loc_of (by kernel_rfl)) (k_op (o := .add) hRK (o_e (k_op (o := .add) hRK (o_e (k_lst (k_cons (k_int) (k_nil) (by kernel_rfl)))) (o_e (k_lc (own := [("one", 3), ("other", 4)]) (tg := .t [3, 4]) (look := []) hRK rfl sc__law_ways.nd (ki_zip hRK (gl_of (by kernel_rfl)) n_zip (k_var (i := 1) (by kernel_rfl) (vis_of (by kernel_rfl)) (by kernel_rfl) (by kernel_rfl)) (k_slc hRK (o_e (k_var (i := 1) (by kernel_rfl) (vis_of (by kernel_rfl)) (by kernel_rfl) (by kernel_rfl))) (kc_som (k_int)) (kc_non)) (by kernel_rfl) (by kernel_rfl)) (blkOk_by (by kernel_rfl)) (by decide) (by decide) (fun _ _ _ _ _ => pg_tup (n := 2) rfl (pgs_cons (pg_name (i := 3) sc__law_ways.nd (by kernel_rfl) (loc_of (by kernel_rfl)) (.inr (by kernel_rfl))) (pgs_cons (pg_name (i := 4) sc__law_ways.nd (by kernel_rfl) (loc_of (by kernel_rfl)) (.inr (by kernel_rfl))) (pgs_nil) (by kernel_rfl)) (by kernel_rfl)) (by kernel_rfl) (by kernel_rfl)) (fun _ _ _ _ _ _ => kq_yes) (fun _ _ _ _ _ _ => k_op (o := .mod) hRK (o_e (k_bltT (T := .int) hRK rfl rfl rfl (gl_of (by kernel_rfl)) n_int (by kernel_rfl) (ko_cons (o_e (k_op (o := .add) hRK (o_e (k_var (i := 3) (by kernel_rfl) (vis_of (by kernel_rfl)) (by kernel_rfl) (by kernel_rfl))) (o_e (k_var (i := 4) (by kernel_rfl) (vis_of (by kernel_rfl)) (by kernel_rfl) (by kernel_rfl))))) (ko_nil) (by kernel_rfl)) (by decide) (by kernel_rfl) (by kernel_rfl) (by kernel_rfl))) (o_e (k_int))) (fun _ => (by kernel_rfl)))))) (o_e (k_lst (k_cons (k_int) (k_nil) (by kernel_rfl))))) (by kernel_rfl) (.inl rfl))) (fun _ => (by kernel_rfl))) (z_one (z_ret (k_var (i := 1) (by kernel_rfl) (vis_of (by kernel_rfl)) (by kernel_rfl) (by kernel_rfl)))))
theorem t__law_rising (hRK : R.K = K) (hRP : R.pr = Pr) (hRW : R.w = w) {f__law_rising : Addr} {kV__law_rising doc__law_rising pm__law_rising ct__law_rising oc__law_rising : Value} {cv__law_rising : Value} {an__law_rising od__law_rising : Option Addr} {osl__law_rising : Array (Option Value)} (lk__law_rising : K.lookup f__law_rising = some ⟨oc__law_rising, od__law_rising, .func (PySem.W.fnOf "_law_rising" "_law_rising" (defArgs s__law_rising) (defBody s__law_rising) (defScope s__law_rising) .none kV__law_rising doc__law_rising pm__law_rising an__law_rising cv__law_rising ct__law_rising), osl__law_rising⟩) (cd__law_rising : PySem.W.codeIn K cv__law_rising "_law_rising" = true) (m__law_rising : mg "_law_rising" = some (.ref f__law_rising)) (kp__law_rising : PySem.W.keepIn K (.ref f__law_rising) = true)  (n_range : mg "range" = none) (n_min : mg "min" = none) (n_sorted : mg "sorted" = none) : Fx Pr w K mg base R T pg nm "_law_rising" b__law_rising :=
  fx_mk2 lk__law_rising cd__law_rising m__law_rising kp__law_rising sc__law_rising rfl rfl (fun us hl => match us, hl with | [_, _], _ => by kernel_rfl) fun n L L2 A outer s H E N0 hr =>
    z_seq (z_pars2 (i := 2) (j := 3) rfl sc__law_rising.nd (by kernel_rfl) (by kernel_rfl) (by decide) (by kernel_rfl) (by kernel_rfl) (m_val (fun _ => k_lst (k_cons (k_tup (k_cons (k_tup (k_nil)) (k_cons (k_var (i := 1) (by kernel_rfl) (vis_of (by kernel_rfl)) (by kernel_rfl) (by kernel_rfl)) (k_cons (k_var (i := 0) (by kernel_rfl) (vis_of (by kernel_rfl)) (by kernel_rfl) (by kernel_rfl)) (k_nil) (by kernel_rfl)) (by kernel_rfl)) (by kernel_rfl))) (k_nil) (by kernel_rfl))) (m_own (fun _ => n_lst (k_nil)) (m_nil) (by kernel_rfl) (by decide)) (by kernel_rfl) (by decide)) (by kernel_rfl) (by kernel_rfl)) (z_seq (z_for (tg := .n 4) hRK own_fn rfl (ki_rng1 (gl_of (by kernel_rfl)) n_range (k_int) (by kernel_rfl)) (pg_name (i := 4) sc__law_rising.nd (by kernel_rfl) (loc_of (by kernel_rfl)) (.inl rfl)) (z_seq (z_set (i := 5) sc__law_rising.nd (by kernel_rfl) (loc_of (by kernel_rfl)) (k_lst (k_nil)) (by kernel_rfl) (.inl rfl)) (z_seq (z_for (tg := .t [6, 7, 8]) hRK own_fn rfl (ki_e hRK (k_var (i := 2) (by kernel_rfl) (vis_of (by kernel_rfl)) (by kernel_rfl) (by kernel_rfl))) (pg_tup (n := 3) rfl (pgs_cons (pg_name (i := 6) sc__law_rising.nd (by kernel_rfl) (loc_of (by kernel_rfl)) (.inl rfl)) (pgs_cons (pg_name (i := 7) sc__law_rising.nd (by kernel_rfl) (loc_of (by kernel_rfl)) (.inl rfl)) (pgs_cons (pg_name (i := 8) sc__law_rising.nd (by kernel_rfl) (loc_of (by kernel_rfl)) (.inl rfl)) (pgs_nil) (by kernel_rfl)) (by kernel_rfl)) (by kernel_rfl)) (by kernel_rfl) (by kernel_rfl)) (z_one (z_if (kt_cmp (o := .eq) hRK (u65 hr) (by kernel_rfl) (o_e (k_var (i := 8) (by kernel_rfl) (vis_of (by kernel_rfl)) (by kernel_rfl) (by kernel_rfl))) (o_e (k_int))) (z_one (z_app (i := 3) (by kernel_rfl) (vis_of (by kernel_rfl)) (by kernel_rfl) (by kernel_rfl) (k_var (i := 6) (by kernel_rfl) (vis_of (by kernel_rfl)) (by kernel_rfl) (by kernel_rfl)) (by kernel_rfl) (by kernel_rfl) (by kernel_rfl) (by kernel_rfl) (by kernel_rfl))) (z_one (z_set (i := 5) sc__law_rising.nd (by kernel_rfl) (loc_of (by kernel_rfl)) (k_op (o := .add) hRK (o_e (k_var (i := 5) (by kernel_rfl) (vis_of (by kernel_rfl)) (by kernel_rfl) (by kernel_rfl))) (o_e (k_lc (own := [("own", 9)]) (tg := .n 9) (look := []) hRK rfl sc__law_rising.nd (ki_rng2 (gl_of (by kernel_rfl)) n_range (k_int) (k_op (o := .add) hRK (o_e (k_blt (T := .min) hRK rfl rfl rfl (gl_of (by kernel_rfl)) n_min (by kernel_rfl) (ko_cons (o_e (k_var (i := 7) (by kernel_rfl) (vis_of (by kernel_rfl)) (by kernel_rfl) (by kernel_rfl))) (ko_cons (o_e (k_var (i := 8) (by kernel_rfl) (vis_of (by kernel_rfl)) (by kernel_rfl) (by kernel_rfl))) (ko_nil) (by kernel_rfl)) (by kernel_rfl)) (by decide) (by kernel_rfl) (by kernel_rfl) (by kernel_rfl))) (o_e (k_int))) (by kernel_rfl) (by kernel_rfl)) (blkOk_by (by kernel_rfl)) (by decide) (by decide) (fun _ _ _ _ _ => pg_name (i := 9) sc__law_rising.nd (by kernel_rfl) (loc_of (by kernel_rfl)) (.inr (by kernel_rfl))) (fun _ _ _ _ _ _ => kq_yes) (fun _ _ _ _ _ _ => k_tup (k_cons (k_op (o := .add) hRK (o_e (k_var (i := 6) (by kernel_rfl) (vis_of (by kernel_rfl)) (by kernel_rfl) (by kernel_rfl))) (o_e (k_tup (k_cons (k_var (i := 9) (by kernel_rfl) (vis_of (by kernel_rfl)) (by kernel_rfl) (by kernel_rfl)) (k_nil) (by kernel_rfl))))) (k_cons (k_op (o := .fdiv) hRK (o_e (k_var (i := 9) (by kernel_rfl) (vis_of (by kernel_rfl)) (by kernel_rfl) (by kernel_rfl))) (o_e (k_int))) (k_cons (k_op (o := .sub) hRK (o_e (k_var (i := 8) (by kernel_rfl) (vis_of (by kernel_rfl)) (by kernel_rfl) (by kernel_rfl))) (o_e (k_var (i := 9) (by kernel_rfl) (vis_of (by kernel_rfl)) (by kernel_rfl) (by kernel_rfl)))) (k_nil) (by kernel_rfl)) (by kernel_rfl)) (by kernel_rfl))) (fun _ => (by kernel_rfl))))) (by kernel_rfl) (.inl rfl))))) (fun _ => (by kernel_rfl))) (z_one (z_set (i := 2) sc__law_rising.nd (by kernel_rfl) (loc_of (by kernel_rfl)) (k_var (i := 5) (by kernel_rfl) (vis_of (by kernel_rfl)) (by kernel_rfl) (by kernel_rfl)) (by kernel_rfl) (.inl rfl))))) (fun _ => (by kernel_rfl))) (z_one (z_ret (k_xcall (T := .sorted) (call_sorted hRK (u65 hr)) (gl_of (by kernel_rfl)) n_sorted (by kernel_rfl) (ko_cons (o_look (i := 3) (by kernel_rfl) (vis_of (by kernel_rfl)) (by kernel_rfl) (by kernel_rfl)) (ko_nil) (by kernel_rfl)) (by decide) (by kernel_rfl) (by kernel_rfl) (by kernel_rfl)))))
theorem t__law_led (hRK : R.K = K) (hRP : R.pr = Pr) (hRW : R.w = w) {f__law_led : Addr} {kV__law_led doc__law_led pm__law_led ct__law_led oc__law_led : Value} {cv__law_led : Value} {an__law_led od__law_led : Option Addr} {osl__law_led : Array (Option Value)} (lk__law_led : K.lookup f__law_led = some ⟨oc__law_led, od__law_led, .func (PySem.W.fnOf "_law_led" "_law_led" (defArgs s__law_led) (defBody s__law_led) (defScope s__law_led) .none kV__law_led doc__law_led pm__law_led an__law_led cv__law_led ct__law_led), osl__law_led⟩) (cd__law_led : PySem.W.codeIn K cv__law_led "_law_led" = true) (m__law_led : mg "_law_led" = some (.ref f__law_led)) (kp__law_led : PySem.W.keepIn K (.ref f__law_led) = true)   : Fx Pr w K mg base R T pg nm "_law_led" b__law_led :=
  fx_mk2 lk__law_led cd__law_led m__law_led kp__law_led sc__law_led rfl rfl (fun us hl => match us, hl with | [_, _], _ => by kernel_rfl) fun n L L2 A outer s H E N0 hr =>
    z_seq (z_set (i := 2) sc__law_led.nd (by kernel_rfl) (loc_of (by kernel_rfl)) (k_var (i := 1) (by kernel_rfl) (vis_of (by kernel_rfl)) (by kernel_rfl) (by kernel_rfl)) (by kernel_rfl) (.inl rfl)) (z_seq (z_for (tg := .n 3) hRK own_fn rfl (ki_e hRK (k_rev hRK (o_e (k_var (i := 0) (by kernel_rfl) (vis_of (by kernel_rfl)) (by kernel_rfl) (by kernel_rfl))))) (pg_name (i := 3) sc__law_led.nd (by kernel_rfl) (loc_of (by kernel_rfl)) (.inl rfl)) (z_one (z_if (kt_cmp (o := .isnot) hRK (u65 hr) (by kernel_rfl) (o_e (k_var (i := 2) (by kernel_rfl) (vis_of (by kernel_rfl)) (by kernel_rfl) (by kernel_rfl))) (o_e (k_non))) (z_seq (z_set (i := 4) sc__law_led.nd (by kernel_rfl) (loc_of (by kernel_rfl)) (k_call (p := pg) (i := 1000) (L 1000 "_law_ways" (by kernel_rfl)) (dnD_F pg n) hr (pass_fn takes_fn) (gl_of (by kernel_rfl)) (k_cons (k_var (i := 2) (by kernel_rfl) (vis_of (by kernel_rfl)) (by kernel_rfl) (by kernel_rfl)) (k_nil) (by kernel_rfl)) (by kernel_rfl) (by kernel_rfl) (by kernel_rfl)) (by kernel_rfl) (.inl rfl)) (z_one (z_set (i := 2) sc__law_led.nd (by kernel_rfl) (loc_of (by kernel_rfl)) (k_ife (kt_w (kw_and (kt_cmp (o := .le) hRK (u65 hr) (by kernel_rfl) (o_e (k_var (i := 3) (by kernel_rfl) (vis_of (by kernel_rfl)) (by kernel_rfl) (by kernel_rfl))) (o_e (k_var (i := 2) (by kernel_rfl) (vis_of (by kernel_rfl)) (by kernel_rfl) (by kernel_rfl)))) (kw_and1 (kt_cmp (o := .eq) hRK (u65 hr) (by kernel_rfl) (o_e (k_ix hRK (o_e (k_var (i := 4) (by kernel_rfl) (vis_of (by kernel_rfl)) (by kernel_rfl) (by kernel_rfl))) (k_var (i := 3) (by kernel_rfl) (vis_of (by kernel_rfl)) (by kernel_rfl) (by kernel_rfl)) (fun _ _ => (by kernel_rfl)))) (o_e (k_int)))))) (k_op (o := .add) hRK (o_e (k_var (i := 2) (by kernel_rfl) (vis_of (by kernel_rfl)) (by kernel_rfl) (by kernel_rfl))) (o_e (k_var (i := 3) (by kernel_rfl) (vis_of (by kernel_rfl)) (by kernel_rfl) (by kernel_rfl)))) (k_non)) (by kernel_rfl) (.inl rfl)))) (z_nil))) (fun _ => (by kernel_rfl))) (z_one (z_ret (k_var (i := 2) (by kernel_rfl) (vis_of (by kernel_rfl)) (by kernel_rfl) (by kernel_rfl)))))
theorem t__law_squares_right (hRK : R.K = K) (hRP : R.pr = Pr) (hRW : R.w = w) {f__law_squares_right : Addr} {kV__law_squares_right doc__law_squares_right pm__law_squares_right ct__law_squares_right oc__law_squares_right : Value} {cv__law_squares_right : Value} {an__law_squares_right od__law_squares_right : Option Addr} {osl__law_squares_right : Array (Option Value)} (lk__law_squares_right : K.lookup f__law_squares_right = some ⟨oc__law_squares_right, od__law_squares_right, .func (PySem.W.fnOf "_law_squares_right" "_law_squares_right" (defArgs s__law_squares_right) (defBody s__law_squares_right) (defScope s__law_squares_right) .none kV__law_squares_right doc__law_squares_right pm__law_squares_right an__law_squares_right cv__law_squares_right ct__law_squares_right), osl__law_squares_right⟩) (cd__law_squares_right : PySem.W.codeIn K cv__law_squares_right "_law_squares_right" = true) (m__law_squares_right : mg "_law_squares_right" = some (.ref f__law_squares_right)) (kp__law_squares_right : PySem.W.keepIn K (.ref f__law_squares_right) = true)  (n_range : mg "range" = none) : Fx Pr w K mg base R T pg nm "_law_squares_right" b__law_squares_right :=
  fx_mk2 lk__law_squares_right cd__law_squares_right m__law_squares_right kp__law_squares_right sc__law_squares_right rfl rfl (fun us hl => match us, hl with | [_], _ => by kernel_rfl) fun n L L2 A outer s H E N0 hr =>
    z_seq (z_for (tg := .n 1) hRK own_fn rfl (ki_rng1 (gl_of (by kernel_rfl)) n_range (k_op (o := .add) hRK (o_e (k_var (i := 0) (by kernel_rfl) (vis_of (by kernel_rfl)) (by kernel_rfl) (by kernel_rfl))) (o_e (k_int))) (by kernel_rfl)) (pg_name (i := 1) sc__law_squares_right.nd (by kernel_rfl) (loc_of (by kernel_rfl)) (.inl rfl)) (z_seq (z_set (i := 2) sc__law_squares_right.nd (by kernel_rfl) (loc_of (by kernel_rfl)) (k_call (p := pg) (i := 1000) (L 1000 "_law_ways" (by kernel_rfl)) (dnD_F pg n) hr (pass_fn takes_fn) (gl_of (by kernel_rfl)) (k_cons (k_var (i := 1) (by kernel_rfl) (vis_of (by kernel_rfl)) (by kernel_rfl) (by kernel_rfl)) (k_nil) (by kernel_rfl)) (by kernel_rfl) (by kernel_rfl) (by kernel_rfl)) (by kernel_rfl) (.inl rfl)) (z_one (z_for (tg := .n 3) hRK own_fn rfl (ki_rng1 (gl_of (by kernel_rfl)) n_range (k_op (o := .add) hRK (o_e (k_var (i := 1) (by kernel_rfl) (vis_of (by kernel_rfl)) (by kernel_rfl) (by kernel_rfl))) (o_e (k_int))) (by kernel_rfl)) (pg_name (i := 3) sc__law_squares_right.nd (by kernel_rfl) (loc_of (by kernel_rfl)) (.inl rfl)) (z_seq (z_set (i := 4) sc__law_squares_right.nd (by kernel_rfl) (loc_of (by kernel_rfl)) (k_ife (kt_w (kw_and (kt_cmp (o := .le) hRK (u65 hr) (by kernel_rfl) (o_e (k_var (i := 3) (by kernel_rfl) (vis_of (by kernel_rfl)) (by kernel_rfl) (by kernel_rfl))) (o_e (k_var (i := 1) (by kernel_rfl) (vis_of (by kernel_rfl)) (by kernel_rfl) (by kernel_rfl)))) (kw_and1 (kt_cmp (o := .eq) hRK (u65 hr) (by kernel_rfl) (o_e (k_ix hRK (o_e (k_var (i := 2) (by kernel_rfl) (vis_of (by kernel_rfl)) (by kernel_rfl) (by kernel_rfl))) (k_var (i := 3) (by kernel_rfl) (vis_of (by kernel_rfl)) (by kernel_rfl) (by kernel_rfl)) (fun _ _ => (by kernel_rfl)))) (o_e (k_int)))))) (k_op (o := .add) hRK (o_e (k_var (i := 1) (by kernel_rfl) (vis_of (by kernel_rfl)) (by kernel_rfl) (by kernel_rfl))) (o_e (k_var (i := 3) (by kernel_rfl) (vis_of (by kernel_rfl)) (by kernel_rfl) (by kernel_rfl)))) (k_non)) (by kernel_rfl) (.inl rfl)) (z_seq (z_set (i := 5) sc__law_squares_right.nd (by kernel_rfl) (loc_of (by kernel_rfl)) (k_lst (k_cons (k_call (p := pg) (i := 159) (L 159 "letter_square" (by kernel_rfl)) (dnD_F pg n) hr (pass_fn takes_fn) (gl_of (by kernel_rfl)) (k_cons (k_var (i := 3) (by kernel_rfl) (vis_of (by kernel_rfl)) (by kernel_rfl) (by kernel_rfl)) (k_cons (k_var (i := 1) (by kernel_rfl) (vis_of (by kernel_rfl)) (by kernel_rfl) (by kernel_rfl)) (k_nil) (by kernel_rfl)) (by kernel_rfl)) (by kernel_rfl) (by kernel_rfl) (by kernel_rfl)) (k_cons (k_call (p := pg) (i := 422) (L 422 "square_of" (by kernel_rfl)) (dnD_F pg n) hr (pass_fn takes_fn) (gl_of (by kernel_rfl)) (k_cons (k_var (i := 3) (by kernel_rfl) (vis_of (by kernel_rfl)) (by kernel_rfl) (by kernel_rfl)) (k_cons (k_tup (k_cons (k_int) (k_cons (k_tup (k_cons (k_tup (k_cons (k_var (i := 1) (by kernel_rfl) (vis_of (by kernel_rfl)) (by kernel_rfl) (by kernel_rfl)) (k_nil) (by kernel_rfl))) (k_nil) (by kernel_rfl))) (k_nil) (by kernel_rfl)) (by kernel_rfl))) (k_nil) (by kernel_rfl)) (by kernel_rfl)) (by kernel_rfl) (by kernel_rfl) (by kernel_rfl)) (k_cons (k_call (p := pg) (i := 611) (L 611 "is_odd_choice" (by kernel_rfl)) (dnD_F pg n) hr (pass_fn takes_fn) (gl_of (by kernel_rfl)) (k_cons (k_var (i := 1) (by kernel_rfl) (vis_of (by kernel_rfl)) (by kernel_rfl) (by kernel_rfl)) (k_cons (k_var (i := 3) (by kernel_rfl) (vis_of (by kernel_rfl)) (by kernel_rfl) (by kernel_rfl)) (k_nil) (by kernel_rfl)) (by kernel_rfl)) (by kernel_rfl) (by kernel_rfl) (by kernel_rfl)) (k_nil) (by kernel_rfl)) (by kernel_rfl)) (by kernel_rfl))) (by kernel_rfl) (.inl rfl)) (z_one (z_if (kt_not (kt_val hRK (o_e (k_call (p := pg) (i := 904) (L 904 "_law_like" (by kernel_rfl)) (dnD_F pg n) hr (pass_fn takes_fn) (gl_of (by kernel_rfl)) (k_cons (k_var (i := 5) (by kernel_rfl) (vis_of (by kernel_rfl)) (by kernel_rfl) (by kernel_rfl)) (k_cons (k_lst (k_cons (k_var (i := 4) (by kernel_rfl) (vis_of (by kernel_rfl)) (by kernel_rfl) (by kernel_rfl)) (k_cons (k_tup (k_cons (k_int) (k_cons (k_ife (kt_cmp (o := .isnot) hRK (u65 hr) (by kernel_rfl) (o_e (k_var (i := 4) (by kernel_rfl) (vis_of (by kernel_rfl)) (by kernel_rfl) (by kernel_rfl))) (o_e (k_non))) (k_tup (k_cons (k_tup (k_cons (k_var (i := 4) (by kernel_rfl) (vis_of (by kernel_rfl)) (by kernel_rfl) (by kernel_rfl)) (k_nil) (by kernel_rfl))) (k_nil) (by kernel_rfl))) (k_tup (k_nil))) (k_nil) (by kernel_rfl)) (by kernel_rfl))) (k_cons (k_cmp (o := .isnot) hRK (u65 hr) (by kernel_rfl) (o_e (k_var (i := 4) (by kernel_rfl) (vis_of (by kernel_rfl)) (by kernel_rfl) (by kernel_rfl))) (o_e (k_non))) (k_nil) (by kernel_rfl)) (by kernel_rfl)) (by kernel_rfl))) (k_nil) (by kernel_rfl)) (by kernel_rfl)) (by kernel_rfl) (by kernel_rfl) (by kernel_rfl))) (fun _ => (by kernel_rfl)))) (z_one (z_ret (k_bl))) (z_nil))))) (fun _ => (by kernel_rfl))))) (fun _ => (by kernel_rfl))) (z_one (z_ret (k_bl)))
theorem t__law_word_right (hRK : R.K = K) (hRP : R.pr = Pr) (hRW : R.w = w) {f__law_word_right : Addr} {kV__law_word_right doc__law_word_right pm__law_word_right ct__law_word_right oc__law_word_right : Value} {cv__law_word_right : Value} {an__law_word_right od__law_word_right : Option Addr} {osl__law_word_right : Array (Option Value)} (lk__law_word_right : K.lookup f__law_word_right = some ⟨oc__law_word_right, od__law_word_right, .func (PySem.W.fnOf "_law_word_right" "_law_word_right" (defArgs s__law_word_right) (defBody s__law_word_right) (defScope s__law_word_right) .none kV__law_word_right doc__law_word_right pm__law_word_right an__law_word_right cv__law_word_right ct__law_word_right), osl__law_word_right⟩) (cd__law_word_right : PySem.W.codeIn K cv__law_word_right "_law_word_right" = true) (m__law_word_right : mg "_law_word_right" = some (.ref f__law_word_right)) (kp__law_word_right : PySem.W.keepIn K (.ref f__law_word_right) = true)   : Fx Pr w K mg base R T pg nm "_law_word_right" b__law_word_right :=
  fx_mk2 lk__law_word_right cd__law_word_right m__law_word_right kp__law_word_right sc__law_word_right rfl rfl (fun us hl => match us, hl with | [_, _], _ => by kernel_rfl) fun n L L2 A outer s H E N0 hr =>
    z_seq (z_set (i := 2) sc__law_word_right.nd (by kernel_rfl) (loc_of (by kernel_rfl)) (k_call (p := pg) (i := 1003) (L 1003 "_law_led" (by kernel_rfl)) (dnD_F pg n) hr (pass_fn takes_fn) (gl_of (by kernel_rfl)) (k_cons (k_var (i := 0) (by kernel_rfl) (vis_of (by kernel_rfl)) (by kernel_rfl) (by kernel_rfl)) (k_cons (k_var (i := 1) (by kernel_rfl) (vis_of (by kernel_rfl)) (by kernel_rfl) (by kernel_rfl)) (k_nil) (by kernel_rfl)) (by kernel_rfl)) (by kernel_rfl) (by kernel_rfl) (by kernel_rfl)) (by kernel_rfl) (.inl rfl)) (z_seq (z_set (i := 3) sc__law_word_right.nd (by kernel_rfl) (loc_of (by kernel_rfl)) (k_lst (k_cons (k_call (p := pg) (i := 160) (L 160 "letter_word" (by kernel_rfl)) (dnD_F pg n) hr (pass_fn takes_fn) (gl_of (by kernel_rfl)) (k_cons (k_var (i := 0) (by kernel_rfl) (vis_of (by kernel_rfl)) (by kernel_rfl) (by kernel_rfl)) (k_cons (k_var (i := 1) (by kernel_rfl) (vis_of (by kernel_rfl)) (by kernel_rfl) (by kernel_rfl)) (k_nil) (by kernel_rfl)) (by kernel_rfl)) (by kernel_rfl) (by kernel_rfl) (by kernel_rfl)) (k_cons (k_call (p := pg) (i := 704) (L 704 "act_word" (by kernel_rfl)) (dnD_F pg n) hr (pass_fn takes_fn) (gl_of (by kernel_rfl)) (k_cons (k_var (i := 0) (by kernel_rfl) (vis_of (by kernel_rfl)) (by kernel_rfl) (by kernel_rfl)) (k_cons (k_tup (k_cons (k_int) (k_cons (k_tup (k_cons (k_tup (k_cons (k_var (i := 1) (by kernel_rfl) (vis_of (by kernel_rfl)) (by kernel_rfl) (by kernel_rfl)) (k_nil) (by kernel_rfl))) (k_nil) (by kernel_rfl))) (k_nil) (by kernel_rfl)) (by kernel_rfl))) (k_nil) (by kernel_rfl)) (by kernel_rfl)) (by kernel_rfl) (by kernel_rfl) (by kernel_rfl)) (k_nil) (by kernel_rfl)) (by kernel_rfl))) (by kernel_rfl) (.inl rfl)) (z_one (z_ret (k_call (p := pg) (i := 904) (L 904 "_law_like" (by kernel_rfl)) (dnD_F pg n) hr (pass_fn takes_fn) (gl_of (by kernel_rfl)) (k_cons (k_var (i := 3) (by kernel_rfl) (vis_of (by kernel_rfl)) (by kernel_rfl) (by kernel_rfl)) (k_cons (k_lst (k_cons (k_var (i := 2) (by kernel_rfl) (vis_of (by kernel_rfl)) (by kernel_rfl) (by kernel_rfl)) (k_cons (k_tup (k_cons (k_int) (k_cons (k_ife (kt_cmp (o := .isnot) hRK (u65 hr) (by kernel_rfl) (o_e (k_var (i := 2) (by kernel_rfl) (vis_of (by kernel_rfl)) (by kernel_rfl) (by kernel_rfl))) (o_e (k_non))) (k_tup (k_cons (k_tup (k_cons (k_var (i := 2) (by kernel_rfl) (vis_of (by kernel_rfl)) (by kernel_rfl) (by kernel_rfl)) (k_nil) (by kernel_rfl))) (k_nil) (by kernel_rfl))) (k_tup (k_nil))) (k_nil) (by kernel_rfl)) (by kernel_rfl))) (k_nil) (by kernel_rfl)) (by kernel_rfl))) (k_nil) (by kernel_rfl)) (by kernel_rfl)) (by kernel_rfl) (by kernel_rfl) (by kernel_rfl)))))
theorem t__law_words_right (hRK : R.K = K) (hRP : R.pr = Pr) (hRW : R.w = w) {f__law_words_right : Addr} {kV__law_words_right doc__law_words_right pm__law_words_right ct__law_words_right oc__law_words_right : Value} {cv__law_words_right : Value} {an__law_words_right od__law_words_right : Option Addr} {osl__law_words_right : Array (Option Value)} (lk__law_words_right : K.lookup f__law_words_right = some ⟨oc__law_words_right, od__law_words_right, .func (PySem.W.fnOf "_law_words_right" "_law_words_right" (defArgs s__law_words_right) (defBody s__law_words_right) (defScope s__law_words_right) .none kV__law_words_right doc__law_words_right pm__law_words_right an__law_words_right cv__law_words_right ct__law_words_right), osl__law_words_right⟩) (cd__law_words_right : PySem.W.codeIn K cv__law_words_right "_law_words_right" = true) (m__law_words_right : mg "_law_words_right" = some (.ref f__law_words_right)) (kp__law_words_right : PySem.W.keepIn K (.ref f__law_words_right) = true)  (n_tuple : mg "tuple" = none) : Fx Pr w K mg base R T pg nm "_law_words_right" b__law_words_right :=
  fx_mk2 lk__law_words_right cd__law_words_right m__law_words_right kp__law_words_right sc__law_words_right rfl rfl (fun us hl => match us, hl with | [_, _], _ => by kernel_rfl) fun n L L2 A outer s H E N0 hr =>
    z_seq (z_set (i := 2) sc__law_words_right.nd (by kernel_rfl) (loc_of (by kernel_rfl)) (k_bltT (T := .tuple) hRK rfl rfl rfl (gl_of (by kernel_rfl)) n_tuple (by kernel_rfl) (ko_cons (o_e (k_lc (own := [("word", 3)]) (tg := .n 3) (look := []) hRK rfl sc__law_words_right.nd (ki_e hRK (k_call (p := pg) (i := 1001) (L 1001 "_law_rising" (by kernel_rfl)) (dnD_F pg n) hr (pass_fn takes_fn) (gl_of (by kernel_rfl)) (k_cons (k_var (i := 0) (by kernel_rfl) (vis_of (by kernel_rfl)) (by kernel_rfl) (by kernel_rfl)) (k_cons (k_var (i := 0) (by kernel_rfl) (vis_of (by kernel_rfl)) (by kernel_rfl) (by kernel_rfl)) (k_nil) (by kernel_rfl)) (by kernel_rfl)) (by kernel_rfl) (by kernel_rfl) (by kernel_rfl))) (blkOk_by (by kernel_rfl)) (by decide) (by decide) (fun _ _ _ _ _ => pg_name (i := 3) sc__law_words_right.nd (by kernel_rfl) (loc_of (by kernel_rfl)) (.inr (by kernel_rfl))) (fun _ _ _ _ _ _ => kq_one (kt_cmp (o := .isnot) hRK (u65 hr) (by kernel_rfl) (o_e (k_call (p := pg) (i := 1003) (L 1003 "_law_led" (by kernel_rfl)) (dnD_F pg n) hr (pass_no fun _ _ _ h => h) (gl_of (by kernel_rfl)) (k_cons (k_var (i := 3) (by kernel_rfl) (vis_of (by kernel_rfl)) (by kernel_rfl) (by kernel_rfl)) (k_cons (k_var (i := 1) (by kernel_rfl) (vis_of (by kernel_rfl)) (by kernel_rfl) (by kernel_rfl)) (k_nil) (by kernel_rfl)) (by kernel_rfl)) (by kernel_rfl) (by kernel_rfl) (by kernel_rfl))) (o_e (k_non)))) (fun _ _ _ _ _ _ => k_var (i := 3) (by kernel_rfl) (vis_of (by kernel_rfl)) (by kernel_rfl) (by kernel_rfl)) (fun _ => (by kernel_rfl)))) (ko_nil) (by kernel_rfl)) (by decide) (by kernel_rfl) (by kernel_rfl) (by kernel_rfl)) (by kernel_rfl) (.inl rfl)) (z_one (z_ret (k_call (p := pg) (i := 904) (L 904 "_law_like" (by kernel_rfl)) (dnD_F pg n) hr (pass_fn takes_fn) (gl_of (by kernel_rfl)) (k_cons (k_call (p := pg) (i := 161) (L 161 "letter_words" (by kernel_rfl)) (dnD_F pg n) hr (pass_fn takes_fn) (gl_of (by kernel_rfl)) (k_cons (k_var (i := 0) (by kernel_rfl) (vis_of (by kernel_rfl)) (by kernel_rfl) (by kernel_rfl)) (k_cons (k_var (i := 1) (by kernel_rfl) (vis_of (by kernel_rfl)) (by kernel_rfl) (by kernel_rfl)) (k_nil) (by kernel_rfl)) (by kernel_rfl)) (by kernel_rfl) (by kernel_rfl) (by kernel_rfl)) (k_cons (k_var (i := 2) (by kernel_rfl) (vis_of (by kernel_rfl)) (by kernel_rfl) (by kernel_rfl)) (k_nil) (by kernel_rfl)) (by kernel_rfl)) (by kernel_rfl) (by kernel_rfl) (by kernel_rfl))))
theorem t__law_reach_right (hRK : R.K = K) (hRP : R.pr = Pr) (hRW : R.w = w) {f__law_reach_right : Addr} {kV__law_reach_right doc__law_reach_right pm__law_reach_right ct__law_reach_right oc__law_reach_right : Value} {cv__law_reach_right : Value} {an__law_reach_right od__law_reach_right : Option Addr} {osl__law_reach_right : Array (Option Value)} (lk__law_reach_right : K.lookup f__law_reach_right = some ⟨oc__law_reach_right, od__law_reach_right, .func (PySem.W.fnOf "_law_reach_right" "_law_reach_right" (defArgs s__law_reach_right) (defBody s__law_reach_right) (defScope s__law_reach_right) .none kV__law_reach_right doc__law_reach_right pm__law_reach_right an__law_reach_right cv__law_reach_right ct__law_reach_right), osl__law_reach_right⟩) (cd__law_reach_right : PySem.W.codeIn K cv__law_reach_right "_law_reach_right" = true) (m__law_reach_right : mg "_law_reach_right" = some (.ref f__law_reach_right)) (kp__law_reach_right : PySem.W.keepIn K (.ref f__law_reach_right) = true)  (n_range : mg "range" = none) (n_list : mg "list" = none) (n_sorted : mg "sorted" = none) (n_set : mg "set" = none) (n_tuple : mg "tuple" = none) : Fx Pr w K mg base R T pg nm "_law_reach_right" b__law_reach_right :=
  fx_mk2 lk__law_reach_right cd__law_reach_right m__law_reach_right kp__law_reach_right sc__law_reach_right rfl rfl (fun us hl => match us, hl with | [_, _], _ => by kernel_rfl) fun n L L2 A outer s H E N0 hr =>
    z_seq (z_set (i := 2) sc__law_reach_right.nd (by kernel_rfl) (loc_of (by kernel_rfl)) (k_lst (k_cons (k_var (i := 0) (by kernel_rfl) (vis_of (by kernel_rfl)) (by kernel_rfl) (by kernel_rfl)) (k_nil) (by kernel_rfl))) (by kernel_rfl) (.inl rfl)) (z_seq (z_for (tg := .n 3) hRK own_fn rfl (ki_rng1 (gl_of (by kernel_rfl)) n_range (k_op (o := .add) hRK (o_e (k_var (i := 1) (by kernel_rfl) (vis_of (by kernel_rfl)) (by kernel_rfl) (by kernel_rfl))) (o_e (k_int))) (by kernel_rfl)) (pg_name (i := 3) sc__law_reach_right.nd (by kernel_rfl) (loc_of (by kernel_rfl)) (.inl rfl)) (z_seq (z_set (i := 4) sc__law_reach_right.nd (by kernel_rfl) (loc_of (by kernel_rfl)) (k_bltT (T := .list) hRK rfl rfl rfl (gl_of (by kernel_rfl)) n_list (by kernel_rfl) (ko_cons (o_e (k_var (i := 2) (by kernel_rfl) (vis_of (by kernel_rfl)) (by kernel_rfl) (by kernel_rfl))) (ko_nil) (by kernel_rfl)) (by decide) (by kernel_rfl) (by kernel_rfl) (by kernel_rfl)) (by kernel_rfl) (.inl rfl)) (z_seq (z_for (tg := .n 5) hRK own_fn rfl (ki_e hRK (k_var (i := 2) (by kernel_rfl) (vis_of (by kernel_rfl)) (by kernel_rfl) (by kernel_rfl))) (pg_name (i := 5) sc__law_reach_right.nd (by kernel_rfl) (loc_of (by kernel_rfl)) (.inl rfl)) (z_seq (z_set (i := 6) sc__law_reach_right.nd (by kernel_rfl) (loc_of (by kernel_rfl)) (k_call (p := pg) (i := 1000) (L 1000 "_law_ways" (by kernel_rfl)) (dnD_F pg n) hr (pass_fn takes_fn) (gl_of (by kernel_rfl)) (k_cons (k_var (i := 5) (by kernel_rfl) (vis_of (by kernel_rfl)) (by kernel_rfl) (by kernel_rfl)) (k_nil) (by kernel_rfl)) (by kernel_rfl) (by kernel_rfl) (by kernel_rfl)) (by kernel_rfl) (.inl rfl)) (z_one (z_set (i := 4) sc__law_reach_right.nd (by kernel_rfl) (loc_of (by kernel_rfl)) (k_op (o := .add) hRK (o_e (k_var (i := 4) (by kernel_rfl) (vis_of (by kernel_rfl)) (by kernel_rfl) (by kernel_rfl))) (o_e (k_lc (own := [("number", 7)]) (tg := .n 7) (look := []) hRK rfl sc__law_reach_right.nd (ki_rng2 (gl_of (by kernel_rfl)) n_range (k_int) (k_op (o := .add) hRK (o_e (k_var (i := 5) (by kernel_rfl) (vis_of (by kernel_rfl)) (by kernel_rfl) (by kernel_rfl))) (o_e (k_int))) (by kernel_rfl) (by kernel_rfl)) (blkOk_by (by kernel_rfl)) (by decide) (by decide) (fun _ _ _ _ _ => pg_name (i := 7) sc__law_reach_right.nd (by kernel_rfl) (loc_of (by kernel_rfl)) (.inr (by kernel_rfl))) (fun _ _ _ _ _ _ => kq_one (kt_w (kw_and (kt_cmp (o := .eq) hRK (u65 hr) (by kernel_rfl) (o_e (k_ix hRK (o_e (k_var (i := 6) (by kernel_rfl) (vis_of (by kernel_rfl)) (by kernel_rfl) (by kernel_rfl))) (k_var (i := 7) (by kernel_rfl) (vis_of (by kernel_rfl)) (by kernel_rfl) (by kernel_rfl)) (fun _ _ => (by kernel_rfl)))) (o_e (k_int))) (kw_and1 (kt_cmp (o := .le) hRK (u65 hr) (by kernel_rfl) (o_e (k_op (o := .add) hRK (o_e (k_var (i := 5) (by kernel_rfl) (vis_of (by kernel_rfl)) (by kernel_rfl) (by kernel_rfl))) (o_e (k_var (i := 7) (by kernel_rfl) (vis_of (by kernel_rfl)) (by kernel_rfl) (by kernel_rfl))))) (o_e (k_var (i := 1) (by kernel_rfl) (vis_of (by kernel_rfl)) (by kernel_rfl) (by kernel_rfl)))))))) (fun _ _ _ _ _ _ => k_op (o := .add) hRK (o_e (k_var (i := 5) (by kernel_rfl) (vis_of (by kernel_rfl)) (by kernel_rfl) (by kernel_rfl))) (o_e (k_var (i := 7) (by kernel_rfl) (vis_of (by kernel_rfl)) (by kernel_rfl) (by kernel_rfl)))) (fun _ => (by kernel_rfl))))) (by kernel_rfl) (.inl rfl)))) (fun _ => (by kernel_rfl))) (z_seq (z_set (i := 4) sc__law_reach_right.nd (by kernel_rfl) (loc_of (by kernel_rfl)) (k_sortset hRK (by kernel_rfl) (gl_of (by kernel_rfl)) n_sorted (gl_of (by kernel_rfl)) n_set (o_e (k_var (i := 4) (by kernel_rfl) (vis_of (by kernel_rfl)) (by kernel_rfl) (by kernel_rfl))) (by kernel_rfl) (by kernel_rfl) (by kernel_rfl) (by kernel_rfl)) (by kernel_rfl) (.inl rfl)) (z_seq (z_if (kt_cmp (o := .eq) hRK (u65 hr) (by kernel_rfl) (o_e (k_var (i := 4) (by kernel_rfl) (vis_of (by kernel_rfl)) (by kernel_rfl) (by kernel_rfl))) (o_e (k_var (i := 2) (by kernel_rfl) (vis_of (by kernel_rfl)) (by kernel_rfl) (by kernel_rfl)))) (z_one (z_brk)) (z_nil)) (z_one (z_set (i := 2) sc__law_reach_right.nd (by kernel_rfl) (loc_of (by kernel_rfl)) (k_var (i := 4) (by kernel_rfl) (vis_of (by kernel_rfl)) (by kernel_rfl) (by kernel_rfl)) (by kernel_rfl) (.inl rfl))))))) (fun _ => (by kernel_rfl))) (z_one (z_ret (k_call (p := pg) (i := 904) (L 904 "_law_like" (by kernel_rfl)) (dnD_F pg n) hr (pass_fn takes_fn) (gl_of (by kernel_rfl)) (k_cons (k_call (p := pg) (i := 162) (L 162 "letter_reach" (by kernel_rfl)) (dnD_F pg n) hr (pass_fn takes_fn) (gl_of (by kernel_rfl)) (k_cons (k_var (i := 0) (by kernel_rfl) (vis_of (by kernel_rfl)) (by kernel_rfl) (by kernel_rfl)) (k_cons (k_var (i := 1) (by kernel_rfl) (vis_of (by kernel_rfl)) (by kernel_rfl) (by kernel_rfl)) (k_nil) (by kernel_rfl)) (by kernel_rfl)) (by kernel_rfl) (by kernel_rfl) (by kernel_rfl)) (k_cons (k_bltT (T := .tuple) hRK rfl rfl rfl (gl_of (by kernel_rfl)) n_tuple (by kernel_rfl) (ko_cons (o_e (k_lc (own := [("own", 5)]) (tg := .n 5) (look := []) hRK rfl sc__law_reach_right.nd (ki_e hRK (k_var (i := 2) (by kernel_rfl) (vis_of (by kernel_rfl)) (by kernel_rfl) (by kernel_rfl))) (blkOk_by (by kernel_rfl)) (by decide) (by decide) (fun _ _ _ _ _ => pg_name (i := 5) sc__law_reach_right.nd (by kernel_rfl) (loc_of (by kernel_rfl)) (.inr (by kernel_rfl))) (fun _ _ _ _ _ _ => kq_one (kt_cmp (o := .le) hRK (u65 hr) (by kernel_rfl) (o_e (k_var (i := 5) (by kernel_rfl) (vis_of (by kernel_rfl)) (by kernel_rfl) (by kernel_rfl))) (o_e (k_var (i := 1) (by kernel_rfl) (vis_of (by kernel_rfl)) (by kernel_rfl) (by kernel_rfl))))) (fun _ _ _ _ _ _ => k_var (i := 5) (by kernel_rfl) (vis_of (by kernel_rfl)) (by kernel_rfl) (by kernel_rfl)) (fun _ => (by kernel_rfl)))) (ko_nil) (by kernel_rfl)) (by decide) (by kernel_rfl) (by kernel_rfl) (by kernel_rfl)) (k_nil) (by kernel_rfl)) (by kernel_rfl)) (by kernel_rfl) (by kernel_rfl) (by kernel_rfl)))))
theorem t__law_errors_right (hRK : R.K = K) (hRP : R.pr = Pr) (hRW : R.w = w) {f__law_errors_right : Addr} {kV__law_errors_right doc__law_errors_right pm__law_errors_right ct__law_errors_right oc__law_errors_right : Value} {x__law_errors_right : Addr} {an__law_errors_right od__law_errors_right : Option Addr} {osl__law_errors_right : Array (Option Value)} (lk__law_errors_right : K.lookup f__law_errors_right = some ⟨oc__law_errors_right, od__law_errors_right, .func (PySem.W.fnOf "_law_errors_right" "_law_errors_right" (defArgs s__law_errors_right) (defBody s__law_errors_right) (defScope s__law_errors_right) .none kV__law_errors_right doc__law_errors_right pm__law_errors_right an__law_errors_right (.ref x__law_errors_right) ct__law_errors_right), osl__law_errors_right⟩) (cd__law_errors_right : PySem.W.codeIn K (.ref x__law_errors_right) "_law_errors_right" = true) (m__law_errors_right : mg "_law_errors_right" = some (.ref f__law_errors_right)) (kp__law_errors_right : PySem.W.keepIn K (.ref f__law_errors_right) = true)   {p__law_errors_right : Addr} (tl : Tl Pr w K mg base R T pg "_law_error") (TB : LamX.TabB base mg x__law_errors_right p__law_errors_right) (hmT : (p__law_errors_right, ("_law_errors_right" : Str) ++ ".<locals>." ++ "<lambda>") ∈ T) (huT : ∀ p ∈ T, p.1 = p__law_errors_right → p.2 = ("_law_errors_right" : Str) ++ ".<locals>." ++ "<lambda>") : Fx Pr w K mg base R T pg nm "_law_errors_right" b__law_errors_right :=
  fx_mk2 lk__law_errors_right cd__law_errors_right m__law_errors_right kp__law_errors_right sc__law_errors_right rfl rfl (fun us hl => match us, hl with | [], _ => by kernel_rfl) fun n L L2 A outer s H E N0 hr =>
    z_seq (z_own (i := 0) sc__law_errors_right.nd (by kernel_rfl) (loc_of (by kernel_rfl)) (n_lst (k_nil)) (by kernel_rfl) (.inl rfl)) (z_seq (z_for (tg := .n 1) hRK own_fn rfl (ki_e hRK (k_tup (k_cons (k_non) (k_cons (k_neg (k_int)) (k_cons (k_int) (k_cons (k_bl) (k_cons (k_str) (k_cons (k_tup (k_cons (k_int) (k_nil) (by kernel_rfl))) (k_nil) (by kernel_rfl)) (by kernel_rfl)) (by kernel_rfl)) (by kernel_rfl)) (by kernel_rfl)) (by kernel_rfl)))) (pg_name (i := 1) sc__law_errors_right.nd (by kernel_rfl) (loc_of (by kernel_rfl)) (.inl rfl)) (z_seq (z_app (i := 0) (by kernel_rfl) (vis_of (by kernel_rfl)) (by kernel_rfl) (by kernel_rfl) (k_told (p := pg) tl rfl hr (gl_of (by kernel_rfl)) TB rfl hmT huT (LamX.lamS_by (by kernel_rfl)) (by kernel_rfl) (fun _ _ _ _ _ => (by kernel_rfl)) (fun k hk A outer s H E f c' N hrL => k_call (p := pg) (i := 159) ((L2 k hk) 159 "letter_square" (by kernel_rfl)) rfl hrL (pass_fn takes_lam) (gl_of (by kernel_rfl)) (k_cons (k_var (i := 1) (by kernel_rfl) (vis_of (by kernel_rfl)) (by kernel_rfl) (by kernel_rfl)) (k_cons (k_non) (k_nil) (by kernel_rfl)) (by kernel_rfl)) (by kernel_rfl) (by kernel_rfl) (by kernel_rfl)) (by kernel_rfl)) (by kernel_rfl) (by kernel_rfl) (by kernel_rfl) (by kernel_rfl) (by kernel_rfl)) (z_seq (z_app (i := 0) (by kernel_rfl) (vis_of (by kernel_rfl)) (by kernel_rfl) (by kernel_rfl) (k_told (p := pg) tl rfl hr (gl_of (by kernel_rfl)) TB rfl hmT huT (LamX.lamS_by (by kernel_rfl)) (by kernel_rfl) (fun _ _ _ _ _ => (by kernel_rfl)) (fun k hk A outer s H E f c' N hrL => k_call (p := pg) (i := 159) ((L2 k hk) 159 "letter_square" (by kernel_rfl)) rfl hrL (pass_fn takes_lam) (gl_of (by kernel_rfl)) (k_cons (k_int) (k_cons (k_var (i := 1) (by kernel_rfl) (vis_of (by kernel_rfl)) (by kernel_rfl) (by kernel_rfl)) (k_nil) (by kernel_rfl)) (by kernel_rfl)) (by kernel_rfl) (by kernel_rfl) (by kernel_rfl)) (by kernel_rfl)) (by kernel_rfl) (by kernel_rfl) (by kernel_rfl) (by kernel_rfl) (by kernel_rfl)) (z_seq (z_app (i := 0) (by kernel_rfl) (vis_of (by kernel_rfl)) (by kernel_rfl) (by kernel_rfl) (k_told (p := pg) tl rfl hr (gl_of (by kernel_rfl)) TB rfl hmT huT (LamX.lamS_by (by kernel_rfl)) (by kernel_rfl) (fun _ _ _ _ _ => (by kernel_rfl)) (fun k hk A outer s H E f c' N hrL => k_call (p := pg) (i := 160) ((L2 k hk) 160 "letter_word" (by kernel_rfl)) rfl hrL (pass_fn takes_lam) (gl_of (by kernel_rfl)) (k_cons (k_tup (k_cons (k_int) (k_nil) (by kernel_rfl))) (k_cons (k_var (i := 1) (by kernel_rfl) (vis_of (by kernel_rfl)) (by kernel_rfl) (by kernel_rfl)) (k_nil) (by kernel_rfl)) (by kernel_rfl)) (by kernel_rfl) (by kernel_rfl) (by kernel_rfl)) (by kernel_rfl)) (by kernel_rfl) (by kernel_rfl) (by kernel_rfl) (by kernel_rfl) (by kernel_rfl)) (z_seq (z_app (i := 0) (by kernel_rfl) (vis_of (by kernel_rfl)) (by kernel_rfl) (by kernel_rfl) (k_told (p := pg) tl rfl hr (gl_of (by kernel_rfl)) TB rfl hmT huT (LamX.lamS_by (by kernel_rfl)) (by kernel_rfl) (fun _ _ _ _ _ => (by kernel_rfl)) (fun k hk A outer s H E f c' N hrL => k_call (p := pg) (i := 161) ((L2 k hk) 161 "letter_words" (by kernel_rfl)) rfl hrL (pass_fn takes_lam) (gl_of (by kernel_rfl)) (k_cons (k_int) (k_cons (k_var (i := 1) (by kernel_rfl) (vis_of (by kernel_rfl)) (by kernel_rfl) (by kernel_rfl)) (k_nil) (by kernel_rfl)) (by kernel_rfl)) (by kernel_rfl) (by kernel_rfl) (by kernel_rfl)) (by kernel_rfl)) (by kernel_rfl) (by kernel_rfl) (by kernel_rfl) (by kernel_rfl) (by kernel_rfl)) (z_one (z_app (i := 0) (by kernel_rfl) (vis_of (by kernel_rfl)) (by kernel_rfl) (by kernel_rfl) (k_told (p := pg) tl rfl hr (gl_of (by kernel_rfl)) TB rfl hmT huT (LamX.lamS_by (by kernel_rfl)) (by kernel_rfl) (fun _ _ _ _ _ => (by kernel_rfl)) (fun k hk A outer s H E f c' N hrL => k_call (p := pg) (i := 162) ((L2 k hk) 162 "letter_reach" (by kernel_rfl)) rfl hrL (pass_fn takes_lam) (gl_of (by kernel_rfl)) (k_cons (k_var (i := 1) (by kernel_rfl) (vis_of (by kernel_rfl)) (by kernel_rfl) (by kernel_rfl)) (k_cons (k_non) (k_nil) (by kernel_rfl)) (by kernel_rfl)) (by kernel_rfl) (by kernel_rfl) (by kernel_rfl)) (by kernel_rfl)) (by kernel_rfl) (by kernel_rfl) (by kernel_rfl) (by kernel_rfl) (by kernel_rfl))))))) (fun _ => (by kernel_rfl))) (z_seq (z_own (i := 0) sc__law_errors_right.nd (by kernel_rfl) (loc_of (by kernel_rfl)) (n_cat (o_look (i := 0) (by kernel_rfl) (vis_of (by kernel_rfl)) (by kernel_rfl) (by kernel_rfl)) (o_e (k_lc (own := [("odd", 1)]) (tg := .n 1) (look := []) hRK rfl sc__law_errors_right.nd (ki_e hRK (k_tup (k_cons (k_non) (k_cons (k_neg (k_int)) (k_cons (k_int) (k_cons (k_bl) (k_cons (k_str) (k_nil) (by kernel_rfl)) (by kernel_rfl)) (by kernel_rfl)) (by kernel_rfl)) (by kernel_rfl)))) (blkOk_by (by kernel_rfl)) (by decide) (by decide) (fun _ _ _ _ _ => pg_name (i := 1) sc__law_errors_right.nd (by kernel_rfl) (loc_of (by kernel_rfl)) (.inl (by kernel_rfl))) (fun _ _ _ _ _ _ => kq_yes) (fun _ _ _ _ _ _ => k_told (p := pg) tl rfl hr (gl_of (by kernel_rfl)) TB rfl hmT huT (LamX.lamS_by (by kernel_rfl)) (by kernel_rfl) (fun _ _ _ _ _ => (by kernel_rfl)) (fun k hk A outer s H E f c' N hrL => k_call (p := pg) (i := 161) ((L2 k hk) 161 "letter_words" (by kernel_rfl)) rfl hrL (pass_fn takes_lam) (gl_of (by kernel_rfl)) (k_cons (k_var (i := 1) (by kernel_rfl) (vis_of (by kernel_rfl)) (by kernel_rfl) (by kernel_rfl)) (k_cons (k_non) (k_nil) (by kernel_rfl)) (by kernel_rfl)) (by kernel_rfl) (by kernel_rfl) (by kernel_rfl)) (by kernel_rfl)) (fun _ => (by kernel_rfl))))) (by kernel_rfl) (.inl rfl)) (z_seq (z_own (i := 0) sc__law_errors_right.nd (by kernel_rfl) (loc_of (by kernel_rfl)) (n_cat (o_look (i := 0) (by kernel_rfl) (vis_of (by kernel_rfl)) (by kernel_rfl) (by kernel_rfl)) (o_e (k_lc (own := [("odd", 1)]) (tg := .n 1) (look := []) hRK rfl sc__law_errors_right.nd (ki_e hRK (k_tup (k_cons (k_non) (k_cons (k_neg (k_int)) (k_cons (k_int) (k_cons (k_bl) (k_cons (k_str) (k_nil) (by kernel_rfl)) (by kernel_rfl)) (by kernel_rfl)) (by kernel_rfl)) (by kernel_rfl)))) (blkOk_by (by kernel_rfl)) (by decide) (by decide) (fun _ _ _ _ _ => pg_name (i := 1) sc__law_errors_right.nd (by kernel_rfl) (loc_of (by kernel_rfl)) (.inl (by kernel_rfl))) (fun _ _ _ _ _ _ => kq_yes) (fun _ _ _ _ _ _ => k_told (p := pg) tl rfl hr (gl_of (by kernel_rfl)) TB rfl hmT huT (LamX.lamS_by (by kernel_rfl)) (by kernel_rfl) (fun _ _ _ _ _ => (by kernel_rfl)) (fun k hk A outer s H E f c' N hrL => k_call (p := pg) (i := 162) ((L2 k hk) 162 "letter_reach" (by kernel_rfl)) rfl hrL (pass_fn takes_lam) (gl_of (by kernel_rfl)) (k_cons (k_int) (k_cons (k_var (i := 1) (by kernel_rfl) (vis_of (by kernel_rfl)) (by kernel_rfl) (by kernel_rfl)) (k_nil) (by kernel_rfl)) (by kernel_rfl)) (by kernel_rfl) (by kernel_rfl) (by kernel_rfl)) (by kernel_rfl)) (fun _ => (by kernel_rfl))))) (by kernel_rfl) (.inl rfl)) (z_seq (z_if (kt_cmp (o := .ne) hRK (u65 hr) (by kernel_rfl) (o_look (i := 0) (by kernel_rfl) (vis_of (by kernel_rfl)) (by kernel_rfl) (by kernel_rfl)) (o_e (k_op (o := .mul) hRK (o_e (k_lst (k_cons (k_str) (k_nil) (by kernel_rfl)))) (o_e (k_int))))) (z_one (z_ret (k_bl))) (z_nil)) (z_one (z_ret (k_cmp (o := .eq) hRK (u65 hr) (by kernel_rfl) (o_e (k_lc (own := [("odd", 1)]) (tg := .n 1) (look := []) hRK rfl sc__law_errors_right.nd (ki_e hRK (k_tup (k_cons (k_non) (k_cons (k_lst (k_cons (k_int) (k_nil) (by kernel_rfl))) (k_cons (k_tup (k_cons (k_int) (k_nil) (by kernel_rfl))) (k_cons (k_tup (k_cons (k_int) (k_nil) (by kernel_rfl))) (k_cons (k_tup (k_cons (k_int) (k_cons (k_int) (k_nil) (by kernel_rfl)) (by kernel_rfl))) (k_cons (k_op (o := .mul) hRK (o_e (k_tup (k_cons (k_int) (k_nil) (by kernel_rfl)))) (o_e (k_int))) (k_cons (k_int) (k_cons (k_str) (k_nil) (by kernel_rfl)) (by kernel_rfl)) (by kernel_rfl)) (by kernel_rfl)) (by kernel_rfl)) (by kernel_rfl)) (by kernel_rfl)) (by kernel_rfl)))) (blkOk_by (by kernel_rfl)) (by decide) (by decide) (fun _ _ _ _ _ => pg_name (i := 1) sc__law_errors_right.nd (by kernel_rfl) (loc_of (by kernel_rfl)) (.inl (by kernel_rfl))) (fun _ _ _ _ _ _ => kq_yes) (fun _ _ _ _ _ _ => k_told (p := pg) tl rfl hr (gl_of (by kernel_rfl)) TB rfl hmT huT (LamX.lamS_by (by kernel_rfl)) (by kernel_rfl) (fun _ _ _ _ _ => (by kernel_rfl)) (fun k hk A outer s H E f c' N hrL => k_call (p := pg) (i := 160) ((L2 k hk) 160 "letter_word" (by kernel_rfl)) rfl hrL (pass_fn takes_lam) (gl_of (by kernel_rfl)) (k_cons (k_var (i := 1) (by kernel_rfl) (vis_of (by kernel_rfl)) (by kernel_rfl) (by kernel_rfl)) (k_cons (k_non) (k_nil) (by kernel_rfl)) (by kernel_rfl)) (by kernel_rfl) (by kernel_rfl) (by kernel_rfl)) (by kernel_rfl)) (fun _ => (by kernel_rfl)))) (o_e (k_op (o := .mul) hRK (o_e (k_lst (k_cons (k_str) (k_nil) (by kernel_rfl)))) (o_e (k_int)))))))))))
theorem t_law (hRK : R.K = K) (hRP : R.pr = Pr) (hRW : R.w = w) {f_law : Addr} {kV_law doc_law pm_law ct_law oc_law : Value} {cv_law : Value} {an_law od_law : Option Addr} {osl_law : Array (Option Value)} (lk_law : K.lookup f_law = some ⟨oc_law, od_law, .func (PySem.W.fnOf "law" "law" (defArgs s_law) (defBody s_law) (defScope s_law) .none kV_law doc_law pm_law an_law cv_law ct_law), osl_law⟩) (cd_law : PySem.W.codeIn K cv_law "law" = true) (m_law : mg "law" = some (.ref f_law)) (kp_law : PySem.W.keepIn K (.ref f_law) = true)  (n_range : mg "range" = none) (n_sum : mg "sum" = none) (n : Nat) (L : Lv Pr w K mg base R T pg nm n) (L2 : ∀ k, n = k + 2 → Lv Pr w K mg base R T pg nm k) : FnOk Pr w K mg base (L2N.CX Pr w) (n + 1) f_law (PySem.W.fnOf "law" "law" (defArgs s_law) (defBody s_law) (defScope s_law) .none kV_law doc_law pm_law an_law cv_law ct_law) ["script"] (spF R T (runB (dnD pg n) b_law)) :=
  fnok lk_law cd_law sc_law rfl rfl fun A outer s H E N0 hr =>
    z_seq (z_set (i := 1) sc_law.nd (by kernel_rfl) (loc_of (by kernel_rfl)) (k_lst (k_cons (k_call (p := pg) (i := 159) (L 159 "letter_square" (by kernel_rfl)) (dnD_F pg n) hr (pass_fn takes_fn) (gl_of (by kernel_rfl)) (k_cons (k_int) (k_cons (k_int) (k_nil) (by kernel_rfl)) (by kernel_rfl)) (by kernel_rfl) (by kernel_rfl) (by kernel_rfl)) (k_cons (k_call (p := pg) (i := 159) (L 159 "letter_square" (by kernel_rfl)) (dnD_F pg n) hr (pass_fn takes_fn) (gl_of (by kernel_rfl)) (k_cons (k_int) (k_cons (k_int) (k_nil) (by kernel_rfl)) (by kernel_rfl)) (by kernel_rfl) (by kernel_rfl) (by kernel_rfl)) (k_cons (k_call (p := pg) (i := 160) (L 160 "letter_word" (by kernel_rfl)) (dnD_F pg n) hr (pass_fn takes_fn) (gl_of (by kernel_rfl)) (k_cons (k_tup (k_cons (k_int) (k_cons (k_int) (k_nil) (by kernel_rfl)) (by kernel_rfl))) (k_cons (k_int) (k_nil) (by kernel_rfl)) (by kernel_rfl)) (by kernel_rfl) (by kernel_rfl) (by kernel_rfl)) (k_cons (k_call (p := pg) (i := 160) (L 160 "letter_word" (by kernel_rfl)) (dnD_F pg n) hr (pass_fn takes_fn) (gl_of (by kernel_rfl)) (k_cons (k_tup (k_cons (k_int) (k_cons (k_int) (k_nil) (by kernel_rfl)) (by kernel_rfl))) (k_cons (k_int) (k_nil) (by kernel_rfl)) (by kernel_rfl)) (by kernel_rfl) (by kernel_rfl) (by kernel_rfl)) (k_cons (k_call (p := pg) (i := 161) (L 161 "letter_words" (by kernel_rfl)) (dnD_F pg n) hr (pass_fn takes_fn) (gl_of (by kernel_rfl)) (k_cons (k_int) (k_cons (k_int) (k_nil) (by kernel_rfl)) (by kernel_rfl)) (by kernel_rfl) (by kernel_rfl) (by kernel_rfl)) (k_cons (k_call (p := pg) (i := 161) (L 161 "letter_words" (by kernel_rfl)) (dnD_F pg n) hr (pass_fn takes_fn) (gl_of (by kernel_rfl)) (k_cons (k_int) (k_cons (k_int) (k_nil) (by kernel_rfl)) (by kernel_rfl)) (by kernel_rfl) (by kernel_rfl) (by kernel_rfl)) (k_nil) (by kernel_rfl)) (by kernel_rfl)) (by kernel_rfl)) (by kernel_rfl)) (by kernel_rfl)) (by kernel_rfl))) (by kernel_rfl) (.inl rfl)) (z_seq (z_set (i := 2) sc_law.nd (by kernel_rfl) (loc_of (by kernel_rfl)) (k_lst (k_cons (k_int) (k_cons (k_non) (k_cons (k_int) (k_cons (k_non) (k_cons (k_tup (k_cons (k_tup (k_cons (k_int) (k_cons (k_int) (k_nil) (by kernel_rfl)) (by kernel_rfl))) (k_nil) (by kernel_rfl))) (k_cons (k_tup (k_cons (k_tup (k_cons (k_int) (k_nil) (by kernel_rfl))) (k_nil) (by kernel_rfl))) (k_nil) (by kernel_rfl)) (by kernel_rfl)) (by kernel_rfl)) (by kernel_rfl)) (by kernel_rfl)) (by kernel_rfl))) (by kernel_rfl) (.inl rfl)) (z_seq (z_set (i := 1) sc_law.nd (by kernel_rfl) (loc_of (by kernel_rfl)) (k_op (o := .add) hRK (o_e (k_var (i := 1) (by kernel_rfl) (vis_of (by kernel_rfl)) (by kernel_rfl) (by kernel_rfl))) (o_e (k_lst (k_cons (k_call (p := pg) (i := 162) (L 162 "letter_reach" (by kernel_rfl)) (dnD_F pg n) hr (pass_fn takes_fn) (gl_of (by kernel_rfl)) (k_cons (k_int) (k_cons (k_int) (k_nil) (by kernel_rfl)) (by kernel_rfl)) (by kernel_rfl) (by kernel_rfl) (by kernel_rfl)) (k_cons (k_call (p := pg) (i := 162) (L 162 "letter_reach" (by kernel_rfl)) (dnD_F pg n) hr (pass_fn takes_fn) (gl_of (by kernel_rfl)) (k_cons (k_int) (k_cons (k_int) (k_nil) (by kernel_rfl)) (by kernel_rfl)) (by kernel_rfl) (by kernel_rfl) (by kernel_rfl)) (k_cons (k_call (p := pg) (i := 162) (L 162 "letter_reach" (by kernel_rfl)) (dnD_F pg n) hr (pass_fn takes_fn) (gl_of (by kernel_rfl)) (k_cons (k_int) (k_cons (k_int) (k_nil) (by kernel_rfl)) (by kernel_rfl)) (by kernel_rfl) (by kernel_rfl) (by kernel_rfl)) (k_cons (k_call (p := pg) (i := 160) (L 160 "letter_word" (by kernel_rfl)) (dnD_F pg n) hr (pass_fn takes_fn) (gl_of (by kernel_rfl)) (k_cons (k_tup (k_nil)) (k_cons (k_int) (k_nil) (by kernel_rfl)) (by kernel_rfl)) (by kernel_rfl) (by kernel_rfl) (by kernel_rfl)) (k_cons (k_call (p := pg) (i := 159) (L 159 "letter_square" (by kernel_rfl)) (dnD_F pg n) hr (pass_fn takes_fn) (gl_of (by kernel_rfl)) (k_cons (k_int) (k_cons (k_int) (k_nil) (by kernel_rfl)) (by kernel_rfl)) (by kernel_rfl) (by kernel_rfl) (by kernel_rfl)) (k_cons (k_call (p := pg) (i := 159) (L 159 "letter_square" (by kernel_rfl)) (dnD_F pg n) hr (pass_fn takes_fn) (gl_of (by kernel_rfl)) (k_cons (k_int) (k_cons (k_int) (k_nil) (by kernel_rfl)) (by kernel_rfl)) (by kernel_rfl) (by kernel_rfl) (by kernel_rfl)) (k_cons (k_call (p := pg) (i := 162) (L 162 "letter_reach" (by kernel_rfl)) (dnD_F pg n) hr (pass_fn takes_fn) (gl_of (by kernel_rfl)) (k_cons (k_int) (k_cons (k_int) (k_nil) (by kernel_rfl)) (by kernel_rfl)) (by kernel_rfl) (by kernel_rfl) (by kernel_rfl)) (k_nil) (by kernel_rfl)) (by kernel_rfl)) (by kernel_rfl)) (by kernel_rfl)) (by kernel_rfl)) (by kernel_rfl)) (by kernel_rfl))))) (by kernel_rfl) (.inl rfl)) (z_seq (z_set (i := 2) sc_law.nd (by kernel_rfl) (loc_of (by kernel_rfl)) (k_op (o := .add) hRK (o_e (k_var (i := 2) (by kernel_rfl) (vis_of (by kernel_rfl)) (by kernel_rfl) (by kernel_rfl))) (o_e (k_lst (k_cons (k_tup (k_cons (k_int) (k_cons (k_int) (k_cons (k_int) (k_cons (k_int) (k_cons (k_int) (k_nil) (by kernel_rfl)) (by kernel_rfl)) (by kernel_rfl)) (by kernel_rfl)) (by kernel_rfl))) (k_cons (k_tup (k_cons (k_int) (k_cons (k_int) (k_cons (k_int) (k_cons (k_int) (k_cons (k_int) (k_nil) (by kernel_rfl)) (by kernel_rfl)) (by kernel_rfl)) (by kernel_rfl)) (by kernel_rfl))) (k_cons (k_tup (k_nil)) (k_cons (k_int) (k_cons (k_int) (k_cons (k_int) (k_cons (k_tup (k_cons (k_int) (k_nil) (by kernel_rfl))) (k_nil) (by kernel_rfl)) (by kernel_rfl)) (by kernel_rfl)) (by kernel_rfl)) (by kernel_rfl)) (by kernel_rfl)) (by kernel_rfl))))) (by kernel_rfl) (.inl rfl)) (z_seq (z_set (i := 1) sc_law.nd (by kernel_rfl) (loc_of (by kernel_rfl)) (k_op (o := .add) hRK (o_e (k_var (i := 1) (by kernel_rfl) (vis_of (by kernel_rfl)) (by kernel_rfl) (by kernel_rfl))) (o_e (k_lst (k_cons (k_call (p := pg) (i := 161) (L 161 "letter_words" (by kernel_rfl)) (dnD_F pg n) hr (pass_fn takes_fn) (gl_of (by kernel_rfl)) (k_cons (k_int) (k_cons (k_int) (k_nil) (by kernel_rfl)) (by kernel_rfl)) (by kernel_rfl) (by kernel_rfl) (by kernel_rfl)) (k_cons (k_call (p := pg) (i := 161) (L 161 "letter_words" (by kernel_rfl)) (dnD_F pg n) hr (pass_fn takes_fn) (gl_of (by kernel_rfl)) (k_cons (k_int) (k_cons (k_int) (k_nil) (by kernel_rfl)) (by kernel_rfl)) (by kernel_rfl) (by kernel_rfl) (by kernel_rfl)) (k_cons (k_call (p := pg) (i := 160) (L 160 "letter_word" (by kernel_rfl)) (dnD_F pg n) hr (pass_fn takes_fn) (gl_of (by kernel_rfl)) (k_cons (k_tup (k_cons (k_int) (k_cons (k_int) (k_cons (k_int) (k_cons (k_int) (k_nil) (by kernel_rfl)) (by kernel_rfl)) (by kernel_rfl)) (by kernel_rfl))) (k_cons (k_int) (k_nil) (by kernel_rfl)) (by kernel_rfl)) (by kernel_rfl) (by kernel_rfl) (by kernel_rfl)) (k_cons (k_call (p := pg) (i := 162) (L 162 "letter_reach" (by kernel_rfl)) (dnD_F pg n) hr (pass_fn takes_fn) (gl_of (by kernel_rfl)) (k_cons (k_int) (k_cons (k_int) (k_nil) (by kernel_rfl)) (by kernel_rfl)) (by kernel_rfl) (by kernel_rfl) (by kernel_rfl)) (k_cons (k_call (p := pg) (i := 161) (L 161 "letter_words" (by kernel_rfl)) (dnD_F pg n) hr (pass_fn takes_fn) (gl_of (by kernel_rfl)) (k_cons (k_int) (k_cons (k_int) (k_nil) (by kernel_rfl)) (by kernel_rfl)) (by kernel_rfl) (by kernel_rfl) (by kernel_rfl)) (k_cons (k_call (p := pg) (i := 162) (L 162 "letter_reach" (by kernel_rfl)) (dnD_F pg n) hr (pass_fn takes_fn) (gl_of (by kernel_rfl)) (k_cons (k_int) (k_cons (k_int) (k_nil) (by kernel_rfl)) (by kernel_rfl)) (by kernel_rfl) (by kernel_rfl) (by kernel_rfl)) (k_nil) (by kernel_rfl)) (by kernel_rfl)) (by kernel_rfl)) (by kernel_rfl)) (by kernel_rfl)) (by kernel_rfl))))) (by kernel_rfl) (.inl rfl)) (z_seq (z_set (i := 2) sc_law.nd (by kernel_rfl) (loc_of (by kernel_rfl)) (k_op (o := .add) hRK (o_e (k_var (i := 2) (by kernel_rfl) (vis_of (by kernel_rfl)) (by kernel_rfl) (by kernel_rfl))) (o_e (k_lst (k_cons (k_tup (k_cons (k_tup (k_nil)) (k_nil) (by kernel_rfl))) (k_cons (k_tup (k_cons (k_tup (k_cons (k_int) (k_cons (k_int) (k_cons (k_int) (k_nil) (by kernel_rfl)) (by kernel_rfl)) (by kernel_rfl))) (k_nil) (by kernel_rfl))) (k_cons (k_int) (k_cons (k_tup (k_cons (k_int) (k_cons (k_int) (k_cons (k_int) (k_cons (k_int) (k_cons (k_int) (k_cons (k_int) (k_cons (k_int) (k_cons (k_int) (k_nil) (by kernel_rfl)) (by kernel_rfl)) (by kernel_rfl)) (by kernel_rfl)) (by kernel_rfl)) (by kernel_rfl)) (by kernel_rfl)) (by kernel_rfl))) (k_cons (k_tup (k_cons (k_tup (k_cons (k_int) (k_cons (k_int) (k_nil) (by kernel_rfl)) (by kernel_rfl))) (k_nil) (by kernel_rfl))) (k_cons (k_tup (k_cons (k_int) (k_nil) (by kernel_rfl))) (k_nil) (by kernel_rfl)) (by kernel_rfl)) (by kernel_rfl)) (by kernel_rfl)) (by kernel_rfl)) (by kernel_rfl))))) (by kernel_rfl) (.inl rfl)) (z_seq (z_if (kt_w (kw_or (kt_not (kt_val hRK (o_e (k_call (p := pg) (i := 904) (L 904 "_law_like" (by kernel_rfl)) (dnD_F pg n) hr (pass_fn takes_fn) (gl_of (by kernel_rfl)) (k_cons (k_var (i := 1) (by kernel_rfl) (vis_of (by kernel_rfl)) (by kernel_rfl) (by kernel_rfl)) (k_cons (k_var (i := 2) (by kernel_rfl) (vis_of (by kernel_rfl)) (by kernel_rfl) (by kernel_rfl)) (k_nil) (by kernel_rfl)) (by kernel_rfl)) (by kernel_rfl) (by kernel_rfl) (by kernel_rfl))) (fun _ => (by kernel_rfl)))) (kw_or (kt_not (kt_val hRK (o_e (k_call0 (p := pg) (i := 1008) (L 1008 "_law_errors_right" (by kernel_rfl)) (dnD_F pg n) hr (pass_fn takes_fn) (gl_of (by kernel_rfl)) (by kernel_rfl))) (fun _ => (by kernel_rfl)))) (kw_or1 (kt_not (kt_val hRK (o_e (k_call (p := pg) (i := 1004) (L 1004 "_law_squares_right" (by kernel_rfl)) (dnD_F pg n) hr (pass_fn takes_fn) (gl_of (by kernel_rfl)) (k_cons (k_int) (k_nil) (by kernel_rfl)) (by kernel_rfl) (by kernel_rfl) (by kernel_rfl))) (fun _ => (by kernel_rfl)))))))) (z_one (z_ret (k_bl))) (z_nil)) (z_seq (z_set (i := 3) sc_law.nd (by kernel_rfl) (loc_of (by kernel_rfl)) (k_call (p := pg) (i := 900) (L 900 "_law_cup" (by kernel_rfl)) (dnD_F pg n) hr (pass_fn takes_fn) (gl_of (by kernel_rfl)) (k_cons (k_var (i := 0) (by kernel_rfl) (vis_of (by kernel_rfl)) (by kernel_rfl) (by kernel_rfl)) (k_nil) (by kernel_rfl)) (by kernel_rfl) (by kernel_rfl) (by kernel_rfl)) (by kernel_rfl) (.inl rfl)) (z_seq (z_for (tg := .n 4) hRK own_fn rfl (ki_rng1 (gl_of (by kernel_rfl)) n_range (k_int) (by kernel_rfl)) (pg_name (i := 4) sc_law.nd (by kernel_rfl) (loc_of (by kernel_rfl)) (.inl rfl)) (z_seq (z_par2 (i := 5) (j := 6) rfl sc_law.nd (by kernel_rfl) (by kernel_rfl) (by decide) (by kernel_rfl) (by kernel_rfl) (k_cons (k_tup (k_nil)) (k_cons (k_call (p := pg) (i := 901) (L 901 "_law_roll" (by kernel_rfl)) (dnD_F pg n) hr (pass_fn takes_fn) (gl_of (by kernel_rfl)) (k_cons (k_var (i := 3) (by kernel_rfl) (vis_of (by kernel_rfl)) (by kernel_rfl) (by kernel_rfl)) (k_cons (k_int) (k_nil) (by kernel_rfl)) (by kernel_rfl)) (by kernel_rfl) (by kernel_rfl) (by kernel_rfl)) (k_nil) (by kernel_rfl)) (by kernel_rfl)) (by kernel_rfl) (by kernel_rfl)) (z_seq (z_for (tg := .n 7) hRK own_fn rfl (ki_rng1 (gl_of (by kernel_rfl)) n_range (k_call (p := pg) (i := 901) (L 901 "_law_roll" (by kernel_rfl)) (dnD_F pg n) hr (pass_fn takes_fn) (gl_of (by kernel_rfl)) (k_cons (k_var (i := 3) (by kernel_rfl) (vis_of (by kernel_rfl)) (by kernel_rfl) (by kernel_rfl)) (k_cons (k_int) (k_nil) (by kernel_rfl)) (by kernel_rfl)) (by kernel_rfl) (by kernel_rfl) (by kernel_rfl)) (by kernel_rfl)) (pg_name (i := 7) sc_law.nd (by kernel_rfl) (loc_of (by kernel_rfl)) (.inl rfl)) (z_one (z_set (i := 5) sc_law.nd (by kernel_rfl) (loc_of (by kernel_rfl)) (k_op (o := .add) hRK (o_e (k_var (i := 5) (by kernel_rfl) (vis_of (by kernel_rfl)) (by kernel_rfl) (by kernel_rfl))) (o_e (k_tup (k_cons (k_op (o := .add) hRK (o_e (k_int)) (o_e (k_call (p := pg) (i := 901) (L 901 "_law_roll" (by kernel_rfl)) (dnD_F pg n) hr (pass_fn takes_fn) (gl_of (by kernel_rfl)) (k_cons (k_var (i := 3) (by kernel_rfl) (vis_of (by kernel_rfl)) (by kernel_rfl) (by kernel_rfl)) (k_cons (k_int) (k_nil) (by kernel_rfl)) (by kernel_rfl)) (by kernel_rfl) (by kernel_rfl) (by kernel_rfl)))) (k_nil) (by kernel_rfl))))) (by kernel_rfl) (.inl rfl))) (fun _ => (by kernel_rfl))) (z_seq (z_if (kt_w (kw_or (kt_not (kt_val hRK (o_e (k_call (p := pg) (i := 1005) (L 1005 "_law_word_right" (by kernel_rfl)) (dnD_F pg n) hr (pass_fn takes_fn) (gl_of (by kernel_rfl)) (k_cons (k_ife (kt_cmp (o := .le) hRK (u65 hr) (by kernel_rfl) (o_e (k_blt (T := .sum) hRK rfl rfl rfl (gl_of (by kernel_rfl)) n_sum (by kernel_rfl) (ko_cons (o_e (k_var (i := 5) (by kernel_rfl) (vis_of (by kernel_rfl)) (by kernel_rfl) (by kernel_rfl))) (ko_nil) (by kernel_rfl)) (by decide) (by kernel_rfl) (by kernel_rfl) (by kernel_rfl))) (o_e (k_int))) (k_var (i := 5) (by kernel_rfl) (vis_of (by kernel_rfl)) (by kernel_rfl) (by kernel_rfl)) (k_slc hRK (o_e (k_var (i := 5) (by kernel_rfl) (vis_of (by kernel_rfl)) (by kernel_rfl) (by kernel_rfl))) (kc_non) (kc_som (k_int)))) (k_cons (k_var (i := 6) (by kernel_rfl) (vis_of (by kernel_rfl)) (by kernel_rfl) (by kernel_rfl)) (k_nil) (by kernel_rfl)) (by kernel_rfl)) (by kernel_rfl) (by kernel_rfl) (by kernel_rfl))) (fun _ => (by kernel_rfl)))) (kw_or1 (kt_not (kt_val hRK (o_e (k_call (p := pg) (i := 1006) (L 1006 "_law_words_right" (by kernel_rfl)) (dnD_F pg n) hr (pass_fn takes_fn) (gl_of (by kernel_rfl)) (k_cons (k_call (p := pg) (i := 901) (L 901 "_law_roll" (by kernel_rfl)) (dnD_F pg n) hr (pass_fn takes_fn) (gl_of (by kernel_rfl)) (k_cons (k_var (i := 3) (by kernel_rfl) (vis_of (by kernel_rfl)) (by kernel_rfl) (by kernel_rfl)) (k_cons (k_int) (k_nil) (by kernel_rfl)) (by kernel_rfl)) (by kernel_rfl) (by kernel_rfl) (by kernel_rfl)) (k_cons (k_var (i := 6) (by kernel_rfl) (vis_of (by kernel_rfl)) (by kernel_rfl) (by kernel_rfl)) (k_nil) (by kernel_rfl)) (by kernel_rfl)) (by kernel_rfl) (by kernel_rfl) (by kernel_rfl))) (fun _ => (by kernel_rfl))))))) (z_one (z_ret (k_bl))) (z_nil)) (z_one (z_if (kt_not (kt_val hRK (o_e (k_call (p := pg) (i := 1007) (L 1007 "_law_reach_right" (by kernel_rfl)) (dnD_F pg n) hr (pass_fn takes_fn) (gl_of (by kernel_rfl)) (k_cons (k_call (p := pg) (i := 901) (L 901 "_law_roll" (by kernel_rfl)) (dnD_F pg n) hr (pass_fn takes_fn) (gl_of (by kernel_rfl)) (k_cons (k_var (i := 3) (by kernel_rfl) (vis_of (by kernel_rfl)) (by kernel_rfl) (by kernel_rfl)) (k_cons (k_int) (k_nil) (by kernel_rfl)) (by kernel_rfl)) (by kernel_rfl) (by kernel_rfl) (by kernel_rfl)) (k_cons (k_call (p := pg) (i := 901) (L 901 "_law_roll" (by kernel_rfl)) (dnD_F pg n) hr (pass_fn takes_fn) (gl_of (by kernel_rfl)) (k_cons (k_var (i := 3) (by kernel_rfl) (vis_of (by kernel_rfl)) (by kernel_rfl) (by kernel_rfl)) (k_cons (k_int) (k_nil) (by kernel_rfl)) (by kernel_rfl)) (by kernel_rfl) (by kernel_rfl) (by kernel_rfl)) (k_nil) (by kernel_rfl)) (by kernel_rfl)) (by kernel_rfl) (by kernel_rfl) (by kernel_rfl))) (fun _ => (by kernel_rfl)))) (z_one (z_ret (k_bl))) (z_nil)))))) (fun _ => (by kernel_rfl))) (z_one (z_ret (k_bl)))))))))))
theorem t__law_error (hRK : R.K = K) (hRP : R.pr = Pr) (hRW : R.w = w) {f__law_error : Addr} {kV__law_error doc__law_error pm__law_error ct__law_error oc__law_error : Value} {cv__law_error : Value} {an__law_error od__law_error : Option Addr} {osl__law_error : Array (Option Value)} (lk__law_error : K.lookup f__law_error = some ⟨oc__law_error, od__law_error, .func (PySem.W.fnOf "_law_error" "_law_error" (defArgs s__law_error) (defBody s__law_error) (defScope s__law_error) .none kV__law_error doc__law_error pm__law_error an__law_error cv__law_error ct__law_error), osl__law_error⟩) (cd__law_error : PySem.W.codeIn K cv__law_error "_law_error" = true) (m__law_error : mg "_law_error" = some (.ref f__law_error)) (kp__law_error : PySem.W.keepIn K (.ref f__law_error) = true) {c_1 : Addr} {c_6 : Addr} {c_19 : Addr} {c_0 : Addr} (gc_1 : mg "InvalidNumber" = some (.ref c_1)) (hc_1 : R.cad 1 = some c_1) (gc_6 : mg "InvalidWord" = some (.ref c_6)) (hc_6 : R.cad 6 = some c_6) (gc_19 : mg "TooMany" = some (.ref c_19)) (hc_19 : R.cad 19 = some c_19) (gc_0 : mg "SquareError" = some (.ref c_0)) (hc_0 : R.cad 0 = some c_0) (n_isinstance : mg "isinstance" = none) (hE : ∀ c C, R.cad c = some C → ExcC K C) (hkit : ∀ c C t Dt, R.cad c = some C → R.cad t = some Dt → PySem.W.kitOne K (.ref C) (.ref Dt) = some (sub c t)) (hex : ∀ c C, R.cad c = some C → PySem.W.exmOne K (.ref C) (.ref c_0) = some (sub c 0)) : Tl Pr w K mg base R T pg "_law_error" :=
  ⟨"call", f__law_error, defArgs s__law_error, defBody s__law_error, defScope s__law_error, .none, kV__law_error, doc__law_error, pm__law_error, cv__law_error, ct__law_error, oc__law_error, an__law_error, od__law_error, osl__law_error, ["call", "e", "rows", "word", "fits"], m__law_error, kp__law_error, lk__law_error, cd__law_error, .all (fun us hl => match us, hl with | [_], _ => by kernel_rfl), sc__law_error, by kernel_rfl, vis_of (by kernel_rfl), by kernel_rfl, by kernel_rfl, fun X q e1 e2 e3 e4 e5 => by
    subst e1 e2 e3 e4 e5
    refine gives (pg := pg) (ei := 1) sc__law_error.nd (by kernel_rfl) (by kernel_rfl) (by kernel_rfl) (by kernel_rfl) gc_0 (by decide) (by decide) hex (fun _ => (by kernel_rfl)) (fun s H ae oe cls d pn hz hf => su_go fun c C st hc hcl hd hh => ?_)
    subst hcl hd
    have hh2 : (if sub c 19 then none else some (Txt.join (" " : Str) (wordsOf (prs0 c)))) = some st := hh
    split at hh2
    · cases hh2
    rename_i hno
    cases hh2
    simp only [Bool.or_eq_true, not_or, Bool.not_eq_true] at hno
    have hn_19 : sub c 19 = false := by simpa using hno
    have hq_19 : PySem.W.kitOne X.K (.ref C) (.ref c_19) = some false := by rw [hkit c C 19 _ hc hc_19, hn_19]
    have S := su_mk (X := (cxOf C8.CX0 X.prog X.w X.K X.mg X.base ["call", "e", "rows", "word", "fits"] "_law_error" (defScope s__law_error) f__law_error cv__law_error X.A X.stack s H C8.E0).nox) (ae := ae) (pn := pn) (en := "e") (ei := 1) (hE c C hc) hz hf (by kernel_rfl) (vis_of (by kernel_rfl)) (by kernel_rfl) (by kernel_rfl) (gl_of (by kernel_rfl)) n_isinstance
    exact tr_first (vi := 2) (n := 5) (sw := false) (tr_set (l := prs0 c) (by decide) (by decide) sc__law_error.nd (by kernel_rfl) (loc_of (by kernel_rfl)) (pr_cons (e_isi S (gl_of (by kernel_rfl)) gc_1 (by kernel_rfl) (hkit c C 1 _ hc hc_1) (by kernel_rfl) (by kernel_rfl)) (pr_cons (e_isi S (gl_of (by kernel_rfl)) gc_6 (by kernel_rfl) (hkit c C 6 _ hc hc_6) (by kernel_rfl) (by kernel_rfl)) (pr_nil) (by kernel_rfl) (by kernel_rfl) (by kernel_rfl)) (by kernel_rfl) (by kernel_rfl) (by kernel_rfl)) (Nat.le_of_ble_eq_true (by kernel_rfl)) (by kernel_rfl) (.inl rfl) (by kernel_rfl) (by kernel_rfl)) (tr_next (tr_ifno (l := prs0 c) (pt_val (e_isi S (gl_of (by kernel_rfl)) gc_19 (by kernel_rfl) hq_19 (by kernel_rfl) (by kernel_rfl)) (fun _ => (by kernel_rfl)))) (tr_ret (l := prs0 c) (pe_m1 PySem.F.slot_str_join PySem.F.type_str_join mt_join pe_str (e_words (wi := 3) (fi := 4) (i1 := 3) (i2 := 4) (sw := false) S (pe_var (i := 2) (by kernel_rfl) (vis_of (by kernel_rfl)) (by kernel_rfl) (by kernel_rfl)) var_mono (Nat.le_of_ble_eq_true (by kernel_rfl)) sc__law_error.nd (blkOk_by (by kernel_rfl)) (by decide) (show 3 < 5 by decide) (show 4 < 5 by decide) (by kernel_rfl) (fun _ _ _ _ _ => pgs_cons (pg_name (i := 3) sc__law_error.nd (by kernel_rfl) (loc_of (by kernel_rfl)) (.inr (by kernel_rfl))) (pgs_cons (pg_name (i := 4) sc__law_error.nd (by kernel_rfl) (loc_of (by kernel_rfl)) (.inr (by kernel_rfl))) pgs_nil (by kernel_rfl)) (by kernel_rfl)) (fun _ _ _ _ _ => pt_val (pe_var (i := 4) (by kernel_rfl) (vis_of (by kernel_rfl)) (by kernel_rfl) (by kernel_rfl)) (fun _ => (by kernel_rfl))) (fun _ _ _ _ _ => pe_var (i := 3) (by kernel_rfl) (vis_of (by kernel_rfl)) (by kernel_rfl) (by kernel_rfl)) (fun _ _ => (by kernel_rfl)) (fun _ _ => (by kernel_rfl)) (fun _ => (by kernel_rfl))) (by kernel_rfl) (by kernel_rfl) (by kernel_rfl)) (Nat.le_trans (words_le _ (prs0 c)) (Nat.le_of_ble_eq_true (by kernel_rfl)))))⟩
end
end Vg
namespace Vg
open PySem Vi
theorem le_split {k n : Nat} (h : k ≤ n) : ∃ m, n = m + k := ⟨n - k, by omega⟩
/-! like -/
def sortOf : P → Int
  | .non => 0
  | .bl _ => 1
  | .int _ => 2
  | .str _ => 3
  | .tup _ => 4
  | .lst _ => 5
  | _ => 6
theorem r_sort (n d : Nat) (p : P) (h : shp d p = true) (S : Sto) : run pg (n + 1) 903 [p] S = .ok (.int (sortOf p)) S := by
  rw [run_at pg n 903 _ b__law_sort rfl, runB_at _ _ _ _ rfl]
  cases p <;> first
    | (simp [b__law_sort, Vi.get, sortOf]; done)
    | (cases d <;> simp [shp] at h)
theorem shps_mem {d : Nat} : ∀ {xs : List P} {x : P}, shps d xs = true → x ∈ xs → shp d x = true
  | x :: xs, y, h, hy => by
    have h' : shp d x = true ∧ shps d xs = true := by simpa [shps] using h
    rcases List.mem_cons.mp hy with e | hy
    · rw [e]; exact h'.1
    · exact shps_mem h'.2 hy
theorem zip_self {xs : List P} {z : P} (h : z ∈ (xs.zip xs).map pairP) : ∃ x ∈ xs, z = .tup [x, x] := by
  obtain ⟨⟨a, b⟩, h1, rfl⟩ := List.mem_map.mp h
  have e : a = b := by
    obtain ⟨i, hi, e⟩ := List.getElem_of_mem h1
    rw [List.getElem_zip] at e
    cases e
    rfl
  subst e
  exact ⟨a, (List.of_mem_zip h1).1, rfl⟩
theorem r_like0 : ∀ (d n : Nat) (p : P) (S : Sto), shp d p = true → run pg (n + d + 2) 904 [p, p] S = .ok (.bl true) S := by
  intro d
  induction d with
  | zero =>
    intro n p S h
    rw [run_at pg (n + 0 + 1) 904 _ b__law_like rfl, runB_at _ _ _ _ rfl]
    have hs := fun S => r_sort (n + 0) 0 p h S
    cases p <;> first
      | (simp [shp] at h; done)
      | (simp [b__law_like, Vi.get, dnD_F, hs, sortOf, put]; done)
      | (simp [shp] at h; simp [b__law_like, Vi.get, dnD_F, hs, sortOf, put, h]; done)
  | succ d ih =>
    intro n p S h
    rw [show n + (d + 1) + 2 = (n + d + 2) + 1 by omega, run_at pg (n + d + 2) 904 _ b__law_like rfl, runB_at _ _ _ _ rfl]
    have hs := fun S => r_sort (n + d + 1) (d + 1) p h S
    cases p <;> first
      | (simp [shp] at h; done)
      | (simp [b__law_like, Vi.get, dnD_F, hs, sortOf, put]; done)
      | (simp [shp] at h; simp [b__law_like, Vi.get, dnD_F, hs, sortOf, put, h]; done)
      | skip
    all_goals
      rename_i xs
      have hx : shps d xs = true := by simpa using h
      simp [b__law_like, Vi.get, dnD_F, hs, sortOf, put, isOwn]
      rw [compL_none]
      · simp
      · intro z hz
        obtain ⟨x, hx2, rfl⟩ := zip_self hz
        simp [c__law_like_1, q__law_like_1, put, Vi.get, dnD_F, ih n x S (shps_mem hx hx2)]
theorem r_like {n : Nat} (p : P) (d : Nat) (hs : shp d p = true) (h : d + 2 ≤ n) (S : Sto) : run pg n 904 [p, p] S = .ok (.bl true) S := by
  obtain ⟨m, rfl⟩ := le_split h
  rw [← Nat.add_assoc]
  exact r_like0 d m p S hs
/-! draws -/
def Cup (S : Sto) : Prop := ∃ a b : Int, 0 ≤ a ∧ 0 ≤ b ∧ S = [.cell [.int a, .int b]]
theorem r_roll {n : Nat} (h : 1 ≤ n) (m : Int) (h0 : 0 < m) (h1 : m < 1073741824) (S : Sto) (hS : Cup S) : ∃ r S', run pg n 901 [.ref 0, .int m] S = .ok (.int r) S' ∧ Cup S' ∧ 0 ≤ r ∧ r < m := by
  obtain ⟨n, rfl⟩ := le_split h
  obtain ⟨a, b, ha, hb, rfl⟩ := hS
  rw [run_at pg n 901 _ b__law_roll rfl, runB_at _ _ _ _ rfl]
  by_cases hp : 0 < a
  · refine ⟨a % m, [.cell [.int (a / m), .int b]], ?_, ⟨a / m, b, Int.ediv_nonneg ha (by omega), hb, rfl⟩, Int.emod_nonneg _ (by omega), Int.emod_lt_of_pos _ h0⟩
    simp [b__law_roll, Vi.get, atRef, Vi.atI, Vi.ixN, setRef, put, hp, h0, h1]
  · have hmul : mulOk b 24317 = true := by rw [mulOk_eq]; simp
    refine ⟨(b * 24317 + 50471) % 1048576 / 149 % m, [.cell [.int a, .int ((b * 24317 + 50471) % 1048576)]], ?_, ⟨a, _, ha, Int.emod_nonneg _ (by omega), rfl⟩, Int.emod_nonneg _ (by omega), Int.emod_lt_of_pos _ h0⟩
    simp [b__law_roll, Vi.get, atRef, Vi.atI, Vi.ixN, setRef, put, hp, h0, h1, hmul]
theorem r_cup {n : Nat} (h : 1 ≤ n) (ns : List Int) (hl : ns.length ≤ 63) : ∃ S', run pg n 900 [.scr (ns.map P.int)] [] = .ok (.ref 0) S' ∧ Cup S' := by
  obtain ⟨n, rfl⟩ := le_split h
  rw [run_at pg n 900 _ b__law_cup rfl, runB_at _ _ _ _ rfl]
  obtain ⟨v, hv⟩ : ∃ v : Int, Vi.atI (ns.map P.int ++ [.int 0]) 0 = some (.int v) := by
    cases ns with
    | nil => exact ⟨0, rfl⟩
    | cons z zs =>
      refine ⟨z, ?_⟩
      unfold Vi.atI Vi.ixN
      rw [if_pos (by omega), if_pos (by simp; omega)]
      rfl
  have hz : ns.length + 1 ≤ 16777216 := by omega
  have hz2 : ns.length ≤ 16777215 := by omega
  obtain ⟨a, ha, h0⟩ : ∃ a : Int, (if v < 0 then -v else v) = a ∧ 0 ≤ a := ⟨_, rfl, by split <;> omega⟩
  have hm : mulOk a 1097 = true := by rw [mulOk_eq]; simp
  by_cases hb : 1000000000000000000 ≤ a
  · refine ⟨[.cell [.int (a / 317), .int ((a * 1097 + 99721) % 1048576)]], ?_, _, _, Int.ediv_nonneg h0 (by omega), Int.emod_nonneg _ (by omega), rfl⟩
    simp [b__law_cup, Vi.get, put, hz, hz2, hv, ha, hb, hm, newRef]
  · refine ⟨[.cell [.int 0, .int ((a * 1097 + 99721) % 1048576)]], ?_, _, _, Int.le_refl 0, Int.emod_nonneg _ (by omega), rfl⟩
    simp [b__law_cup, Vi.get, put, hz, hz2, hv, ha, hb, hm, newRef]
/-! is_whole, is_tuple_of -/
theorem r_whole {n : Nat} (h : 1 ≤ n) (v lo hi : Int) (S : Sto) : run pg n 8 [.int v, .int lo, .int hi] S = .ok (.bl (decide (lo ≤ v) && decide (v ≤ hi))) S := by
  obtain ⟨m, rfl⟩ := le_split h
  rw [run_at pg m 8 _ b_is_whole rfl, runB_at _ _ _ _ rfl]
  by_cases h : lo ≤ v <;> simp [b_is_whole, Vi.get, h]
theorem r_tuple {n : Nat} (h : 1 ≤ n) (w : List P) (lo hi : Int) (S : Sto) : run pg n 10 [.tup w, .int lo, .int hi] S = .ok (.bl (decide (lo ≤ w.length) && decide ((w.length : Int) ≤ hi))) S := by
  obtain ⟨m, rfl⟩ := le_split h
  rw [run_at pg m 10 _ b_is_tuple_of rfl, runB_at _ _ _ _ rfl]
  by_cases h : lo ≤ w.length <;> simp [b_is_tuple_of, Vi.get, h]
theorem r_tuple_lst {n : Nat} (h : 1 ≤ n) (w : List P) (lo hi : Int) (S : Sto) : run pg n 10 [.lst w, .int lo, .int hi] S = .ok (.bl false) S := by
  obtain ⟨m, rfl⟩ := le_split h
  rw [run_at pg m 10 _ b_is_tuple_of rfl, runB_at _ _ _ _ rfl]
  simp [b_is_tuple_of, Vi.get]
theorem r_tuple_iT {n : Nat} (h : 1 ≤ n) (w : List Int) (lo hi : Int) (S : Sto) : run pg n 10 [iT w, .int lo, .int hi] S = .ok (.bl (decide (lo ≤ w.length) && decide ((w.length : Int) ≤ hi))) S := by
  have := r_tuple h (iL w) lo hi S
  rwa [iL_len] at this
theorem r_tuple_sT {n : Nat} (h : 1 ≤ n) (w : List (List Int)) (lo hi : Int) (S : Sto) : run pg n 10 [sT w, .int lo, .int hi] S = .ok (.bl (decide (lo ≤ w.length) && decide ((w.length : Int) ≤ hi))) S := by
  have := r_tuple h (sL w) lo hi S
  rwa [sL_len] at this
def chainB (ws : List (List Int)) : Bool := (List.range (ws.length - 1)).all fun k => lexI (ws.getD k []) (ws.getD (k + 1) [])
theorem chainB_of {ws : List (List Int)} (ha : Asc ws) : chainB ws = true := by
  unfold chainB
  rw [List.all_eq_true]
  intro k hk
  have hk := List.mem_range.mp hk
  have := List.pairwise_iff_getElem.mp ha k (k + 1) (by omega) (by omega) (by omega)
  simpa [show k < ws.length by omega, show k + 1 < ws.length by omega] using this
/-! sums over two elements: odd_ones -/
theorem odd_loop (d : Dn) (a : Sl) : ∀ (xs : List (List Int)) (c : Cnt) (t : Sl) (S : Sto), (c.map (·.1)).Nodup → c.length + xs.length ≤ 16000000 → notOwn t = true → ∃ t', notOwn t' = true ∧ forF (frF d (.n 2) l_odd_ones_1) (sL xs) [a, .own (.dct true (cK c) (cV c)), t] S = .ok (.nx [a, .own (.dct true (cK (counts c xs)) (cV (counts c xs))), t']) S
  | [], c, t, S, _, _, ht => ⟨t, ht, rfl⟩
  | x :: xs, c, t, S, nd, hl, _ => by
    obtain ⟨z, h1, h2, h3⟩ := dput_tog (w := x) nd
    rw [List.length_cons] at hl
    have := tog_len x c
    obtain ⟨t', hn, ht⟩ := odd_loop d a xs (tog x c) (.val (iT x)) S (tog_nodup nd) (by omega) rfl
    refine ⟨t', hn, ?_⟩
    rw [sL_cons, forF_at]
    have hk : (cK c).length < 16777216 := by rw [cK_len]; omega
    simp [l_odd_ones_1, put, Vi.get, getT, h1, h2, h3, hk]
    exact ht
theorem r_odd_onesV {n : Nat} (h : 1 ≤ n) (xs : List (List Int)) (hl : xs.length ≤ 16000000) (hn : ∀ w ∈ xs, w ≠ []) (v : P) (hv : items v = some (sL xs)) (S : Sto) : run pg n 526 [v] S = .ok (sT (oddOf xs)) S := by
  obtain ⟨m, rfl⟩ := le_split h
  rw [run_at pg m 526 _ b_odd_ones rfl, runB_at _ _ _ _ rfl]
  obtain ⟨t', hn', ht⟩ := odd_loop (dnD pg m) (.val v) xs [] .un S (by simp) (by simpa using hl) rfl
  have nd := counts_nodup (xs := xs) (c := []) (by simp)
  have hc : (counts [] xs).length ≤ 16000000 := by have := counts_len xs []; simp at this; omega
  simp [b_odd_ones, Vi.get, hv]
  rw [show ([] : List P) = cK [] from rfl]
  rw [show (P.dct true (cK []) (cK [])) = .dct true (cK []) (cV []) from rfl, ht]
  have hi : isOwn [.val v, .val (.dct true (cK (counts [] xs)) (cV (counts [] xs))), t'] 2 = false := isOwn_not rfl hn'
  simp [Vi.get, put, getT, hi]
  rw [compL_odds]
  · have hs := xop_sorted_sL (ws := odds xs) fun w hw => hn w (List.count_pos_iff.mp (by rw [mem_odds] at hw; omega))
    unfold odds at hs
    simp [hs]
    rfl
  · intro p hp
    have := find_nodup nd hp
    simp [c_odd_ones_1, q_odd_ones_1, put, Vi.get, getT, dget_cnt, this]
    cases p.2 <;> simp
theorem r_odd_ones {n : Nat} (h : 1 ≤ n) (xs : List (List Int)) (hl : xs.length ≤ 16000000) (hn : ∀ w ∈ xs, w ≠ []) (S : Sto) : run pg n 526 [sT xs] S = .ok (sT (oddOf xs)) S := r_odd_onesV h xs hl hn _ rfl S
theorem r_odd_onesL {n : Nat} (h : 1 ≤ n) (xs : List (List Int)) (hl : xs.length ≤ 16000000) (hn : ∀ w ∈ xs, w ≠ []) (S : Sto) : run pg n 526 [.lst (sL xs)] S = .ok (sT (oddOf xs)) S := r_odd_onesV h xs hl hn _ rfl S
/-! odd numbers of choices -/
def oddB (m s : Nat) : Bool := decide (s ≤ m) && decide ((m &&& s) = s)
theorem band_nat (m s : Nat) : Builtin.bitAnd (m : Int) (s : Int) = ((m &&& s : Nat) : Int) := by
  unfold Builtin.bitAnd
  simp
theorem r_odd {n : Nat} (h : 1 ≤ n) (m s : Nat) (S : Sto) : run pg n 610 [.int m, .int s] S = .ok (.bl (oddB m s)) S := by
  obtain ⟨k, rfl⟩ := le_split h
  rw [run_at pg k 610 _ b_is_odd rfl, runB_at _ _ _ _ rfl]
  have h0 : (0 : Int) ≤ s := by omega
  unfold oddB
  by_cases h : s ≤ m
  · have h3 : (((m &&& s : Nat) : Int) == (s : Int)) = decide (m &&& s = s) := by
      rw [Bool.beq_eq_decide_eq]
      exact decide_eq_decide.mpr Int.ofNat_inj
    simp [b_is_odd, Vi.get, band_nat, h, h0, h3]
  · simp [b_is_odd, Vi.get, band_nat, h, h0]
/-! words -/
def okInt (v : Int) : Bool := decide (1 ≤ v) && decide (v ≤ 40)
def wordB (w : List Int) : Bool := decide (w.length ≤ 12) && w.all okInt && decide (w.sum ≤ 40)
theorem r_word {n : Nat} (h : 2 ≤ n) (w : List Int) (S : Sto) : run pg n 605 [iT w] S = .ok (.bl (wordB w)) S := by
  obtain ⟨m, rfl⟩ := le_split h
  rw [run_at pg (m + 1) 605 _ b_is_word rfl, runB_at _ _ _ _ rfl]
  have h0 : (0 : Int) ≤ w.length := by omega
  unfold wordB
  by_cases hl : w.length ≤ 12
  · have hl' : (w.length : Int) ≤ 12 := by omega
    simp [b_is_word, Vi.get, dnD_F, r_tuple_iT, h0, hl', isOwn, hl]
    rw [compL_iLB okInt]
    · simp only [calmR_ok, then_ok, ap_pure, ap_bind, os_nil, blt_all, all_map, Option.map_some, all_id, ap_some]
      cases w.all okInt <;> simp [Vi.get]
    · intro v _
      simp [c_is_word_1, put, Vi.get, dnD_F, r_whole, okInt]
  · have hl' : ¬ (w.length : Int) ≤ 12 := by omega
    simp [b_is_word, Vi.get, dnD_F, r_tuple_iT, h0, hl', hl]
/-! polynomials -/
def termB (l : Int) (t : List Int) : Bool := (decide (l ≤ t.length) && decide ((t.length : Int) ≤ l)) && t.all fun v => decide (0 ≤ v) && decide (v ≤ 64)
def polyB (l : Int) (ts : List (List Int)) : Bool := ((decide (1 ≤ l) && decide (l ≤ 8)) && decide (ts.length ≤ 2000)) && ts.all (termB l) && chainB ts
@[simp] theorem at2_0 (a b : P) : atI [a, b] 0 = some a := rfl
@[simp] theorem at2_1 (a b : P) : atI [a, b] 1 = some b := rfl
theorem poly_loop (m : Nat) (v : Sl) (l : Int) (a : Sl) : ∀ (ts : List (List Int)) (t : Sl) (S : Sto), ∃ t', forF (frF (dnD pg (m + 1)) (.n 3) l_is_polynomial_1) (sL ts) [v, .val (.int l), a, t, .un, .un] S = if ts.all (termB l) then .ok (.nx [v, .val (.int l), a, t', .un, .un]) S else .ok (.rt (.bl false)) S
  | [], t, S => ⟨t, rfl⟩
  | x :: ts, t, S => by
    obtain ⟨t', h⟩ := poly_loop m v l a ts (.val (iT x)) S
    refine ⟨t', ?_⟩
    have e : compL (cmF (dnD pg (m + 1)) [v, .val (.int l), a, .val (iT x), .un, .un] (.n 4) .yes c_is_polynomial_1) (iL x) S = .ok (x.map fun y => .bl (decide (0 ≤ y) && decide (y ≤ 64))) S := compL_iLB _ fun y _ => by
      simp [c_is_polynomial_1, put, Vi.get, dnD_F, r_whole]
    rw [sL_cons, List.all_cons]
    cases h3 : termB l x with
    | false =>
      rw [forF_ret (v := .bl false) (S' := S)]
      · simp
      · unfold termB at h3
        cases h1 : (decide (l ≤ x.length) && decide ((x.length : Int) ≤ l)) with
        | false => simp [l_is_polynomial_1, put, Vi.get, dnD_F, r_tuple_iT, h1]
        | true =>
          rw [h1, Bool.true_and] at h3
          simp [l_is_polynomial_1, put, Vi.get, dnD_F, r_tuple_iT, h1, isOwn, e]
          simp only [all_map, Option.map_some, all_id, h3]
          simp
    | true =>
      rw [forF_step (ρ' := [v, .val (.int l), a, .val (iT x), .un, .un]) (S' := S), h, Bool.true_and]
      unfold termB at h3
      rw [Bool.and_eq_true] at h3
      simp [l_is_polynomial_1, put, Vi.get, dnD_F, r_tuple_iT, h3.1, isOwn, e]
      simp only [all_map, Option.map_some, all_id, h3.2]
      simp
theorem r_is_poly {n : Nat} (h : 2 ≤ n) (l : Int) (ts : List (List Int)) (S : Sto) : run pg n 224 [.tup [.int l, sT ts]] S = .ok (.bl (polyB l ts)) S := by
  obtain ⟨m, rfl⟩ := le_split h
  rw [run_at pg (m + 1) 224 _ b_is_polynomial rfl, runB_at _ _ _ _ rfl]
  have h0 : (0 : Int) ≤ ts.length := by omega
  obtain ⟨t', hl⟩ := poly_loop m (.val (.tup [.int l, sT ts])) l (.val (sT ts)) ts .un S
  unfold polyB
  cases h1 : (decide (1 ≤ l) && decide (l ≤ 8)) with
  | false => simp [b_is_polynomial, Vi.get, dnD_F, r_tuple, r_whole, h1]
  | true =>
    by_cases h2 : ts.length ≤ 2000
    · have h2' : (ts.length : Int) ≤ 2000 := by omega
      have b1 : -bigI ≤ (ts.length : Int) - 1 := by unfold bigI; omega
      have b2 : (ts.length : Int) - 1 ≤ 16777216 := by omega
      have b3 : ((ts.length : Int) - 1).toNat = ts.length - 1 := by omega
      simp [b_is_polynomial, Vi.get, put, dnD_F, r_tuple, r_whole, r_tuple_sT, h1, h2, h2', h0]
      rw [hl]
      cases h3 : ts.all (termB l) with
      | false => simp
      | true =>
        simp [Vi.get, isOwn, b1, b2, b3]
        rw [compL_rangeB (g := fun k => lexI (ts.getD k []) (ts.getD (k + 1) []))]
        · simp only [calmR_ok, then_ok, ap_pure, ap_bind, os_nil, blt_all, all_map, Option.map_some, all_id, ap_some]
          rfl
        · intro k hk
          simp [c_is_polynomial_2, put, Vi.get, atI_sL k (show k < ts.length by omega), atI_sL1 k (show k + 1 < ts.length by omega)]
    · have h2' : ¬ (ts.length : Int) ≤ 2000 := by omega
      simp [b_is_polynomial, Vi.get, dnD_F, r_tuple, r_whole, r_tuple_sT, h1, h2, h2', h0]
theorem r_need_poly {n : Nat} (h : 3 ≤ n) (l : Int) (ts : List (List Int)) (S : Sto) : run pg n 225 [.tup [.int l, sT ts]] S = if polyB l ts then .ok .non S else .err ⟨8, .non⟩ S := by
  obtain ⟨m, rfl⟩ := le_split h
  rw [run_at pg (m + 2) 225 _ b_need_polynomial rfl, runB_at _ _ _ _ rfl]
  cases hw : polyB l ts <;> simp [b_need_polynomial, Vi.get, dnD_F, r_is_poly, hw]
theorem polyB_pos {l ts} (h : polyB l ts = true) : 1 ≤ l ∧ l ≤ 8 ∧ ts.length ≤ 2000 ∧ ∀ t ∈ ts, (t.length : Int) = l := by
  unfold polyB at h
  simp only [Bool.and_eq_true, decide_eq_true_eq, List.all_eq_true] at h
  obtain ⟨⟨⟨⟨h1, h2⟩, h3⟩, h4⟩, _⟩ := h
  refine ⟨h1, h2, h3, fun t ht => ?_⟩
  have := h4 t ht
  unfold termB at this
  simp only [Bool.and_eq_true, decide_eq_true_eq] at this
  omega
theorem polyB_ne {l ts} (h : polyB l ts = true) : ∀ t ∈ ts, t ≠ [] := fun t ht e => by
  have := (polyB_pos h).2.2.2 t ht
  have := (polyB_pos h).1
  subst e
  simp at *
  omega
def nL (ws : List Nat) : List Int := ws.map fun k : Nat => (k : Int)
theorem r_need_whole {n : Nat} (h : 2 ≤ n) (v lo hi : Int) (h1 : lo ≤ v) (h2 : v ≤ hi) (S : Sto) : run pg n 9 [.int v, .int lo, .int hi] S = .ok .non S := by
  obtain ⟨m, rfl⟩ := le_split h
  rw [run_at pg (m + 1) 9 _ b_need_whole rfl, runB_at _ _ _ _ rfl]
  simp [b_need_whole, Vi.get, dnD_F, r_whole, h1, h2]
theorem r_need_number {n : Nat} (h : 3 ≤ n) (v : Int) (h1 : 0 ≤ v) (h2 : v ≤ 64) (S : Sto) : run pg n 417 [.int v] S = .ok .non S := by
  obtain ⟨m, rfl⟩ := le_split h
  rw [run_at pg (m + 2) 417 _ b_need_number rfl, runB_at _ _ _ _ rfl]
  simp [b_need_number, Vi.get, dnD_F, r_need_whole, h1, h2]
theorem r_need_exponent {n : Nat} (h : 3 ≤ n) (v : Int) (h1 : 0 ≤ v) (h2 : v ≤ 64) (S : Sto) : run pg n 158 [.int v] S = .ok .non S := by
  obtain ⟨m, rfl⟩ := le_split h
  rw [run_at pg (m + 2) 158 _ b_need_exponent rfl, runB_at _ _ _ _ rfl]
  simp [b_need_exponent, Vi.get, dnD_F, r_need_whole, h1, h2]
theorem r_odd_choice {n : Nat} (h : 2 ≤ n) (m s : Nat) (hm : m ≤ 1000000) (hs : s ≤ 1000000) (S : Sto) : run pg n 611 [.int m, .int s] S = .ok (.bl (oddB m s)) S := by
  obtain ⟨k, rfl⟩ := le_split h
  rw [run_at pg (k + 1) 611 _ b_is_odd_choice rfl, runB_at _ _ _ _ rfl]
  have h1 : (m : Int) ≤ 1000000 := by omega
  have h2 : (s : Int) ≤ 1000000 := by omega
  simp [b_is_odd_choice, Vi.get, dnD_F, r_whole, r_odd, h1, h2]
/-! rows of choices -/
def nextW (row : List Int) : List Int := 1 :: List.zipWith (fun a b => (a + b) % 2) row row.tail ++ [1]
def canW (e : Nat) : List Int := (List.range (e + 1)).map fun n => if oddB e n then 1 else 0
theorem canW_next : ∀ e, e < 64 → nextW (canW e) = canW (e + 1) := by
  have h : (List.range 64).all (fun e => decide (nextW (canW e) = canW (e + 1))) = true := by kernel_rfl
  intro e he
  exact of_decide_eq_true (List.all_eq_true.mp h e (List.mem_range.mpr he))
theorem slice_tail (row : List Int) : slice (.lst (iL row)) (some 1) none = some (.lst (iL row.tail)) := by
  show some (P.lst (cut (iL row) (some 1) none)) = _
  unfold cut sIx
  cases row with
  | nil => rfl
  | cons a r =>
    simp
    rw [List.take_of_length_le (by simp)]
theorem ways_loop (d : Dn) (v : Sl) : ∀ (xs : List P) (e : Nat) (t : Sl) (S : Sto), e + xs.length ≤ 64 → ∃ t', forF (frF d (.n 2) l__law_ways_1) xs [v, .val (.lst (iL (canW e))), t, .un, .un] S = .ok (.nx [v, .val (.lst (iL (canW (e + xs.length)))), t', .un, .un]) S
  | [], e, t, S, _ => ⟨t, rfl⟩
  | x :: xs, e, t, S, hl => by
    rw [List.length_cons] at hl
    obtain ⟨t', h⟩ := ways_loop d v xs (e + 1) (.val x) S (by omega)
    refine ⟨t', ?_⟩
    rw [forF_step (ρ' := [v, .val (.lst (iL (canW (e + 1)))), .val x, .un, .un]) (S' := S), h]
    · rw [List.length_cons, show e + 1 + xs.length = e + (xs.length + 1) by omega]
    · have hc : (canW e).length = e + 1 := by simp [canW]
      have e1 : (List.zipWith (fun a b => (a + b) % 2) (canW e) (canW e).tail).length = e := by simp [hc]
      simp [l__law_ways_1, put, Vi.get, isOwn, slice_tail]
      rw [compL_zipI (fun a b => (a + b) % 2)]
      · have z1 : 1 + e ≤ 16777216 := by omega
        have z2 : e + 1 + 1 ≤ 16777216 := by omega
        have z3 : 1 + e + 1 ≤ 16777216 := by omega
        have z4 : e + 1 ≤ 16777216 := by omega
        simp [e1, z1, z2, z3, z4]
        rw [← canW_next e (by omega)]
        unfold nextW
        simp
      · intro a b
        simp [c__law_ways_1, pairP, put, Vi.get]
theorem r_ways {n : Nat} (h : 1 ≤ n) (e : Nat) (he : e ≤ 64) (S : Sto) : run pg n 1000 [.int e] S = .ok (.lst (iL (canW e))) S := by
  obtain ⟨m, rfl⟩ := le_split h
  rw [run_at pg m 1000 _ b__law_ways rfl, runB_at _ _ _ _ rfl]
  obtain ⟨t', hl⟩ := ways_loop (dnD pg m) (.val (.int e)) (rangeL 0 e) 0 .un S (by simp [rangeL]; omega)
  have h1 : -bigI ≤ (e : Int) := by unfold bigI; omega
  have h2 : (e : Int) ≤ 16777216 := by omega
  have h3 : (rangeL 0 e).length = e := by simp [rangeL]
  rw [h3, Nat.zero_add] at hl
  have h4 : iL (canW 0) = [.int 1] := by kernel_rfl
  rw [h4] at hl
  simp [b__law_ways, Vi.get, put, h1, h2, hl]
theorem canW_at {e n : Nat} (h : n ≤ e) : atI (iL (canW e)) (n : Int) = some (.int (if oddB e n then 1 else 0)) := by
  have hc : (canW e).length = e + 1 := by simp [canW]
  rw [atI_iL n (by omega)]
  unfold canW
  have : n < e + 1 := by omega
  simp [this]
/-! squares of one letter -/
def sqP (n e : Nat) : Option Nat := if oddB e n then some (e + n) else none
def optP : Option Nat → P
  | some e => .int e
  | none => .non
@[simp] theorem optP_some (e : Nat) : optP (some e) = .int e := rfl
@[simp] theorem optP_none : optP none = .non := rfl
theorem oddB_le {m s : Nat} (h : oddB m s = true) : s ≤ m := by
  unfold oddB at h
  simp at h
  exact h.1
theorem r_power {n : Nat} (h : 2 ≤ n) (k e : Nat) (S : Sto) : run pg n 156 [.int k, .int e] S = .ok (optP (sqP k e)) S := by
  obtain ⟨m, rfl⟩ := le_split h
  rw [run_at pg (m + 1) 156 _ b_power_squared rfl, runB_at _ _ _ _ rfl]
  unfold sqP
  cases hb : oddB e k <;> simp [b_power_squared, Vi.get, dnD_F, r_odd, hb]
theorem r_letter_square {n : Nat} (h : 4 ≤ n) (k e : Nat) (hk : k ≤ 64) (he : e ≤ 64) (S : Sto) : run pg n 159 [.int k, .int e] S = .ok (optP (sqP k e)) S := by
  obtain ⟨m, rfl⟩ := le_split h
  rw [run_at pg (m + 3) 159 _ b_letter_square rfl, runB_at _ _ _ _ rfl]
  have h1 : (k : Int) ≤ 64 := by omega
  have h2 : (e : Int) ≤ 64 := by omega
  simp [b_letter_square, Vi.get, dnD_F, r_need_number, r_need_exponent, r_power, h1, h2]
/-- a word on a power -/
def ledF (ws : List Nat) (o : Option Nat) : Option Nat := ws.foldr (fun n a => a.bind (sqP n)) o
def ledR (rs : List Nat) (o : Option Nat) : Option Nat := rs.foldl (fun a n => a.bind (sqP n)) o
theorem ledR_rev (ws : List Nat) (o : Option Nat) : ledR ws.reverse o = ledF ws o := by unfold ledR ledF; rw [List.foldl_reverse]
theorem rev_nL (ws : List Nat) : revP (iT (nL ws)) = some (iT (nL ws.reverse)) := by
  show some (P.tup (iL (nL ws)).reverse) = some (P.tup (iL (nL ws.reverse)))
  simp [iL, nL]
theorem led_loop (m : Nat) (v0 v1 : Sl) : ∀ (rs : List Nat) (o : Option Nat) (t : Sl) (S : Sto), ∃ t', forF (frF (dnD pg (m + 2)) (.n 3) l_power_led_1) (iL (nL rs)) [v0, v1, .val (optP o), t] S = .ok (.nx [v0, v1, .val (optP (ledR rs o)), t']) S
  | [], o, t, S => ⟨t, rfl⟩
  | x :: rs, o, t, S => by
    obtain ⟨t', h⟩ := led_loop m v0 v1 rs (o.bind (sqP x)) (.val (.int x)) S
    refine ⟨t', ?_⟩
    rw [show iL (nL (x :: rs)) = .int x :: iL (nL rs) from rfl, forF_step (ρ' := [v0, v1, .val (optP (o.bind (sqP x))), .val (.int x)]) (S' := S), h]
    · rfl
    · cases o with
      | none => simp [l_power_led_1, put, Vi.get]
      | some e => simp [l_power_led_1, put, Vi.get, dnD_F, r_power]
theorem r_power_led {n : Nat} (h : 3 ≤ n) (ws : List Nat) (e : Nat) (S : Sto) : run pg n 157 [iT (nL ws), .int e] S = .ok (optP (ledF ws (some e))) S := by
  obtain ⟨m, rfl⟩ := le_split h
  rw [run_at pg (m + 2) 157 _ b_power_led rfl, runB_at _ _ _ _ rfl]
  obtain ⟨t', hl⟩ := led_loop m (.val (iT (nL ws))) (.val (.int e)) ws.reverse (some e) .un S
  rw [ledR_rev] at hl
  simp [b_power_led, Vi.get, put, rev_nL]
  rw [optP_some] at hl
  rw [hl]
  simp [Vi.get]
theorem minI_nat (a b : Nat) : minI (a : Int) (b : Int) = ((min a b : Nat) : Int) := by
  unfold minI
  split <;> omega
theorem compL_rangeQ {f : P → M (Option P)} {S : Sto} {n : Nat} (g : Nat → Bool) (h : ∀ k, k < n → f (.int (k : Nat)) S = .ok (if g k then some (.int (k : Nat)) else none) S) : compL f (rangeL 0 n) S = .ok (iL (nL ((List.range n).filter g))) S := by
  have e := compL_fm (e := fun k : Nat => P.int (k : Int)) (e' := fun k : Nat => P.int (k : Int)) (g := fun k => if g k then some k else none) (f := f) (S := S) (xs := List.range n) fun k hk => by
    rw [h k (List.mem_range.mp hk)]
    cases g k <;> rfl
  have e2 : ∀ l : List Nat, (l.filterMap fun v => if g v then some v else none) = l.filter g := fun l => by
    induction l with
    | nil => rfl
    | cons v ws ih =>
      rw [List.filterMap_cons, List.filter_cons, ih]
      cases g v <;> rfl
  rw [e2] at e
  have e3 : rangeL 0 n = (List.range n).map fun k : Nat => P.int (k : Int) := by
    unfold rangeL
    exact List.map_congr_left fun k _ => by simp
  rw [e3, e]
  simp [iL, nL]
theorem filter_one {L : List Nat} (nd : L.Nodup) (n : Nat) : L.filter (fun p => decide (p = n)) = if n ∈ L then [n] else [] := by
  induction L with
  | nil => rfl
  | cons x L ih =>
    rw [List.nodup_cons] at nd
    rw [List.filter_cons, ih nd.2]
    by_cases h : x = n
    · subst h
      simp [nd.1]
    · have h' : ¬ n = x := fun e => h e.symm
      simp [h, h']
theorem rng1_nat (k : Nat) (h : k ≤ 16777216) : rng1 (.int (k : Int)) = some (rangeL 0 k) := by
  have h1 : -bigI ≤ (k : Int) := by unfold bigI; omega
  have h2 : (k : Int) ≤ ((lim : Nat) : Int) := by show (k : Int) ≤ 16777216; omega
  rw [rng1_int, decide_eq_true h1, decide_eq_true h2]
  simp
def optS : Option Nat → List (List Int)
  | some e => [[(e : Int)]]
  | none => []
theorem r_shared {n : Nat} (h : 2 ≤ n) (k e : Nat) (hk : k ≤ 1000) (he : e ≤ 1000) (S : Sto) : run pg n 418 [.int k, iT [(e : Int)]] S = .ok (.lst (sL (optS (sqP k e)))) S := by
  obtain ⟨m, rfl⟩ := le_split h
  rw [run_at pg (m + 1) 418 _ b_shared_out rfl, runB_at _ _ _ _ rfl]
  obtain ⟨q, hq⟩ : ∃ q, min e k = q := ⟨_, rfl⟩
  have hz : minI (e : Int) (k : Int) = (q : Int) := by rw [minI_nat, hq]
  have hr : rng1 (.int ((q : Int) + 1)) = some (rangeL 0 (q + 1)) := rng1_nat (q + 1) (by omega)
  simp [b_shared_out, Vi.get, put]
  rw [forF_at]
  simp [l_shared_out_2, Vi.get, put]
  rw [forF_at]
  simp [-rng1_int, l_shared_out_1, Vi.get, put, isOwn]
  rw [hz, hr]
  simp only [ap_some, then_ok, ap_bind, calm_ap]
  rw [compL_rangeQ (oddB e) (fun j _ => by
    simp [q_shared_out_1, c_shared_out_1, put, Vi.get, dnD_F, r_odd]
    split <;> simp [Vi.get])]
  obtain ⟨L, hL⟩ : ∃ L, (List.range (q + 1)).filter (oddB e) = L := ⟨_, rfl⟩
  have nd : L.Nodup := by rw [← hL]; exact List.filter_sublist.nodup List.nodup_range
  have len : L.length ≤ 1001 := by
    rw [← hL]
    refine Nat.le_trans (List.length_filter_le _ _) ?_
    rw [List.length_range]
    omega
  have mem : k ∈ L ↔ oddB e k = true := by
    rw [← hL, List.mem_filter, List.mem_range]
    constructor
    · exact fun h => h.2
    · intro h
      have := oddB_le h
      exact ⟨by omega, h⟩
  rw [hL]
  simp only [calmR_ok, then_ok, ap_pure, ap_bind]
  simp [Vi.get, put, isOwn]
  rw [show iL (nL L) = L.map (fun p : Nat => P.int (p : Int)) from by simp [iL, nL]]
  have e1 := compL_fm (e := fun p : Nat => P.int (p : Int)) (e' := fun p : Nat => P.tup [.tup [.int ((e : Int) + p)], .int p]) (g := fun p => some p) (f := cmF (dnD pg (m + 1)) [.val (.int k), .val (iT [(e : Int)]), .val (.lst [.tup [.tup [], .int 0]]), .val (.int e), .val (.lst []), .val (.tup []), .val (.int 0), .val (.lst (L.map fun p : Nat => P.int (p : Int))), .un] (.n 8) .yes c_shared_out_3) (S := S) (xs := L) fun p _ => by
    simp [c_shared_out_3, put, Vi.get]
  rw [List.filterMap_some] at e1
  rw [e1]
  have l1 : L.length ≤ 16777216 := by omega
  have fn : ∀ (b : P → Vi.Env → M Fl) (ρ : Vi.Env) (S : Sto), forF b [] ρ S = .ok (.nx ρ) S := fun b ρ S => rfl
  simp [Vi.get, put, isOwn, l1, fn]
  have e2 := compL_fm (e := fun p : Nat => P.tup [.tup [.int ((e : Int) + p)], .int p]) (e' := fun p : Nat => P.tup [.int ((e : Int) + p)]) (g := fun p => if decide (p = k) then some p else none) (f := cmF (dnD pg (m + 1)) [.val (.int k), .val (iT [(e : Int)]), .val (.lst (L.map fun p : Nat => P.tup [.tup [.int ((e : Int) + p)], .int p])), .val (.int e), .val (.lst (L.map fun p : Nat => P.tup [.tup [.int ((e : Int) + p)], .int p])), .un, .un, .val (.lst (L.map fun p : Nat => P.int (p : Int))), .un] (.t [5, 6]) q_shared_out_4 c_shared_out_4) (S := S) (xs := L) fun p _ => by
    have : ((p : Int) == (k : Int)) = decide (p = k) := by rw [Bool.beq_eq_decide_eq]; exact decide_eq_decide.mpr Int.ofNat_inj
    simp [q_shared_out_4, c_shared_out_4, put, Vi.get, this]
    split <;> simp [Vi.get]
  have e3 : ∀ l : List Nat, (l.filterMap fun p => if decide (p = k) then some p else none) = l.filter fun p => decide (p = k) := fun l => by
    induction l with
    | nil => rfl
    | cons v ws ih =>
      rw [List.filterMap_cons, List.filter_cons, ih]
      by_cases h : v = k <;> simp [h]
  rw [e3, filter_one nd] at e2
  rw [e2]
  unfold sqP
  cases hb : oddB e k with
  | true => rw [if_pos (mem.mpr hb)]; simp [optS, iT]
  | false =>
    rw [if_neg (fun z => by rw [mem.mp z] at hb; cases hb)]
    simp [optS]
theorem r_need_word {n : Nat} (h : 3 ≤ n) (w : List Int) (hw : wordB w = true) (S : Sto) : run pg n 606 [iT w] S = .ok .non S := by
  obtain ⟨m, rfl⟩ := le_split h
  rw [run_at pg (m + 2) 606 _ b_need_word rfl, runB_at _ _ _ _ rfl]
  simp [b_need_word, Vi.get, dnD_F, r_word, hw]
theorem optS_asc (o : Option Nat) : Asc (optS o) := by
  cases o <;> simp [optS]
theorem optS_len (o : Option Nat) : (optS o).length ≤ 1 := by
  cases o <;> simp [optS]
theorem optS_ne (o : Option Nat) : ∀ w ∈ optS o, w ≠ [] := by
  cases o <;> simp [optS]
/-- no more than that -/
def atMost (b : Nat) : Option Nat → Prop
  | some e => e ≤ b
  | none => True
theorem atMost.sq {b k : Nat} {o : Option Nat} (h : atMost b o) : atMost (b + k) (o.bind (sqP k)) := by
  cases o with
  | none => trivial
  | some e =>
    have h : e ≤ b := h
    show atMost (b + k) (sqP k e)
    unfold sqP
    split
    · show e + k ≤ b + k
      omega
    · trivial
theorem r_square_in {n : Nat} (h : 3 ≤ n) (k : Nat) (o : Option Nat) (hk : k ≤ 1000) (ho : atMost 1000 o) (S : Sto) : run pg n 419 [.int k, sT (optS o)] S = .ok (sT (optS (o.bind (sqP k)))) S := by
  obtain ⟨m, rfl⟩ := le_split h
  rw [run_at pg (m + 2) 419 _ b_square_in_squares rfl, runB_at _ _ _ _ rfl]
  have fn : ∀ (b : P → Vi.Env → M Fl) (ρ : Vi.Env) (S : Sto), forF b [] ρ S = .ok (.nx ρ) S := fun b ρ S => rfl
  cases o with
  | none =>
    have e := r_odd_onesL (n := m + 2) (by omega) [] (by simp) (by simp) S
    rw [oddOf_id List.Pairwise.nil] at e
    rw [sL_nil] at e
    simp [b_square_in_squares, Vi.get, put, optS, fn, dnD_F, e]
  | some e =>
    have he : e ≤ 1000 := ho
    have hs := fun S => r_shared (n := m + 2) (by omega) k e hk he S
    have ho := r_odd_onesL (n := m + 2) (by omega) (optS (sqP k e)) (by have := optS_len (sqP k e); omega) (optS_ne _) S
    rw [oddOf_id (optS_asc _)] at ho
    have hl := optS_len (sqP k e)
    have hl2 : (optS (sqP k e)).length ≤ 16777216 := by omega
    rw [show optS (some e) = [[(e : Int)]] from rfl]
    simp [b_square_in_squares, Vi.get, put]
    rw [forF_at]
    simp [l_square_in_squares_1, Vi.get, put, dnD_F, hs, hl2, fn, ho]
theorem poly_one (e : Nat) (he : e ≤ 64) : polyB 1 [[(e : Int)]] = true := by
  unfold polyB
  have : termB 1 [(e : Int)] = true := by
    unfold termB
    simp
    omega
  simp [this, chainB]
theorem r_square_of {n : Nat} (h : 4 ≤ n) (k e : Nat) (hk : k ≤ 64) (he : e ≤ 64) (S : Sto) : run pg n 422 [.int k, .tup [.int 1, sT [[(e : Int)]]]] S = .ok (.tup [.int 1, sT (optS (sqP k e))]) S := by
  obtain ⟨m, rfl⟩ := le_split h
  rw [run_at pg (m + 3) 422 _ b_square_of rfl, runB_at _ _ _ _ rfl]
  have h1 : (k : Int) ≤ 64 := by omega
  have hs : ∀ S, run pg (m + 3) 419 [.int k, sT [[(e : Int)]]] S = .ok (sT (optS (sqP k e))) S := fun S => r_square_in (n := m + 3) (by omega) k (some e) (by omega) (show e ≤ 1000 by omega) S
  simp [b_square_of, Vi.get, dnD_F, r_need_number, h1, r_need_poly, poly_one e he, hs]
theorem r_letter_word {n : Nat} (h : 4 ≤ n) (ws : List Nat) (e : Nat) (hw : wordB (nL ws) = true) (he : e ≤ 64) (S : Sto) : run pg n 160 [iT (nL ws), .int e] S = .ok (optP (ledF ws (some e))) S := by
  obtain ⟨m, rfl⟩ := le_split h
  rw [run_at pg (m + 3) 160 _ b_letter_word rfl, runB_at _ _ _ _ rfl]
  have h2 : (e : Int) ≤ 64 := by omega
  simp [b_letter_word, Vi.get, dnD_F, r_need_word, hw, r_need_exponent, r_power_led, h2]
theorem atI_lastP (acc : List P) (x : P) : atI (acc ++ [x]) (-1) = some x := by
  unfold atI ixN
  have h1 : ¬ (0 : Int) ≤ -1 := by omega
  have h2 : -(((acc ++ [x]).length : Nat) : Int) ≤ -1 := by rw [List.length_append, List.length_singleton]; omega
  rw [if_neg h1, if_pos h2]
  have h3 : (-1 + (((acc ++ [x]).length : Nat) : Int)).toNat = acc.length := by rw [List.length_append, List.length_singleton]; omega
  simp only [Option.bind_some, h3]
  simp
theorem stages_loop (m : Nat) (v0 v1 : Sl) : ∀ (rs : List Nat) (acc : List P) (o : Option Nat) (b : Nat) (t : Sl) (S : Sto), acc.length + rs.length ≤ 10000 → atMost b o → b + rs.sum ≤ 1000 → ∃ t' acc', forF (frF (dnD pg (m + 3)) (.n 3) l_stages_in_1) (iL (nL rs)) [v0, v1, .own (.lst (acc ++ [sT (optS o)])), t] S = .ok (.nx [v0, v1, .own (.lst (acc' ++ [sT (optS (ledR rs o))])), t']) S
  | [], acc, o, b, t, S, _, _, _ => ⟨t, acc, rfl⟩
  | x :: rs, acc, o, b, t, S, hl, hb, hs => by
    rw [List.length_cons] at hl
    rw [List.sum_cons] at hs
    have ho : atMost 1000 o := by
      cases o with
      | none => trivial
      | some e => exact Nat.le_trans (show e ≤ b from hb) (by omega)
    obtain ⟨t', acc', h⟩ := stages_loop m v0 v1 rs (acc ++ [sT (optS o)]) (o.bind (sqP x)) (b + x) (.val (.int x)) S (by simp; omega) hb.sq (by omega)
    refine ⟨t', acc', ?_⟩
    rw [show iL (nL (x :: rs)) = .int x :: iL (nL rs) from rfl, forF_step (ρ' := [v0, v1, .own (.lst ((acc ++ [sT (optS o)]) ++ [sT (optS (o.bind (sqP x)))])), .val (.int x)]) (S' := S), h]
    · rfl
    · have hq := fun S => r_square_in (n := m + 3) (by omega) x o (by omega) ho S
      have hz : acc.length + 1 < 16777216 := by omega
      simp [l_stages_in_1, put, Vi.get, getT, atI_lastP, dnD_F, hq, hz]
theorem r_word_in {n : Nat} (h : 5 ≤ n) (ws : List Nat) (e : Nat) (hl : ws.length ≤ 1000) (hs : e + ws.sum ≤ 1000) (S : Sto) : run pg n 701 [iT (nL ws), sT (optS (some e))] S = .ok (sT (optS (ledF ws (some e)))) S := by
  obtain ⟨m, rfl⟩ := le_split h
  rw [run_at pg (m + 4) 701 _ b_word_in_actedwords rfl, runB_at _ _ _ _ rfl]
  obtain ⟨t', acc', hl⟩ := stages_loop m (.val (iT (nL ws))) (.val (sT (optS (some e)))) ws.reverse [] (some e) e .un S (by simp; omega) (Nat.le_refl e) (by rw [List.sum_reverse]; omega)
  rw [ledR_rev, List.nil_append] at hl
  have hst : run pg (m + 4) 700 [iT (nL ws), sT (optS (some e))] S = .ok (.lst (acc' ++ [sT (optS (ledF ws (some e)))])) S := by
    rw [run_at pg (m + 3) 700 _ b_stages_in rfl, runB_at _ _ _ _ rfl]
    simp [b_stages_in, Vi.get, put, rev_nL, hl]
  simp [b_word_in_actedwords, Vi.get, dnD_F, hst, atI_lastP]
theorem r_act_word {n : Nat} (h : 6 ≤ n) (ws : List Nat) (e : Nat) (hw : wordB (nL ws) = true) (he : e ≤ 64) (hl : ws.length ≤ 1000) (hs : e + ws.sum ≤ 1000) (S : Sto) : run pg n 704 [iT (nL ws), .tup [.int 1, sT [[(e : Int)]]]] S = .ok (.tup [.int 1, sT (optS (ledF ws (some e)))]) S := by
  obtain ⟨m, rfl⟩ := le_split h
  rw [run_at pg (m + 5) 704 _ b_act_word rfl, runB_at _ _ _ _ rfl]
  have hi : ∀ S, run pg (m + 5) 701 [iT (nL ws), sT [[(e : Int)]]] S = .ok (sT (optS (ledF ws (some e)))) S := fun S => r_word_in (n := m + 5) (by omega) ws e hl hs S
  simp [b_act_word, Vi.get, dnD_F, r_need_word, hw, r_need_poly, poly_one e he, hi]
/-! the law's own -/
theorem due_sq (k e : Nat) : (if (k : Int) ≤ (e : Int) ∧ (if oddB e k then (1 : Int) else 0) = 1 then P.int ((e : Int) + k) else P.non) = optP (sqP k e) := by
  unfold sqP
  cases hb : oddB e k with
  | true =>
    have := oddB_le hb
    have : (k : Int) ≤ (e : Int) := by omega
    simp [this]
  | false => simp
theorem lled_loop (m : Nat) (v0 v1 : Sl) : ∀ (rs : List Nat) (o : Option Nat) (b : Nat) (t3 t4 : Sl) (S : Sto), atMost b o → b + rs.sum ≤ 64 → ∃ t3' t4', forF (frF (dnD pg (m + 1)) (.n 3) l__law_led_1) (iL (nL rs)) [v0, v1, .val (optP o), t3, t4] S = .ok (.nx [v0, v1, .val (optP (ledR rs o)), t3', t4']) S
  | [], o, b, t3, t4, S, _, _ => ⟨t3, t4, rfl⟩
  | x :: rs, o, b, t3, t4, S, hb, hs => by
    rw [List.sum_cons] at hs
    cases o with
    | none =>
      obtain ⟨t3', t4', h⟩ := lled_loop m v0 v1 rs none (b + x) (.val (.int x)) t4 S trivial (by omega)
      refine ⟨t3', t4', ?_⟩
      rw [show iL (nL (x :: rs)) = .int x :: iL (nL rs) from rfl, forF_step (ρ' := [v0, v1, .val (optP none), .val (.int x), t4]) (S' := S), h]
      · rfl
      · simp [l__law_led_1, put, Vi.get]
    | some e =>
      have he : e ≤ b := hb
      obtain ⟨t3', t4', h⟩ := lled_loop m v0 v1 rs (sqP x e) (b + x) (.val (.int x)) (.val (.lst (iL (canW e)))) S (atMost.sq (o := some e) hb) (by omega)
      refine ⟨t3', t4', ?_⟩
      rw [show iL (nL (x :: rs)) = .int x :: iL (nL rs) from rfl, forF_step (ρ' := [v0, v1, .val (optP (sqP x e)), .val (.int x), .val (.lst (iL (canW e)))]) (S' := S), h]
      · rfl
      · have hw := fun S => r_ways (n := m + 1) (by omega) e (by omega) S
        by_cases hx : x ≤ e
        · have hx' : (x : Int) ≤ (e : Int) := by omega
          have ha := canW_at hx
          unfold sqP
          cases hb : oddB e x <;> simp [l__law_led_1, put, Vi.get, dnD_F, hw, hx', hx, ha, hb]
        · have hx' : ¬ (x : Int) ≤ (e : Int) := by omega
          have hb : oddB e x = false := by unfold oddB; simp [hx]
          unfold sqP
          simp [l__law_led_1, put, Vi.get, dnD_F, hw, hx', hx, hb]
theorem r_lled {n : Nat} (h : 2 ≤ n) (ws : List Nat) (e : Nat) (hs : e + ws.sum ≤ 64) (S : Sto) : run pg n 1003 [iT (nL ws), .int e] S = .ok (optP (ledF ws (some e))) S := by
  obtain ⟨m, rfl⟩ := le_split h
  rw [run_at pg (m + 1) 1003 _ b__law_led rfl, runB_at _ _ _ _ rfl]
  obtain ⟨t3, t4, hl⟩ := lled_loop m (.val (iT (nL ws))) (.val (.int e)) ws.reverse (some e) e .un .un S (Nat.le_refl e) (by rw [List.sum_reverse]; omega)
  rw [ledR_rev, optP_some] at hl
  simp [b__law_led, Vi.get, put, rev_nL, hl]
theorem optP_shp (n : Nat) (o : Option Nat) : shp n (optP o) = true := by cases o <;> simp
/-- what is due at one square -/
theorem like_sq (m k e : Nat) (o : Option Nat) (S : Sto) : run pg (m + 9) 904 [.lst [optP o, .tup [.int 1, sT (optS o)], .bl o.isSome], .lst [optP o, .tup [.int 1, sT (optS o)], .bl o.isSome]] S = .ok (.bl true) S :=
  r_like _ 5 (by simp [optP_shp]) (by omega) S
theorem sq_loop (m : Nat) (v0 : Sl) (e : Nat) (he : e ≤ 60) : ∀ (ks : List Nat) (t3 t4 t5 : Sl) (S : Sto), (∀ k ∈ ks, k ≤ 64) → ∃ t3' t4' t5', forF (frF (dnD pg (m + 9)) (.n 3) l__law_squares_right_1) (ks.map fun k : Nat => P.int (k : Int)) [v0, .val (.int e), .val (.lst (iL (canW e))), t3, t4, t5] S = .ok (.nx [v0, .val (.int e), .val (.lst (iL (canW e))), t3', t4', t5']) S
  | [], t3, t4, t5, S, _ => ⟨t3, t4, t5, rfl⟩
  | k :: ks, t3, t4, t5, S, hk => by
    have h64 := hk k (by simp)
    obtain ⟨a, b, c, h⟩ := sq_loop m v0 e he ks (.val (.int k)) (.val (optP (sqP k e))) (.val (.lst [optP (sqP k e), .tup [.int 1, sT (optS (sqP k e))], .bl (oddB e k)])) S (fun z hz => hk z (by simp [hz]))
    refine ⟨a, b, c, ?_⟩
    rw [List.map_cons, forF_step (ρ' := [v0, .val (.int e), .val (.lst (iL (canW e))), .val (.int k), .val (optP (sqP k e)), .val (.lst [optP (sqP k e), .tup [.int 1, sT (optS (sqP k e))], .bl (oddB e k)])]) (S' := S), h]
    have q1 := fun S => r_letter_square (n := m + 9) (by omega) k e h64 (by omega) S
    have q2 : ∀ S, run pg (m + 9) 422 [.int k, .tup [.int 1, .tup [.tup [.int e]]]] S = .ok (.tup [.int 1, sT (optS (sqP k e))]) S := fun S => r_square_of (n := m + 9) (by omega) k e h64 (by omega) S
    have q3 := fun S => r_odd_choice (n := m + 9) (by omega) e k (by omega) (by omega) S
    have hk9 : ∀ p S, shp 5 p = true → run pg (m + 9) 904 [p, p] S = .ok (.bl true) S := fun p S h => r_like p 5 h (by omega) S
    unfold sqP at q1 q2 ⊢
    cases hb : oddB e k with
    | true =>
      rw [hb] at q1 q2 q3
      have hle := oddB_le hb
      have hle' : (k : Int) ≤ (e : Int) := by omega
      have ha := canW_at hle
      rw [hb] at ha
      have hk := hk9 (.lst [.int ((e : Int) + k), .tup [.int 1, .tup [.tup [.int ((e : Int) + k)]]], .bl true]) S (by simp)
      simp only [optP, optS, if_true] at q1 q2 ⊢
      have q1' : ∀ S, run pg (m + 9) 159 [.int k, .int e] S = .ok (.int ((e : Int) + k)) S := q1
      have q2' : ∀ S, run pg (m + 9) 422 [.int k, .tup [.int 1, .tup [.tup [.int e]]]] S = .ok (.tup [.int 1, .tup [.tup [.int ((e : Int) + k)]]]) S := q2
      simp [l__law_squares_right_1, put, Vi.get, dnD_F, hle, ha, q1', q2', q3, hk]
      rfl
    | false =>
      rw [hb] at q1 q2 q3
      have hk := hk9 (.lst [.non, .tup [.int 1, .tup []], .bl false]) S (by simp)
      simp only [optP, optS, Bool.false_eq_true, if_false] at q1 q2 ⊢
      have q2' : ∀ S, run pg (m + 9) 422 [.int k, .tup [.int 1, .tup [.tup [.int e]]]] S = .ok (.tup [.int 1, .tup []]) S := q2
      by_cases hle : k ≤ e
      · have ha := canW_at hle
        rw [hb] at ha
        simp [l__law_squares_right_1, put, Vi.get, dnD_F, hle, ha, q1, q2', q3, hk]
        rfl
      · simp [l__law_squares_right_1, put, Vi.get, dnD_F, hle, q1, q2', q3, hk]
        rfl
theorem rangeL_nat (n : Nat) : rangeL 0 n = (List.range n).map fun k : Nat => P.int (k : Int) := by
  unfold rangeL
  exact List.map_congr_left fun k _ => by simp
theorem sq_loop2 (m : Nat) (v0 : Sl) : ∀ (es : List Nat) (t1 t2 t3 t4 t5 : Sl) (S : Sto), (∀ e ∈ es, e ≤ 60) → ∃ t1' t2' t3' t4' t5', forF (frF (dnD pg (m + 9)) (.n 1) l__law_squares_right_2) (es.map fun k : Nat => P.int (k : Int)) [v0, t1, t2, t3, t4, t5] S = .ok (.nx [v0, t1', t2', t3', t4', t5']) S
  | [], t1, t2, t3, t4, t5, S, _ => ⟨t1, t2, t3, t4, t5, rfl⟩
  | e :: es, t1, t2, t3, t4, t5, S, he => by
    have h60 := he e (by simp)
    obtain ⟨a3, a4, a5, h1⟩ := sq_loop m v0 e h60 (List.range (e + 3)) t3 t4 t5 S (fun k hk => by have := List.mem_range.mp hk; omega)
    obtain ⟨b1, b2, b3, b4, b5, h⟩ := sq_loop2 m v0 es (.val (.int e)) (.val (.lst (iL (canW e)))) a3 a4 a5 S (fun z hz => he z (by simp [hz]))
    refine ⟨b1, b2, b3, b4, b5, ?_⟩
    rw [List.map_cons, forF_step (ρ' := [v0, .val (.int e), .val (.lst (iL (canW e))), a3, a4, a5]) (S' := S), h]
    have hw := fun S => r_ways (n := m + 9) (by omega) e (by omega) S
    have hr : rng1 (.int ((e : Int) + 3)) = some (rangeL 0 (e + 3)) := by
      rw [show ((e : Int) + 3) = ((e + 3 : Nat) : Int) by omega]
      exact rng1_nat (e + 3) (by omega)
    simp [-rng1_int, l__law_squares_right_2, put, Vi.get, dnD_F, hw]
    rw [hr, rangeL_nat]
    simp only [ap_some, then_ok]
    rw [h1]
theorem r_squares {n : Nat} (h : 10 ≤ n) (S : Sto) : run pg n 1004 [.int 40] S = .ok (.bl true) S := by
  obtain ⟨m, rfl⟩ := le_split h
  rw [run_at pg (m + 9) 1004 _ b__law_squares_right rfl, runB_at _ _ _ _ rfl]
  obtain ⟨t1, t2, t3, t4, t5, h1⟩ := sq_loop2 m (.val (.int 40)) (List.range 41) .un .un .un .un .un S (fun k hk => by have := List.mem_range.mp hk; omega)
  have hr : rng1 (.int 41) = some (rangeL 0 41) := by
    rw [show (41 : Int) = ((41 : Nat) : Int) by omega]
    exact rng1_nat 41 (by omega)
  simp [-rng1_int, b__law_squares_right, put, Vi.get]
  rw [hr, rangeL_nat]
  simp only [ap_some, then_ok]
  rw [h1]
  simp
theorem r_word_right {n : Nat} (h : 10 ≤ n) (ws : List Nat) (e : Nat) (hw : wordB (nL ws) = true) (he : e ≤ 30) (hl : ws.length ≤ 100) (hs : e + ws.sum ≤ 64) (S : Sto) : run pg n 1005 [iT (nL ws), .int e] S = .ok (.bl true) S := by
  obtain ⟨m, rfl⟩ := le_split h
  rw [run_at pg (m + 9) 1005 _ b__law_word_right rfl, runB_at _ _ _ _ rfl]
  have q1 := fun S => r_lled (n := m + 9) (by omega) ws e hs S
  have q2 := fun S => r_letter_word (n := m + 9) (by omega) ws e hw (by omega) S
  have q3 : ∀ S, run pg (m + 9) 704 [iT (nL ws), .tup [.int 1, .tup [.tup [.int e]]]] S = .ok (.tup [.int 1, sT (optS (ledF ws (some e)))]) S := fun S => r_act_word (n := m + 9) (by omega) ws e hw (by omega) (by omega) (by omega) S
  generalize ledF ws (some e) = o at q1 q2 q3
  have hk9 : ∀ p S, shp 5 p = true → run pg (m + 9) 904 [p, p] S = .ok (.bl true) S := fun p S h => r_like p 5 h (by omega) S
  cases o with
  | some d =>
    have hk := hk9 (.lst [.int d, .tup [.int 1, .tup [.tup [.int d]]]]) S (by simp)
    have q3' : ∀ S, run pg (m + 9) 704 [iT (nL ws), .tup [.int 1, .tup [.tup [.int e]]]] S = .ok (.tup [.int 1, .tup [.tup [.int d]]]) S := q3
    simp [b__law_word_right, put, Vi.get, dnD_F, q1, q2, q3', hk]
  | none =>
    have hk := hk9 (.lst [.non, .tup [.int 1, .tup []]]) S (by simp)
    have q3' : ∀ S, run pg (m + 9) 704 [iT (nL ws), .tup [.int 1, .tup [.tup [.int e]]]] S = .ok (.tup [.int 1, .tup []]) S := q3
    simp [b__law_word_right, put, Vi.get, dnD_F, q1, q2, q3', hk]
/-! the rising words of small degrees -/
def nS (ws : List (List Nat)) : List (List Int) := ws.map nL
theorem r_words_right {m : Nat} (d e : Nat) (hd : d ≤ 12) (he : e ≤ 30) (W : List (List Nat)) (hW : ∀ w ∈ W, w.sum = d) (hlen : W.length ≤ 100) (S : Sto) (hA : ∀ S, run pg (m + 9) 1001 [.int d, .int d] S = .ok (.lst (sL (nS W))) S) (hB : ∀ S, run pg (m + 8) 255 [.int d] S = .ok (.lst (sL (nS W))) S) : run pg (m + 10) 1006 [.int d, .int e] S = .ok (.bl true) S := by
  rw [run_at pg (m + 9) 1006 _ b__law_words_right rfl, runB_at _ _ _ _ rfl]
  have hk9 : ∀ p S, shp 5 p = true → run pg (m + 9) 904 [p, p] S = .ok (.bl true) S := fun p S h => r_like p 5 h (by omega) S
  have hB2 : ∀ S, run pg (m + 9) 161 [.int d, .int e] S = .ok (sT (nS (W.filter fun w => (ledF w (some e)).isSome))) S := fun S => by
    rw [run_at pg (m + 8) 161 _ b_letter_words rfl, runB_at _ _ _ _ rfl]
    have h1 : (d : Int) ≤ 40 := by omega
    have h2 : (e : Int) ≤ 64 := by omega
    simp [b_letter_words, put, Vi.get, dnD_F, r_need_whole, r_need_exponent, h1, h2, hB, isOwn]
    have e1 := compL_fm (e := fun w => iT (nL w)) (e' := fun w => iT (nL w)) (g := fun w => if (ledF w (some e)).isSome then some w else none) (f := cmF (dnD pg (m + 8)) [.val (.int d), .val (.int e), .un] (.n 2) q_letter_words_1 c_letter_words_1) (S := S) (xs := W) fun w _ => by
      have := fun S => r_power_led (n := m + 8) (by omega) w e S
      cases ho : ledF w (some e) <;> simp [q_letter_words_1, c_letter_words_1, put, Vi.get, dnD_F, this, ho]
    have e3 : ∀ l : List (List Nat), (l.filterMap fun w => if (ledF w (some e)).isSome then some w else none) = l.filter fun w => (ledF w (some e)).isSome := fun l => by
      induction l with
      | nil => rfl
      | cons v ws ih =>
        rw [List.filterMap_cons, List.filter_cons, ih]
        cases h : (ledF v (some e)).isSome <;> simp
    rw [e3] at e1
    rw [show sL (nS W) = W.map (fun w => iT (nL w)) from by simp [sL, nS], e1]
    simp [sT, sL, nS]
  have e1 := compL_fm (e := fun w => iT (nL w)) (e' := fun w => iT (nL w)) (g := fun w => if (ledF w (some e)).isSome then some w else none) (f := cmF (dnD pg (m + 9)) [.val (.int d), .val (.int e), .un, .un] (.n 3) q__law_words_right_1 c__law_words_right_1) (S := S) (xs := W) fun w hw => by
    have := fun S => r_lled (n := m + 9) (by omega) w e (by have := hW w hw; omega) S
    cases ho : ledF w (some e) <;> simp [q__law_words_right_1, c__law_words_right_1, put, Vi.get, dnD_F, this, ho]
  have e3 : ∀ l : List (List Nat), (l.filterMap fun w => if (ledF w (some e)).isSome then some w else none) = l.filter fun w => (ledF w (some e)).isSome := fun l => by
    induction l with
    | nil => rfl
    | cons v ws ih =>
      rw [List.filterMap_cons, List.filter_cons, ih]
      cases h : (ledF v (some e)).isSome <;> simp
  rw [e3] at e1
  have e2 : sL (nS W) = W.map (fun w => iT (nL w)) := by simp [sL, nS]
  have e4 : (W.filter fun w => (ledF w (some e)).isSome).map (fun w => iT (nL w)) = sL (nS (W.filter fun w => (ledF w (some e)).isSome)) := by simp [sL, nS]
  rw [e4, ← e2] at e1
  simp [b__law_words_right, put, Vi.get, dnD_F, hA, isOwn]
  rw [e1]
  simp [Vi.get, put, dnD_F, hB2, hk9]
/-! what is reached -/
inductive Rch (e : Nat) : Nat → Prop
  | base : Rch e e
  | step {a n : Nat} : Rch e a → 1 ≤ n → oddB a n = true → Rch e (a + n)
theorem Rch.ge {e x : Nat} (h : Rch e x) : e ≤ x := by
  induction h with
  | base => exact Nat.le_refl _
  | step _ _ _ ih => omega
/-- the program's table, the numbers below j done -/
def InvK (e most j : Nat) (K : List Bool) : Prop := ∀ x, x ≤ most → (K.getD x false = true ↔ x = e ∨ ∃ a n, a < j ∧ Rch e a ∧ 1 ≤ n ∧ oddB a n = true ∧ x = a + n)
theorem InvK.at {e most j : Nat} {K : List Bool} (h : InvK e most j K) (hj : j ≤ most) : K.getD j false = true ↔ Rch e j := by
  rw [h j hj]
  constructor
  · rintro (rfl | ⟨a, n, _, h1, h2, h3, rfl⟩)
    · exact .base
    · exact .step h1 h2 h3
  · intro h
    cases h with
    | base => exact .inl rfl
    | step h1 h2 h3 => exact .inr ⟨_, _, by omega, h1, h2, h3, rfl⟩
theorem InvK.skip {e most j : Nat} {K : List Bool} (h : InvK e most j K) (hj : ¬ Rch e j) : InvK e most (j + 1) K := fun x hx => by
  rw [h x hx]
  constructor
  · rintro (r | ⟨a, n, h0, h1⟩)
    · exact .inl r
    · exact .inr ⟨a, n, by omega, h1⟩
  · rintro (r | ⟨a, n, h0, h1, h2⟩)
    · exact .inl r
    · by_cases e : a = j
      · subst e; exact absurd h1 hj
      · exact .inr ⟨a, n, by omega, h1, h2⟩
/-- the table with j's numbers to k set -/
def setK (j : Nat) (K : List Bool) : List Nat → List Bool
  | [] => K
  | n :: ns => setK j (K.set (j + n) (K.getD (j + n) false || oddB j n)) ns
theorem setK_len (j : Nat) : ∀ (ns : List Nat) (K : List Bool), (setK j K ns).length = K.length
  | [], _ => rfl
  | n :: ns, K => by
    show (setK j (K.set (j + n) _) ns).length = _
    rw [setK_len j ns, List.length_set]
theorem setK_at (j x : Nat) : ∀ (ns : List Nat) (K : List Bool), (∀ n ∈ ns, j + n < K.length) → ((setK j K ns).getD x false = true ↔ K.getD x false = true ∨ ∃ n ∈ ns, oddB j n = true ∧ x = j + n)
  | [], K, _ => by simp [setK]
  | n :: ns, K, h => by
    show (setK j (K.set (j + n) (K.getD (j + n) false || oddB j n)) ns).getD x false = true ↔ _
    rw [setK_at j x ns _ (fun m hm => by rw [List.length_set]; exact h m (by simp [hm]))]
    have hn := h n (by simp)
    have e : (K.set (j + n) (K.getD (j + n) false || oddB j n)).getD x false = if x = j + n then (K.getD (j + n) false || oddB j n) else K.getD x false := by
      rw [List.getD_eq_getElem?_getD, List.getElem?_set]
      by_cases q : j + n = x
      · subst q; simp [hn]
      · have q' : ¬ x = j + n := fun z => q z.symm
        simp [q, q']
    rw [e]
    by_cases q : x = j + n
    · subst q
      simp only [if_true, Bool.or_eq_true]
      constructor
      · rintro ((h | h) | ⟨m, hm, h⟩)
        · exact .inl h
        · exact .inr ⟨n, by simp, h, rfl⟩
        · exact .inr ⟨m, by simp [hm], h⟩
      · rintro (h | ⟨m, hm, h1, h2⟩)
        · exact .inl (.inl h)
        · rcases List.mem_cons.mp hm with e | hm
          · subst e; exact .inl (.inr h1)
          · exact .inr ⟨m, hm, h1, h2⟩
    · rw [if_neg q]
      constructor
      · rintro (h | ⟨m, hm, h⟩)
        · exact .inl h
        · exact .inr ⟨m, by simp [hm], h⟩
      · rintro (h | ⟨m, hm, h1, h2⟩)
        · exact .inl h
        · rcases List.mem_cons.mp hm with e | hm
          · subst e; exact absurd h2 q
          · exact .inr ⟨m, hm, h1, h2⟩
/-- 1 .. k -/
def nums (k : Nat) : List Nat := (List.range k).map (· + 1)
theorem mem_nums {k n : Nat} : n ∈ nums k ↔ 1 ≤ n ∧ n ≤ k := by
  unfold nums
  rw [List.mem_map]
  constructor
  · rintro ⟨a, ha, rfl⟩
    have := List.mem_range.mp ha
    omega
  · intro h
    exact ⟨n - 1, List.mem_range.mpr (by omega), by omega⟩
theorem InvK.go {e most j : Nat} {K : List Bool} (h : InvK e most j K) (hj : Rch e j) (hm : j ≤ most) (hl : most < K.length) : InvK e most (j + 1) (setK j K (nums (min j (most - j)))) := fun x hx => by
  rw [setK_at j x _ _ (fun n hn => by have := mem_nums.mp hn; omega), h x hx]
  constructor
  · rintro ((r | ⟨a, n, h0, h1⟩) | ⟨n, hn, h1, rfl⟩)
    · exact .inl r
    · exact .inr ⟨a, n, by omega, h1⟩
    · exact .inr ⟨j, n, by omega, hj, (mem_nums.mp hn).1, h1, rfl⟩
  · rintro (r | ⟨a, n, h0, h1, h2, h3, rfl⟩)
    · exact .inl (.inl r)
    · by_cases q : a = j
      · subst q
        have := oddB_le h3
        exact .inr ⟨n, mem_nums.mpr (by omega), h3, rfl⟩
      · exact .inl (.inr ⟨a, n, by omega, h1, h2, h3, rfl⟩)
theorem s_seti_ (d : Dn) (ρ : Vi.Env) (S : Sto) (i k e) : denS d (.seti i k e) ρ S = match ρ[i]? with
    | some (.own (.lst xs)) => (denE d ρ e S).then fun v => (denE d ρ k).bind fun j => match j with
      | .int j => match ixN xs.length j with
        | some n => M.pure (.nx (ρ.set i (.own (.lst (xs.set n v)))))
        | none => M.no
      | _ => M.no
    | _ => .no := by
  show (match ρ[i]? with
    | some (.own (.lst xs)) => (denE d ρ e).bind fun v => (denE d ρ k).bind fun j => match j with
      | .int j => match ixN xs.length j with
        | some n => M.pure (Fl.nx (ρ.set i (.own (.lst (xs.set n v)))))
        | none => M.no
      | _ => M.no
    | _ => M.no) S = _
  cases ρ[i]? with
  | none => rfl
  | some s =>
    cases s with
    | own v => cases v <;> rfl
    | _ => rfl
def bL (K : List Bool) : List P := K.map P.bl
theorem bL_len (K : List Bool) : (bL K).length = K.length := by simp [bL]
theorem atI_bL {K : List Bool} (x : Nat) (h : x < K.length) : atI (bL K) (x : Int) = some (.bl (K.getD x false)) := by
  rw [atI_nat x (by rw [bL_len]; exact h)]
  simp [bL, h]
theorem ixN_nat {n x : Nat} (h : x < n) : ixN n (x : Int) = some x := by
  unfold ixN
  rw [if_pos (by omega), if_pos (by omega)]
  simp
theorem bL_set (K : List Bool) (x : Nat) (b : Bool) : (bL K).set x (.bl b) = bL (K.set x b) := by
  unfold bL
  rw [List.map_set]
theorem reach_loop1 (m : Nat) (v0 v1 : Sl) (j : Nat) : ∀ (ns : List Nat) (K : List Bool) (t : Sl) (S : Sto), (∀ n ∈ ns, j + n < K.length) → ∃ t', forF (frF (dnD pg (m + 1)) (.n 4) l_letter_reach_1) (ns.map fun k : Nat => P.int (k : Int)) [v0, v1, .own (.lst (bL K)), .val (.int j), t] S = .ok (.nx [v0, v1, .own (.lst (bL (setK j K ns))), .val (.int j), t']) S
  | [], K, t, S, _ => ⟨t, rfl⟩
  | n :: ns, K, t, S, h => by
    obtain ⟨t', hh⟩ := reach_loop1 m v0 v1 j ns (K.set (j + n) (K.getD (j + n) false || oddB j n)) (.val (.int n)) S (fun k hk => by rw [List.length_set]; exact h k (by simp [hk]))
    refine ⟨t', ?_⟩
    have hn := h n (by simp)
    have ha := atI_bL (K := K) (j + n) hn
    have hx : ixN (bL K).length (((j + n : Nat)) : Int) = some (j + n) := ixN_nat (by rw [bL_len]; exact hn)
    rw [Int.natCast_add] at ha hx
    rw [List.map_cons, forF_step (ρ' := [v0, v1, .own (.lst (bL (K.set (j + n) (K.getD (j + n) false || oddB j n)))), .val (.int j), .val (.int n)]) (S' := S), hh]
    · rfl
    · have ho := fun S => r_odd (n := m + 1) (by omega) j n S
      generalize K.getD (j + n) false = b at ha ⊢
      cases b with
      | true =>
        simp [l_letter_reach_1, s_seti_, put, Vi.get, getT, ha, hx]
        rw [bL_set]
      | false =>
        simp [l_letter_reach_1, s_seti_, put, Vi.get, getT, ha, hx, dnD_F, ho]
        rw [bL_set]
theorem rangeL1 (k : Nat) : rangeL 1 k = (nums k).map fun k : Nat => P.int (k : Int) := by
  unfold rangeL nums
  rw [List.map_map]
  exact List.map_congr_left fun i _ => by
    show P.int (1 + (i : Int)) = P.int (((i + 1 : Nat)) : Int)
    congr 1
    omega
theorem rng2_nat (a b : Nat) (ha : a ≤ 16777216) (hb : b ≤ 16777216) : rng2 (.int (a : Int)) (.int (b : Int)) = some (rangeL a (b - a)) := by
  rw [rng2_int]
  have h1 : (-((lim : Nat) : Int) ≤ (a : Int)) := by show (-(16777216 : Int) ≤ _); omega
  have h2 : ((a : Int) ≤ ((lim : Nat) : Int)) := by show (_ ≤ (16777216 : Int)); omega
  have h3 : (-((lim : Nat) : Int) ≤ (b : Int)) := by show (-(16777216 : Int) ≤ _); omega
  have h4 : ((b : Int) - (a : Int) ≤ ((lim : Nat) : Int)) := by show (_ ≤ (16777216 : Int)); omega
  rw [decide_eq_true h1, decide_eq_true h2, decide_eq_true h3, decide_eq_true h4]
  have : ((b : Int) - (a : Int)).toNat = b - a := by omega
  simp [this]
theorem reach_loop2 (m : Nat) (v0 : Sl) (e most : Nat) (hm : most ≤ 1000) : ∀ (c j : Nat) (K : List Bool) (t3 t4 : Sl) (S : Sto), j + c = most + 1 → InvK e most j K → most < K.length → notOwn t3 = true → ∃ K' t3' t4', forF (frF (dnD pg (m + 1)) (.n 3) l_letter_reach_2) ((List.range' j c).map fun k : Nat => P.int (k : Int)) [v0, .val (.int most), .own (.lst (bL K)), t3, t4] S = .ok (.nx [v0, .val (.int most), .own (.lst (bL K')), t3', t4']) S ∧ InvK e most (most + 1) K' ∧ K'.length = K.length ∧ notOwn t3' = true
  | 0, j, K, t3, t4, S, hj, hI, hl, ht => ⟨K, t3, t4, rfl, by rw [show most + 1 = j by omega]; exact hI, rfl, ht⟩
  | c + 1, j, K, t3, t4, S, hj, hI, hl, _ => by
    have hjm : j ≤ most := by omega
    have ha := atI_bL (K := K) j (by omega)
    have hat := hI.at hjm
    rw [List.range'_succ, List.map_cons]
    cases hb : K.getD j false with
    | false =>
      rw [hb] at ha hat
      obtain ⟨K', a, b, h1, h2, h3⟩ := reach_loop2 m v0 e most hm c (j + 1) K (.val (.int j)) t4 S (by omega) (hI.skip fun z => by have := hat.mpr z; cases this) hl rfl
      refine ⟨K', a, b, ?_, h2, h3⟩
      rw [forF_step (ρ' := [v0, .val (.int most), .own (.lst (bL K)), .val (.int j), t4]) (S' := S), h1]
      simp [l_letter_reach_2, put, Vi.get, getT, ha]
    | true =>
      rw [hb] at ha hat
      obtain ⟨q, hq⟩ : ∃ q, min j (most - j) = q := ⟨_, rfl⟩
      have hI2 := hI.go (hat.mp rfl) hjm hl
      rw [hq] at hI2
      obtain ⟨t', hh⟩ := reach_loop1 m v0 (.val (.int most)) j (nums q) K t4 S (fun n hn => by have := mem_nums.mp hn; omega)
      obtain ⟨K', a, b, h1, h2, h3⟩ := reach_loop2 m v0 e most hm c (j + 1) (setK j K (nums q)) (.val (.int j)) t' S (by omega) hI2 (by rw [setK_len]; exact hl) rfl
      refine ⟨K', a, b, ?_, h2, by rw [h3.1, setK_len], h3.2⟩
      rw [forF_step (ρ' := [v0, .val (.int most), .own (.lst (bL (setK j K (nums q)))), .val (.int j), t']) (S' := S), h1]
      have hz : minI (j : Int) ((most : Int) - (j : Int)) = (q : Int) := by
        rw [show (most : Int) - (j : Int) = ((most - j : Nat) : Int) by omega, minI_nat, hq]
      have hr : rng2 (.int 1) (.int ((q : Int) + 1)) = some (rangeL 1 q) := by
        have := rng2_nat 1 (q + 1) (by omega) (by omega)
        rw [show ((1 : Nat) : Int) = 1 from rfl, Int.natCast_add] at this
        exact this
      simp [-rng2_int, l_letter_reach_2, put, Vi.get, getT, ha]
      rw [hz, hr, rangeL1]
      simp only [ap_some, then_ok]
      rw [hh]
theorem InvK.fin {e most x : Nat} {K : List Bool} (h : InvK e most (most + 1) K) (hx : x ≤ most) : K.getD x false = true ↔ Rch e x := by
  rw [h x hx]
  constructor
  · rintro (rfl | ⟨a, n, _, h1, h2, h3, rfl⟩)
    · exact .base
    · exact .step h1 h2 h3
  · intro h
    cases h with
    | base => exact .inl rfl
    | step h1 h2 h3 => exact .inr ⟨_, _, by omega, h1, h2, h3, rfl⟩
theorem rangeLn (e c : Nat) : rangeL (e : Int) c = (List.range' e c).map fun k : Nat => P.int (k : Int) := by
  unfold rangeL
  rw [List.range'_eq_map_range, List.map_map]
  exact List.map_congr_left fun i _ => by
    show P.int ((e : Int) + (i : Int)) = P.int (((e + i : Nat)) : Int)
    rw [Int.natCast_add]
theorem maxI_nat (a b : Nat) : maxI (a : Int) (b : Int) = ((max a b : Nat) : Int) := by
  unfold maxI
  split <;> omega
/-- what is reached, in order -/
structure Outs (e most : Nat) (L : List Nat) : Prop where
  asc : L.Pairwise (· < ·)
  mem : ∀ x, x ∈ L ↔ x ≤ most ∧ Rch e x
theorem r_reach {n : Nat} (h : 4 ≤ n) (e most : Nat) (he : e ≤ 64) (hm : most ≤ 200) (S : Sto) : ∃ L, Outs e most L ∧ run pg n 162 [.int e, .int most] S = .ok (.tup (iL (nL L))) S := by
  obtain ⟨m, rfl⟩ := le_split h
  rw [run_at pg (m + 3) 162 _ b_letter_reach rfl, runB_at _ _ _ _ rfl]
  have h1 : (e : Int) ≤ 64 := by omega
  have h2 : (most : Int) ≤ 200 := by omega
  obtain ⟨q, hq⟩ : ∃ q, max most e = q := ⟨_, rfl⟩
  have hz : maxI (most : Int) (e : Int) = (q : Int) := by rw [maxI_nat, hq]
  have hr : rng1 (.int ((q : Int) + 1)) = some (rangeL 0 (q + 1)) := by
    rw [show ((q : Int) + 1) = ((q + 1 : Nat) : Int) by omega]
    exact rng1_nat (q + 1) (by omega)
  obtain ⟨K0, hK0⟩ : ∃ K0, (List.range (q + 1)).map (fun x => decide (x = e)) = K0 := ⟨_, rfl⟩
  have hlen : K0.length = q + 1 := by rw [← hK0]; simp
  have hI : InvK e most e K0 := fun x hx => by
    rw [← hK0]
    have hxq : x < q + 1 := by omega
    simp [hxq]
    intro a ha h
    have := h.ge
    omega
  have hc : compL (cmF (dnD pg (m + 3)) [.val (.int e), .val (.int most), .un, .un, .un] (.n 3) .yes c_letter_reach_1) (rangeL 0 (q + 1)) S = .ok (bL K0) S := by
    rw [compL_rangeB (g := fun x => decide (x = e)) (fun x _ => by
      have : ((x : Int) == (e : Int)) = decide (x = e) := by rw [Bool.beq_eq_decide_eq]; exact decide_eq_decide.mpr Int.ofNat_inj
      simp [c_letter_reach_1, put, Vi.get, this]), ← hK0]
    simp [bL]
  obtain ⟨c, hcc⟩ : ∃ c, most + 1 - e = c := ⟨_, rfl⟩
  have hr2 : rng2 (.int (e : Int)) (.int ((most : Int) + 1)) = some ((List.range' e c).map fun k : Nat => P.int (k : Int)) := by
    have := rng2_nat e (most + 1) (by omega) (by omega)
    rw [Int.natCast_add, hcc, rangeLn] at this
    exact this
  -- the loop
  obtain ⟨K', t3, t4, hl, hF, hL⟩ : ∃ K' t3 t4, forF (frF (dnD pg (m + 3)) (.n 3) l_letter_reach_2) ((List.range' e c).map fun k : Nat => P.int (k : Int)) [.val (.int e), .val (.int most), .own (.lst (bL K0)), .un, .un] S = .ok (.nx [.val (.int e), .val (.int most), .own (.lst (bL K')), t3, t4]) S ∧ InvK e most (most + 1) K' ∧ K'.length = q + 1 ∧ (notOwn t3 = true) := by
    by_cases hem : e ≤ most
    · obtain ⟨K', t3, t4, a1, a2, a3, a4⟩ := reach_loop2 (m + 2) (.val (.int e)) e most (by omega) c e K0 .un .un S (by omega) hI (by omega) rfl
      exact ⟨K', t3, t4, a1, a2, by rw [a3, hlen], a4⟩
    · have hc0 : c = 0 := by omega
      subst hc0
      refine ⟨K0, .un, .un, rfl, fun x hx => ?_, hlen, rfl⟩
      rw [hI x hx]
      constructor
      · rintro (r | ⟨a, n, h0, h1, h2, h3, h4⟩)
        · exact .inl r
        · have := h1.ge; omega
      · rintro (r | ⟨a, n, h0, h1, h2, h3, h4⟩)
        · exact .inl r
        · have := h1.ge; omega
  refine ⟨(List.range (most + 1)).filter fun x => K'.getD x false, ⟨?_, fun x => ?_⟩, ?_⟩
  · exact List.Pairwise.sublist List.filter_sublist List.pairwise_lt_range
  · rw [List.mem_filter, List.mem_range]
    have := fun hx => hF.fin (x := x) hx
    constructor
    · rintro ⟨h1, h2⟩
      exact ⟨by omega, (this (by omega)).mp h2⟩
    · rintro ⟨h1, h2⟩
      exact ⟨by omega, (this h1).mpr h2⟩
  · have hn1 := fun S => r_need_exponent (n := m + 3) (by omega) (e : Int) (by omega) h1 S
    have hn2 := fun S => r_need_whole (n := m + 3) (by omega) (most : Int) 0 200 (by omega) h2 S
    have hr3 : rng1 (.int ((most : Int) + 1)) = some (rangeL 0 (most + 1)) := by
      rw [show ((most : Int) + 1) = ((most + 1 : Nat) : Int) by omega]
      exact rng1_nat (most + 1) (by omega)
    have hcf : compL (cmF (dnD pg (m + 3)) [.val (.int e), .val (.int most), .own (.lst (bL K')), .un, t4] (.n 3) q_letter_reach_2 c_letter_reach_2) (rangeL 0 (most + 1)) S = .ok (iL (nL ((List.range (most + 1)).filter fun x => K'.getD x false))) S := compL_rangeQ (fun x => K'.getD x false) (fun x hx => by
      have ha := atI_bL (K := K') x (by omega)
      cases hb : K'.getD x false <;> rw [hb] at ha <;> simp [q_letter_reach_2, c_letter_reach_2, put, Vi.get, getT, ha])
    have hi : isOwn [.val (.int e), .val (.int most), .own (.lst (bL K')), t3, t4] 3 = false := isOwn_not rfl hL.2
    simp [-rng1_int, -rng2_int, b_letter_reach, put, Vi.get, dnD_F, hn1, hn2, isOwn]
    rw [hz, hr]
    simp only [ap_some, then_ok, ap_bind, calm_ap]
    rw [hc]
    simp [-rng1_int, -rng2_int, put, Vi.get]
    rw [hr2]
    simp only [ap_some, then_ok]
    rw [hl]
    simp [-rng1_int, -rng2_int, put, Vi.get, hi]
    rw [hr3]
    simp only [ap_some, then_ok, ap_bind, calm_ap]
    rw [hcf]
    simp
/-! the law's own search for what is reached -/
def gain (most own : Nat) : List Nat := (nums own).filterMap fun n => if (oddB own n && decide (own + n ≤ most)) = true then some (own + n) else none
theorem mem_gain {most own x : Nat} : x ∈ gain most own ↔ ∃ n, 1 ≤ n ∧ oddB own n = true ∧ own + n ≤ most ∧ x = own + n := by
  unfold gain
  rw [List.mem_filterMap]
  constructor
  · rintro ⟨n, hn, h⟩
    split at h
    · rename_i hc
      rw [Bool.and_eq_true] at hc
      exact ⟨n, (mem_nums.mp hn).1, hc.1, of_decide_eq_true hc.2, (Option.some.inj h).symm⟩
    · cases h
  · rintro ⟨n, h1, h2, h3, rfl⟩
    exact ⟨n, mem_nums.mpr ⟨h1, oddB_le h2⟩, by rw [if_pos]; rw [h2, decide_eq_true h3]; rfl⟩
theorem gain_len (most own : Nat) : (gain most own).length ≤ own := by
  unfold gain
  refine Nat.le_trans (List.length_filterMap_le _ _) ?_
  simp [nums]
theorem nL_app (a b : List Nat) : nL (a ++ b) = nL a ++ nL b := by simp [nL]
theorem nL_len (a : List Nat) : (nL a).length = a.length := by simp [nL]
theorem nL_inj {a b : List Nat} (h : nL a = nL b) : a = b := by
  unfold nL at h
  exact (List.map_inj_right (fun x y h => Int.ofNat.inj h)).mp h
def insN (x : Nat) : List Nat → List Nat
  | [] => [x]
  | y :: r => if x < y then x :: y :: r else if x = y then y :: r else y :: insN x r
theorem insN_of (x : Nat) : ∀ l : List Nat, insU (x : Int) (nL l) = nL (insN x l)
  | [] => rfl
  | y :: r => by
    show (if (x : Int) < (y : Int) then _ else if (x : Int) = (y : Int) then _ else _) = _
    rw [insN]
    by_cases h : x < y
    · rw [if_pos h, if_pos (by omega)]; rfl
    · rw [if_neg h, if_neg (by omega)]
      by_cases g : x = y
      · rw [if_pos g, if_pos (by omega)]; rfl
      · rw [if_neg g, if_neg (by omega)]
        show (y : Int) :: insU (x : Int) (nL r) = _
        rw [insN_of x r]; rfl
def setN (xs : List Nat) : List Nat := xs.foldl (fun a x => insN x a) []
theorem setN_of0 : ∀ (xs acc : List Nat), (nL xs).foldl (fun a x => insU x a) (nL acc) = nL (xs.foldl (fun a x => insN x a) acc)
  | [], _ => rfl
  | x :: xs, acc => by
    show (nL xs).foldl (fun a x => insU x a) (insU (x : Int) (nL acc)) = _
    rw [insN_of, setN_of0 xs]; rfl
theorem setN_of (xs : List Nat) : setU (nL xs) = nL (setN xs) := setN_of0 xs []
theorem insN_mem {x z : Nat} : ∀ {l : List Nat}, z ∈ insN x l ↔ z = x ∨ z ∈ l
  | [] => by simp [insN]
  | y :: r => by
    rw [insN]
    by_cases h : x < y
    · rw [if_pos h]; simp
    · rw [if_neg h]
      by_cases g : x = y
      · rw [if_pos g]
        subst g
        simp
      · rw [if_neg g, List.mem_cons, insN_mem, List.mem_cons]
        constructor
        · rintro (h | h | h)
          · exact .inr (.inl h)
          · exact .inl h
          · exact .inr (.inr h)
        · rintro (h | h | h)
          · exact .inr (.inl h)
          · exact .inl h
          · exact .inr (.inr h)
theorem insN_asc {x : Nat} : ∀ {l : List Nat}, l.Pairwise (· < ·) → (insN x l).Pairwise (· < ·)
  | [], _ => by simp [insN]
  | y :: r, h => by
    rw [insN]
    obtain ⟨h1, h2⟩ := List.pairwise_cons.mp h
    by_cases g : x < y
    · rw [if_pos g]
      refine List.pairwise_cons.mpr ⟨fun z hz => ?_, h⟩
      rcases List.mem_cons.mp hz with e | hz
      · omega
      · have := h1 z hz; omega
    · rw [if_neg g]
      by_cases e : x = y
      · rw [if_pos e]; exact h
      · rw [if_neg e]
        refine List.pairwise_cons.mpr ⟨fun z hz => ?_, insN_asc h2⟩
        rcases insN_mem.mp hz with q | hz
        · omega
        · exact h1 z hz
theorem setN_ok0 : ∀ (xs acc : List Nat), acc.Pairwise (· < ·) → (xs.foldl (fun a x => insN x a) acc).Pairwise (· < ·) ∧ ∀ z, z ∈ xs.foldl (fun a x => insN x a) acc ↔ z ∈ acc ∨ z ∈ xs
  | [], acc, h => ⟨h, fun z => by simp⟩
  | x :: xs, acc, h => by
    have := setN_ok0 xs (insN x acc) (insN_asc h)
    refine ⟨this.1, fun z => ?_⟩
    rw [List.foldl_cons, this.2 z, insN_mem, List.mem_cons]
    constructor
    · rintro ((h | h) | h)
      · exact .inr (.inl h)
      · exact .inl h
      · exact .inr (.inr h)
    · rintro (h | h | h)
      · exact .inl (.inr h)
      · exact .inl (.inl h)
      · exact .inr h
theorem setN_asc (xs : List Nat) : (setN xs).Pairwise (· < ·) := (setN_ok0 xs [] List.Pairwise.nil).1
theorem setN_mem {xs : List Nat} {z : Nat} : z ∈ setN xs ↔ z ∈ xs := by
  have := (setN_ok0 xs [] List.Pairwise.nil).2 z
  unfold setN
  rw [this]
  simp
theorem ascN_ext : ∀ {l m : List Nat}, l.Pairwise (· < ·) → m.Pairwise (· < ·) → (∀ w, w ∈ l ↔ w ∈ m) → l = m
  | [], [], _, _, _ => rfl
  | [], y :: m, _, _, h => by have := (h y).mpr (by simp); simp at this
  | x :: l, [], _, _, h => by have := (h x).mp (by simp); simp at this
  | x :: l, y :: m, hl, hm, h => by
    obtain ⟨l1, l2⟩ := List.pairwise_cons.mp hl
    obtain ⟨m1, m2⟩ := List.pairwise_cons.mp hm
    have e : x = y := by
      rcases List.mem_cons.mp ((h x).mp (by simp)) with e | hx
      · exact e
      · rcases List.mem_cons.mp ((h y).mpr (by simp)) with e | hy
        · exact e.symm
        · have := m1 x hx; have := l1 y hy; omega
    subst e
    rw [ascN_ext l2 m2 fun w => ?_]
    constructor
    · intro hw
      rcases List.mem_cons.mp ((h w).mp (by simp [hw])) with e | q
      · have := l1 w hw; omega
      · exact q
    · intro hw
      rcases List.mem_cons.mp ((h w).mpr (by simp [hw])) with e | q
      · have := m1 w hw; omega
      · exact q
theorem ascN_len : ∀ {l : List Nat} {a N : Nat}, l.Pairwise (· < ·) → (∀ x ∈ l, a ≤ x ∧ x < N) → l.length ≤ N - a
  | [], _, _, _, _ => Nat.zero_le _
  | x :: l, a, N, hl, h => by
    obtain ⟨l1, l2⟩ := List.pairwise_cons.mp hl
    have hx := h x (by simp)
    have := ascN_len (a := x + 1) (N := N) l2 fun y hy => ⟨l1 y hy, (h y (by simp [hy])).2⟩
    rw [List.length_cons]
    omega
theorem Outs.uniq {e most : Nat} {L M : List Nat} (h : Outs e most L) (g : Outs e most M) : L = M := ascN_ext h.asc g.asc fun w => by rw [h.mem, g.mem]
theorem rr_loop1 (m most : Nat) (v0 v2 v3 : Sl) : ∀ (ks acc : List Nat) (t5 t6 : Sl) (S : Sto), (∀ k ∈ ks, k ≤ 64) → acc.length + ks.length * 64 ≤ 100000 → notOwn t5 = true → ∃ t5' t6', notOwn t5' = true ∧ forF (frF (dnD pg (m + 1)) (.n 5) l__law_reach_right_1) (iL (nL ks)) [v0, .val (.int most), v2, v3, .val (.lst (iL (nL acc))), t5, t6, .un] S = .ok (.nx [v0, .val (.int most), v2, v3, .val (.lst (iL (nL (acc ++ ks.flatMap (gain most))))), t5', t6', .un]) S
  | [], acc, t5, t6, S, _, _, ht => ⟨t5, t6, ht, by simp [nL]; rfl⟩
  | k :: ks, acc, t5, t6, S, hk, hl, _ => by
    have hk0 := hk k (by simp)
    have hg := gain_len most k
    rw [List.length_cons] at hl
    obtain ⟨t5', t6', hn, h⟩ := rr_loop1 m most v0 v2 v3 ks (acc ++ gain most k) (.val (.int k)) (.val (.lst (iL (canW k)))) S (fun x hx => hk x (by simp [hx])) (by rw [List.length_append]; omega) rfl
    refine ⟨t5', t6', hn, ?_⟩
    rw [show iL (nL (k :: ks)) = .int k :: iL (nL ks) from rfl, forF_step (ρ' := [v0, .val (.int most), v2, v3, .val (.lst (iL (nL (acc ++ gain most k)))), .val (.int k), .val (.lst (iL (canW k))), .un]) (S' := S), h]
    · simp [List.flatMap_cons]
    · have hr : rng2 (.int 1) (.int ((k : Int) + 1)) = some ((nums k).map fun k : Nat => P.int (k : Int)) := by
        have := rng2_nat 1 (k + 1) (by omega) (by omega)
        rw [show ((1 : Nat) : Int) = 1 from rfl, Int.natCast_add, show k + 1 - 1 = k by omega, rangeL1] at this
        exact this
      have hw := fun S => r_ways (n := m + 1) (by omega) k hk0 S
      have hc := compL_fm (e := fun k : Nat => P.int (k : Int)) (e' := fun k : Nat => P.int (k : Int)) (g := fun n => if (oddB k n && decide (k + n ≤ most)) = true then some (k + n) else none) (f := cmF (dnD pg (m + 1)) [v0, .val (.int most), v2, v3, .val (.lst (iL (nL acc))), .val (.int k), .val (.lst (iL (canW k))), .un] (.n 7) q__law_reach_right_1 c__law_reach_right_1) (S := S) (xs := nums k) fun n hn => by
        have ha := canW_at (mem_nums.mp hn).2
        by_cases hm : (k : Int) + n ≤ most
        · have hm' : k + n ≤ most := by omega
          cases ho : oddB k n <;> rw [ho] at ha <;> simp [q__law_reach_right_1, c__law_reach_right_1, put, Vi.get, ha, hm, hm']
        · have hm' : ¬ k + n ≤ most := by omega
          cases ho : oddB k n <;> rw [ho] at ha <;> simp [q__law_reach_right_1, c__law_reach_right_1, put, Vi.get, ha, hm, hm']
      have e2 : ((nums k).filterMap fun n => if (oddB k n && decide (k + n ≤ most)) = true then some (k + n) else none).map (fun k : Nat => P.int (k : Int)) = iL (nL (gain most k)) := by
        unfold iL nL gain
        rw [List.map_map]
        rfl
      rw [e2] at hc
      have z1 : (nL acc).length + (nL (gain most k)).length ≤ 16777216 := by rw [nL_len, nL_len]; omega
      simp [-rng2_int, l__law_reach_right_1, put, Vi.get, dnD_F, hw]
      rw [hr]
      simp only [ap_some, then_ok, ap_bind, calm_ap]
      rw [hc]
      simp [z1, nL_app, isOwn]

def OkR (e most : Nat) (ks : List Nat) : Prop := ks.Pairwise (· < ·) ∧ ∀ x ∈ ks, Rch e x ∧ (x ≤ most ∨ x = e)
def FinR (e most : Nat) (ks : List Nat) : Prop := ∀ x, Rch e x → x ≤ most → x ∈ ks
theorem OkR.next {e most : Nat} {ks : List Nat} (h : OkR e most ks) : OkR e most (setN (ks ++ ks.flatMap (gain most))) := ⟨setN_asc _, fun x hx => by
  rcases List.mem_append.mp (setN_mem.mp hx) with q | q
  · exact h.2 x q
  · obtain ⟨a, ha, q⟩ := List.mem_flatMap.mp q
    obtain ⟨n, h1, h2, h3, rfl⟩ := mem_gain.mp q
    exact ⟨.step (h.2 a ha).1 h1 h2, .inl h3⟩⟩
theorem OkR.len {e most : Nat} {ks : List Nat} (h : OkR e most ks) (he : e < 20) (hm : most < 60) : ks.length ≤ 60 ∧ ∀ k ∈ ks, k < 60 := by
  have : ∀ k ∈ ks, k < 60 := fun k hk => by have := (h.2 k hk).2; omega
  exact ⟨ascN_len (a := 0) (N := 60) h.1 fun x hx => ⟨by omega, this x hx⟩, this⟩
theorem fin_closed {e most : Nat} {ks : List Nat} (he : e ≤ most → e ∈ ks) (h : setN (ks ++ ks.flatMap (gain most)) = ks) : FinR e most ks := fun x hx => by
  induction hx with
  | base => exact he
  | step h1 h2 h3 ih =>
    intro hm
    have ha := ih (by omega)
    rw [← h]
    exact setN_mem.mpr (List.mem_append.mpr (.inr (List.mem_flatMap.mpr ⟨_, ha, mem_gain.mpr ⟨_, h2, h3, hm, rfl⟩⟩)))
theorem eqv_nL (a b : List Nat) : eqv (.lst (iL (nL a))) (.lst (iL (nL b))) = decide (a = b) := by
  show eqvs (iL (nL a)) (iL (nL b)) = _
  rw [eqvs_iL]
  by_cases h : a = b
  · subst h; simp
  · have : ¬ nL a = nL b := fun z => h (nL_inj z)
    simp [h, this]
theorem flat_len {ks : List Nat} {most : Nat} (h : ∀ k ∈ ks, k < 60) : (ks.flatMap (gain most)).length ≤ ks.length * 60 := by
  induction ks with
  | nil => simp
  | cons k ks ih =>
    have h1 := gain_len most k
    have h2 := h k (by simp)
    have h3 := ih fun x hx => h x (by simp [hx])
    rw [List.flatMap_cons, List.length_append, List.length_cons]
    omega
theorem rr_loop2 (m e most : Nat) (he : e < 20) (hm : most < 60) (v0 : Sl) : ∀ (xs : List P) (t : Nat) (ks : List Nat) (t3 t4 t5 t6 : Sl) (S : Sto), t + xs.length = most + 1 → OkR e most ks → (∀ x, Rch e x → x ≤ most → x ≤ e + t → x ∈ ks) → notOwn t5 = true → ∃ ks' t3' t4' t5' t6', notOwn t5' = true ∧ forF (frF (dnD pg (m + 1)) (.n 3) l__law_reach_right_2) xs [v0, .val (.int most), .val (.lst (iL (nL ks))), t3, t4, t5, t6, .un] S = .ok (.nx [v0, .val (.int most), .val (.lst (iL (nL ks'))), t3', t4', t5', t6', .un]) S ∧ OkR e most ks' ∧ FinR e most ks'
  | [], t, ks, t3, t4, t5, t6, S, ht, ho, hp, hn => ⟨ks, t3, t4, t5, t6, hn, rfl, ho, fun x hx hm => hp x hx hm (by simp at ht; omega)⟩
  | p :: xs, t, ks, t3, t4, t5, t6, S, ht, ho, hp, hn => by
    rw [List.length_cons] at ht
    obtain ⟨hl, hb⟩ := ho.len he hm
    have hf := flat_len (most := most) hb
    obtain ⟨a5, a6, hn5, h1⟩ := rr_loop1 m most v0 (.val (.lst (iL (nL ks)))) (.val p) ks ks t5 t6 S (fun k hk => by have := hb k hk; omega) (by omega) hn
    have hN := ho.next
    obtain ⟨L, hL⟩ : ∃ L, setN (ks ++ ks.flatMap (gain most)) = L := ⟨_, rfl⟩
    rw [hL] at hN
    obtain ⟨hl2, _⟩ := hN.len he hm
    have hs : xop .sortset [.lst (iL (nL (ks ++ ks.flatMap (gain most))))] = some (.lst (iL (nL L))) := by
      unfold xop
      simp only [asInts_iL]
      rw [setN_of, hL, nL_len, nL_len, List.length_append, if_pos]
      · rfl
      · rw [decide_eq_true (by omega), decide_eq_true (by omega)]; rfl
    have hq := eqv_nL L ks
    by_cases hc : L = ks
    · refine ⟨ks, .val p, .val (.lst (iL (nL ks))), a5, a6, hn5, ?_, ho, ?_⟩
      · rw [forF_brk (ρ' := [v0, .val (.int most), .val (.lst (iL (nL ks))), .val p, .val (.lst (iL (nL ks))), a5, a6, .un]) (S' := S)]
        subst hc
        simp [l__law_reach_right_2, put, Vi.get, isOwn]
        rw [h1]
        simp [put, Vi.get, hs, hq]
      · exact fin_closed (fun h => hp e .base h (by omega)) (by rw [hL, hc])
    · obtain ⟨ks', b3, b4, b5, b6, hn6, h2, h3, h4⟩ := rr_loop2 m e most he hm v0 xs (t + 1) L (.val p) (.val (.lst (iL (nL L)))) a5 a6 S (by omega) hN (fun x hx hxm hxt => by
        rw [← hL]
        refine setN_mem.mpr (List.mem_append.mpr ?_)
        cases hx with
        | base => exact .inl (hp e .base hxm (by omega))
        | step r1 r2 r3 => exact .inr (List.mem_flatMap.mpr ⟨_, hp _ r1 (by omega) (by omega), mem_gain.mpr ⟨_, r2, r3, hxm, rfl⟩⟩)) hn5
      refine ⟨ks', b3, b4, b5, b6, hn6, ?_, h3, h4⟩
      rw [forF_step (ρ' := [v0, .val (.int most), .val (.lst (iL (nL L))), .val p, .val (.lst (iL (nL L))), a5, a6, .un]) (S' := S), h2]
      simp [l__law_reach_right_2, put, Vi.get, isOwn]
      rw [h1]
      simp [put, Vi.get, hs, hq, hc]
theorem r_reach_right {n : Nat} (h : 10 ≤ n) (e most : Nat) (he : e < 20) (hm : most < 60) (S : Sto) : run pg n 1007 [.int e, .int most] S = .ok (.bl true) S := by
  obtain ⟨m, rfl⟩ := le_split h
  rw [run_at pg (m + 9) 1007 _ b__law_reach_right rfl, runB_at _ _ _ _ rfl]
  have hr : rng1 (.int ((most : Int) + 1)) = some (rangeL 0 (most + 1)) := by
    rw [show ((most : Int) + 1) = ((most + 1 : Nat) : Int) by omega]
    exact rng1_nat (most + 1) (by omega)
  obtain ⟨ks, t3, t4, t5, t6, hn, h1, h2, h3⟩ := rr_loop2 (m + 8) e most he hm (.val (.int e)) (rangeL 0 (most + 1)) 0 [e] .un .un .un .un S (by simp [rangeL]) ⟨by simp, fun x hx => by
    rw [List.mem_singleton.mp hx]
    exact ⟨.base, .inr rfl⟩⟩ (fun x hx _ h => by
    have := hx.ge
    have : x = e := by omega
    simp [this]) rfl
  have hO : Outs e most (ks.filterMap fun k => if k ≤ most then some k else none) := by
    have e1 : (ks.filterMap fun k => if k ≤ most then some k else none) = ks.filter fun k => decide (k ≤ most) := by
      clear h1 h2 h3
      induction ks with
      | nil => rfl
      | cons k ks ih =>
        rw [List.filterMap_cons, List.filter_cons, ih]
        by_cases h : k ≤ most <;> simp [h]
    rw [e1]
    refine ⟨h2.1.sublist List.filter_sublist, fun x => ?_⟩
    rw [List.mem_filter]
    constructor
    · rintro ⟨a, b⟩
      exact ⟨of_decide_eq_true b, (h2.2 x a).1⟩
    · rintro ⟨a, b⟩
      exact ⟨h3 x b a, decide_eq_true a⟩
  obtain ⟨L, hL, hR⟩ := r_reach (n := m + 9) (by omega) e most (by omega) (by omega) S
  have hu := hL.uniq hO
  have hc := compL_fm (e := fun k : Nat => P.int (k : Int)) (e' := fun k : Nat => P.int (k : Int)) (g := fun k => if k ≤ most then some k else none) (f := cmF (dnD pg (m + 9)) [.val (.int e), .val (.int most), .val (.lst (iL (nL ks))), t3, t4, .un, t6, .un] (.n 5) q__law_reach_right_3 c__law_reach_right_3) (S := S) (xs := ks) fun k hk => by
    by_cases hm : (k : Int) ≤ most
    · have hm' : k ≤ most := by omega
      simp [q__law_reach_right_3, c__law_reach_right_3, put, Vi.get, hm, hm']
    · have hm' : ¬ k ≤ most := by omega
      simp [q__law_reach_right_3, c__law_reach_right_3, put, Vi.get, hm, hm']
  rw [← hu] at hc
  have e2 : ∀ l : List Nat, l.map (fun k : Nat => P.int (k : Int)) = iL (nL l) := fun l => by
    unfold iL nL
    rw [List.map_map]
    rfl
  rw [e2, e2] at hc
  have hk := r_like (n := m + 9) (iT (nL L)) 5 (by simp) (by omega) S
  have h1' : forF (frF (dnD pg (m + 9)) (.n 3) l__law_reach_right_2) (rangeL 0 (most + 1)) [.val (.int e), .val (.int most), .val (.lst [.int e]), .un, .un, .un, .un, .un] S = _ := h1
  simp [-rng1_int, b__law_reach_right, put, Vi.get, isOwn]
  rw [hr]
  simp only [ap_some, then_ok]
  rw [h1']
  simp [put, Vi.get, dnD_F, hR]
  have hi : isOwn [.val (.int e), .val (.int most), .val (.lst (iL (nL ks))), t3, t4, t5, t6, .un] 5 = false := isOwn_not rfl hn
  simp [hi]
  rw [hc]
  simp [hk]
/-! closed parts -/
def Wf : Nat → Nat → Nat → List (List Nat)
  | 0, _, _ => []
  | f + 1, d, m => if d = 0 then [[]] else (List.range (min d m)).flatMap fun i => (Wf f (d - (i + 1)) ((i + 1) / 2)).map fun r => (i + 1) :: r
def Wd (d : Nat) : List (List Nat) := Wf 8 d d
theorem e_wA : ∀ d : Nat, d ≤ 12 → ∀ S, run pg 39 1001 [.int (d : Int), .int (d : Int)] S = .ok (.lst (sL (nS (Wd d)))) S := by
  intro d hd S
  have : d = 0 ∨ d = 1 ∨ d = 2 ∨ d = 3 ∨ d = 4 ∨ d = 5 ∨ d = 6 ∨ d = 7 ∨ d = 8 ∨ d = 9 ∨ d = 10 ∨ d = 11 ∨ d = 12 := by omega
  rcases this with rfl | rfl | rfl | rfl | rfl | rfl | rfl | rfl | rfl | rfl | rfl | rfl | rfl <;> kernel_rfl
theorem e_wB : ∀ d : Nat, d ≤ 12 → ∀ S, run pg 38 255 [.int (d : Int)] S = .ok (.lst (sL (nS (Wd d)))) S := by
  intro d hd S
  have : d = 0 ∨ d = 1 ∨ d = 2 ∨ d = 3 ∨ d = 4 ∨ d = 5 ∨ d = 6 ∨ d = 7 ∨ d = 8 ∨ d = 9 ∨ d = 10 ∨ d = 11 ∨ d = 12 := by omega
  rcases this with rfl | rfl | rfl | rfl | rfl | rfl | rfl | rfl | rfl | rfl | rfl | rfl | rfl <;> kernel_rfl
theorem e_wC : ∀ d, d ≤ 12 → (∀ w ∈ Wd d, w.sum = d) ∧ (Wd d).length ≤ 100 := by
  intro d hd
  have h : (List.range 13).all (fun d => (Wd d).all (fun w => decide (w.sum = d)) && decide ((Wd d).length ≤ 100)) = true := by kernel_rfl
  have := List.all_eq_true.mp h d (List.mem_range.mpr (by omega))
  rw [Bool.and_eq_true, List.all_eq_true] at this
  exact ⟨fun w hw => of_decide_eq_true (this.1 w hw), of_decide_eq_true this.2⟩
theorem e_errors (S : Sto) : run pg 40 1008 [] S = .ok (.bl true) S := by kernel_rfl
theorem e_1 (S : Sto) : run pg 40 159 [.int 2, .int 2] S = .ok (.int 4) S := by kernel_rfl
theorem e_2 (S : Sto) : run pg 40 159 [.int 1, .int 2] S = .ok .non S := by kernel_rfl
theorem e_3 (S : Sto) : run pg 40 160 [.tup [.int 2, .int 1], .int 1] S = .ok (.int 4) S := by kernel_rfl
theorem e_4 (S : Sto) : run pg 40 160 [.tup [.int 1, .int 2], .int 1] S = .ok .non S := by kernel_rfl
theorem e_5 (S : Sto) : run pg 40 161 [.int 3, .int 1] S = .ok (.tup [.tup [.int 2, .int 1]]) S := by kernel_rfl
theorem e_6 (S : Sto) : run pg 40 161 [.int 3, .int 3] S = .ok (.tup [.tup [.int 3]]) S := by kernel_rfl
theorem e_7 (S : Sto) : run pg 40 162 [.int 1, .int 16] S = .ok (.tup [.int 1, .int 2, .int 4, .int 8, .int 16]) S := by kernel_rfl
theorem e_8 (S : Sto) : run pg 40 162 [.int 3, .int 8] S = .ok (.tup [.int 3, .int 4, .int 5, .int 6, .int 8]) S := by kernel_rfl
theorem e_9 (S : Sto) : run pg 40 162 [.int 3, .int 2] S = .ok (.tup []) S := by kernel_rfl
theorem e_10 (S : Sto) : run pg 40 160 [.tup [], .int 5] S = .ok (.int 5) S := by kernel_rfl
theorem e_11 (S : Sto) : run pg 40 159 [.int 0, .int 0] S = .ok (.int 0) S := by kernel_rfl
theorem e_12 (S : Sto) : run pg 40 159 [.int 64, .int 64] S = .ok (.int 128) S := by kernel_rfl
theorem e_13 (S : Sto) : run pg 40 162 [.int 0, .int 9] S = .ok (.tup [.int 0]) S := by kernel_rfl
theorem e_14 (S : Sto) : run pg 40 161 [.int 0, .int 7] S = .ok (.tup [.tup []]) S := by kernel_rfl
theorem e_15 (S : Sto) : run pg 40 161 [.int 7, .int 1] S = .ok (.tup [.tup [.int 4, .int 2, .int 1]]) S := by kernel_rfl
theorem e_16 (S : Sto) : run pg 40 160 [.tup [.int 8, .int 4, .int 2, .int 1], .int 1] S = .ok (.int 16) S := by kernel_rfl
theorem e_17 (S : Sto) : run pg 40 162 [.int 1, .int 200] S = .ok (.tup [.int 1, .int 2, .int 4, .int 8, .int 16, .int 32, .int 64, .int 128]) S := by kernel_rfl
theorem e_18 (S : Sto) : run pg 40 161 [.int 6, .int 2] S = .ok (.tup [.tup [.int 4, .int 2]]) S := by kernel_rfl
theorem e_19 (S : Sto) : run pg 40 162 [.int 5, .int 5] S = .ok (.tup [.int 5]) S := by kernel_rfl
theorem okN {ws : List Nat} (h : ∀ k ∈ ws, 1 ≤ k ∧ k ≤ 8) (hl : ws.length ≤ 12) (hs : ws.sum ≤ 40) : wordB (nL ws) = true := by
  unfold wordB
  have h1 : (nL ws).all okInt = true := by
    rw [List.all_eq_true]
    intro x hx
    obtain ⟨k, hk, rfl⟩ := List.mem_map.mp hx
    have := h k hk
    unfold okInt
    simp
    omega
  have h2 : ∀ l : List Nat, (nL l).sum = ((l.sum : Nat) : Int) := fun l => by
    induction l with
    | nil => rfl
    | cons a l ih =>
      show (a : Int) + (nL l).sum = _
      rw [ih, List.sum_cons]
      omega
  rw [h1, h2, nL_len]
  simp
  omega
theorem nL_sum : ∀ l : List Nat, (nL l).sum = ((l.sum : Nat) : Int)
  | [] => rfl
  | a :: l => by
    show (a : Int) + (nL l).sum = _
    rw [nL_sum l, List.sum_cons]
    omega
theorem sum_le8 : ∀ {ws : List Nat}, (∀ k ∈ ws, 1 ≤ k ∧ k ≤ 8) → ws.sum ≤ 8 * ws.length
  | [], _ => by simp
  | a :: l, h => by
    have h1 := h a (by simp)
    have h2 := sum_le8 (ws := l) fun k hk => h k (by simp [hk])
    rw [List.sum_cons, List.length_cons]
    omega
theorem w_loop (n : Nat) (v0 v1 v2 v4 v6 : Sl) : ∀ (xs : List P) (ws : List Nat) (t : Sl) (S : Sto), Cup S → (∀ k ∈ ws, 1 ≤ k ∧ k ≤ 8) → ws.length + xs.length ≤ 100 → ∃ ws' t' S', forF (frF (dnD pg (n + 1)) (.n 7) l_law_1) xs [v0, v1, v2, .val (.ref 0), v4, .val (iT (nL ws)), v6, t] S = .ok (.nx [v0, v1, v2, .val (.ref 0), v4, .val (iT (nL ws')), v6, t']) S' ∧ Cup S' ∧ (∀ k ∈ ws', 1 ≤ k ∧ k ≤ 8) ∧ ws'.length = ws.length + xs.length
  | [], ws, t, S, hS, hw, hl => ⟨ws, t, S, rfl, hS, hw, rfl⟩
  | x :: xs, ws, t, S, hS, hw, hl => by
    rw [List.length_cons] at hl
    obtain ⟨r, S1, e1, c1, r0, r1⟩ := r_roll (n := n + 1) (by omega) 8 (by omega) (by omega) S hS
    obtain ⟨k, hk, k1, k2⟩ : ∃ k : Nat, 1 + r = (k : Int) ∧ 1 ≤ k ∧ k ≤ 8 := ⟨(1 + r).toNat, by omega, by omega, by omega⟩
    obtain ⟨ws', t', S', h1, h2, h3, h4⟩ := w_loop n v0 v1 v2 v4 v6 xs (ws ++ [k]) (.val x) S1 c1 (fun j hj => by
      rcases List.mem_append.mp hj with h | h
      · exact hw j h
      · rw [List.mem_singleton.mp h]; exact ⟨k1, k2⟩) (by simp; omega)
    refine ⟨ws', t', S', ?_, h2, h3, by rw [h4, List.length_append, List.length_cons]; simp; omega⟩
    rw [forF_step (ρ' := [v0, v1, v2, .val (.ref 0), v4, .val (iT (nL (ws ++ [k]))), v6, .val x]) (S' := S1), h1]
    have hb : bop .add (iT (nL ws)) (.tup [.int (k : Int)]) = some (iT (nL (ws ++ [k]))) := by
      show bop .add (.tup (iL (nL ws))) (.tup [.int (k : Int)]) = _
      rw [bop_catT, if_pos (by rw [iL_len, nL_len]; show ws.length + 1 ≤ 16777216; omega)]
      rw [nL_app, ← tup_iL, iL_app]
      rfl
    simp [l_law_1, put, Vi.get, dnD_F, e1, hk, hb]
theorem slice2 (w : List Int) : slice (iT w) none (some 2) = some (iT (w.take 2)) := by
  show slice (.tup (iL w)) none (some 2) = _
  unfold slice cut sIx
  simp
  have e : ∀ k, (iL w).take k = iL (w.take k) := fun k => by simp [iL, List.map_take]
  rw [e]
  show iT _ = iT _
  rcases Nat.le_total w.length 2 with h | h
  · rw [Nat.min_eq_right h, List.take_of_length_le (Nat.le_refl _), List.take_of_length_le h]
  · rw [Nat.min_eq_left h]
theorem nL_take (w : List Nat) (k : Nat) : (nL w).take k = nL (w.take k) := by simp [nL, List.map_take]
theorem one_turn (v0 v1 v2 : Sl) (x : P) (t4 t5 t6 t7 : Sl) (S : Sto) (hS : Cup S) : ∃ t5' t6' t7' S', frF (dnD pg 40) (.n 4) l_law_2 x [v0, v1, v2, .val (.ref 0), t4, t5, t6, t7] S = .ok (.nx [v0, v1, v2, .val (.ref 0), .val x, t5', t6', t7']) S' ∧ Cup S' := by
  obtain ⟨e, S1, e1, c1, a0, a1⟩ := r_roll (n := 40) (by omega) 30 (by omega) (by omega) S hS
  obtain ⟨e', rfl, he⟩ : ∃ k : Nat, e = (k : Int) ∧ k < 30 := ⟨e.toNat, by omega, by omega⟩
  obtain ⟨l, S2, e2, c2, b0, b1⟩ := r_roll (n := 40) (by omega) 5 (by omega) (by omega) S1 c1
  obtain ⟨l', rfl, hl⟩ : ∃ k : Nat, l = (k : Int) ∧ k < 5 := ⟨l.toNat, by omega, by omega⟩
  obtain ⟨ws, t7', S3, h1, c3, hw, hn⟩ := w_loop 39 v0 v1 v2 (.val x) (.val (.int (e' : Int))) (rangeL 0 l') [] t7 S2 c2 (by simp) (by simp [rangeL]; omega)
  have hr := rng1_nat l' (by omega)
  have hlen : ws.length ≤ 4 := by rw [hn]; simp [rangeL]; omega
  obtain ⟨us, hus⟩ : ∃ us, (if ws.sum ≤ 40 then ws else ws.take 2) = us := ⟨_, rfl⟩
  have hu1 : ∀ k ∈ us, 1 ≤ k ∧ k ≤ 8 := by
    rw [← hus]
    split
    · exact hw
    · exact fun k hk => hw k (List.mem_of_mem_take hk)
  have hu2 : us.length ≤ 4 := by
    rw [← hus]
    split
    · exact hlen
    · exact Nat.le_trans (List.length_take_le _ _) (by omega)
  have hu3 : us.sum ≤ 32 := by have := sum_le8 hu1; omega
  have w1 := r_word_right (n := 40) (by omega) us e' (okN hu1 (by omega) (by omega)) (by omega) (by omega) (by omega)
  obtain ⟨dd, S4, e4, c4, d0, d1⟩ := r_roll (n := 40) (by omega) 13 (by omega) (by omega) S3 c3
  obtain ⟨d', rfl, hd⟩ : ∃ k : Nat, dd = (k : Int) ∧ k < 13 := ⟨dd.toNat, by omega, by omega⟩
  have w2 := r_words_right (m := 30) d' e' (by omega) (by omega) (Wd d') (e_wC d' (by omega)).1 (e_wC d' (by omega)).2 S4 (fun S => e_wA d' (by omega) S) (fun S => e_wB d' (by omega) S)
  obtain ⟨p, S5, e5, c5, p0, p1⟩ := r_roll (n := 40) (by omega) 20 (by omega) (by omega) S4 c4
  obtain ⟨p', rfl, hp⟩ : ∃ k : Nat, p = (k : Int) ∧ k < 20 := ⟨p.toNat, by omega, by omega⟩
  obtain ⟨q, S6, e6, c6, q0, q1⟩ := r_roll (n := 40) (by omega) 60 (by omega) (by omega) S5 c5
  obtain ⟨q', rfl, hq⟩ : ∃ k : Nat, q = (k : Int) ∧ k < 60 := ⟨q.toNat, by omega, by omega⟩
  have w3 := r_reach_right (n := 40) (by omega) p' q' hp hq S6
  refine ⟨.val (iT (nL ws)), .val (.int (e' : Int)), t7', S6, ?_, c6⟩
  have h1' : forF (frF (dnD pg 40) (.n 7) l_law_1) (rangeL 0 l') [v0, v1, v2, .val (.ref 0), .val x, .val (.tup []), .val (.int (e' : Int)), t7] S2 = _ := h1
  have hsum : (nL ws).sum = ((ws.sum : Nat) : Int) := nL_sum ws
  simp [-rng1_int, l_law_2, put, Vi.get, dnD_F, e1, e2, hr]
  rw [h1']
  by_cases h40 : ws.sum ≤ 40
  · have h40' : ((ws.sum : Nat) : Int) ≤ 40 := by omega
    rw [if_pos h40] at hus
    subst hus
    simp [put, Vi.get, dnD_F, hsum, h40', w1, e4, w2, e5, e6, w3]
  · have h40' : ¬ ((ws.sum : Nat) : Int) ≤ 40 := by omega
    rw [if_neg h40] at hus
    subst hus
    simp [put, Vi.get, dnD_F, hsum, h40', slice2, nL_take, w1, e4, w2, e5, e6, w3]
theorem l_loop (v0 v1 v2 : Sl) : ∀ (xs : List P) (t4 t5 t6 t7 : Sl) (S : Sto), Cup S → ∃ t4' t5' t6' t7' S', forF (frF (dnD pg 40) (.n 4) l_law_2) xs [v0, v1, v2, .val (.ref 0), t4, t5, t6, t7] S = .ok (.nx [v0, v1, v2, .val (.ref 0), t4', t5', t6', t7']) S' ∧ Cup S'
  | [], t4, t5, t6, t7, S, hS => ⟨t4, t5, t6, t7, S, rfl, hS⟩
  | x :: xs, t4, t5, t6, t7, S, hS => by
    obtain ⟨a5, a6, a7, S1, h1, c1⟩ := one_turn v0 v1 v2 x t4 t5 t6 t7 S hS
    obtain ⟨b4, b5, b6, b7, S2, h2, c2⟩ := l_loop v0 v1 v2 xs (.val x) a5 a6 a7 S1 c1
    exact ⟨b4, b5, b6, b7, S2, by rw [forF_step h1, h2], c2⟩
theorem law_aux (d : Dn) (r : Nat → List P → M P) (hF : d.F = r) (sc : P) (S0 : Sto) (e0 : r 900 [sc] [] = .ok (.ref 0) S0) (hS : Cup S0)
    (hl : ∀ v0 v1 v2, ∃ t4' t5' t6' t7' S', forF (frF d (.n 4) l_law_2) (rangeL 0 20) [v0, v1, v2, .val (.ref 0), .un, .un, .un, .un] S0 = .ok (.nx [v0, v1, v2, .val (.ref 0), t4', t5', t6', t7']) S' ∧ Cup S')
    (h904 : ∀ p S, shp 5 p = true → r 904 [p, p] S = .ok (.bl true) S) (h1008 : ∀ S, r 1008 [] S = .ok (.bl true) S) (h1004 : ∀ S, r 1004 [.int 40] S = .ok (.bl true) S)
    (e1 : ∀ S, r 159 [.int 2, .int 2] S = .ok (.int 4) S) (e2 : ∀ S, r 159 [.int 1, .int 2] S = .ok .non S) (e3 : ∀ S, r 160 [.tup [.int 2, .int 1], .int 1] S = .ok (.int 4) S) (e4 : ∀ S, r 160 [.tup [.int 1, .int 2], .int 1] S = .ok .non S)
    (e5 : ∀ S, r 161 [.int 3, .int 1] S = .ok (.tup [.tup [.int 2, .int 1]]) S) (e6 : ∀ S, r 161 [.int 3, .int 3] S = .ok (.tup [.tup [.int 3]]) S)
    (e7 : ∀ S, r 162 [.int 1, .int 16] S = .ok (.tup [.int 1, .int 2, .int 4, .int 8, .int 16]) S) (e8 : ∀ S, r 162 [.int 3, .int 8] S = .ok (.tup [.int 3, .int 4, .int 5, .int 6, .int 8]) S) (e9 : ∀ S, r 162 [.int 3, .int 2] S = .ok (.tup []) S)
    (e10 : ∀ S, r 160 [.tup [], .int 5] S = .ok (.int 5) S) (e11 : ∀ S, r 159 [.int 0, .int 0] S = .ok (.int 0) S) (e12 : ∀ S, r 159 [.int 64, .int 64] S = .ok (.int 128) S) (e13 : ∀ S, r 162 [.int 0, .int 9] S = .ok (.tup [.int 0]) S)
    (e14 : ∀ S, r 161 [.int 0, .int 7] S = .ok (.tup [.tup []]) S) (e15 : ∀ S, r 161 [.int 7, .int 1] S = .ok (.tup [.tup [.int 4, .int 2, .int 1]]) S) (e16 : ∀ S, r 160 [.tup [.int 8, .int 4, .int 2, .int 1], .int 1] S = .ok (.int 16) S)
    (e17 : ∀ S, r 162 [.int 1, .int 200] S = .ok (.tup [.int 1, .int 2, .int 4, .int 8, .int 16, .int 32, .int 64, .int 128]) S) (e18 : ∀ S, r 161 [.int 6, .int 2] S = .ok (.tup [.tup [.int 4, .int 2]]) S) (e19 : ∀ S, r 162 [.int 5, .int 5] S = .ok (.tup [.int 5]) S) :
    ∃ S', runB d b_law [sc] [] = .ok (.bl true) S' := by
  rw [runB_at _ _ _ _ rfl]
  simp [b_law, Vi.get, put, hF, e1, e2, e3, e4, e5, e6]
  rw [t_law_2]
  simp [Vi.get, put]
  rw [t_law_3]
  simp [Vi.get, put, hF, e7, e8, e9, e10, e11, e12, e13]
  rw [t_law_4]
  simp [Vi.get, put]
  rw [t_law_5]
  simp [Vi.get, put, hF, e14, e15, e16, e17, e18, e19]
  rw [t_law_6]
  simp [Vi.get, put]
  rw [t_law_7]
  simp [Vi.get, put, hF, h904, h1008, h1004]
  rw [t_law_8]
  simp [Vi.get, put, hF, e0]
  obtain ⟨t4, t5, t6, t7, S', h1, _⟩ := hl (.val sc) (.val (.lst [.int 4, .non, .int 4, .non, .tup [.tup [.int 2, .int 1]], .tup [.tup [.int 3]], .tup [.int 1, .int 2, .int 4, .int 8, .int 16], .tup [.int 3, .int 4, .int 5, .int 6, .int 8], .tup [], .int 5, .int 0, .int 128, .tup [.int 0], .tup [.tup []], .tup [.tup [.int 4, .int 2, .int 1]], .int 16, .tup [.int 1, .int 2, .int 4, .int 8, .int 16, .int 32, .int 64, .int 128], .tup [.tup [.int 4, .int 2]], .tup [.int 5]])) (.val (.lst [.int 4, .non, .int 4, .non, .tup [.tup [.int 2, .int 1]], .tup [.tup [.int 3]], .tup [.int 1, .int 2, .int 4, .int 8, .int 16], .tup [.int 3, .int 4, .int 5, .int 6, .int 8], .tup [], .int 5, .int 0, .int 128, .tup [.int 0], .tup [.tup []], .tup [.tup [.int 4, .int 2, .int 1]], .int 16, .tup [.int 1, .int 2, .int 4, .int 8, .int 16, .int 32, .int 64, .int 128], .tup [.tup [.int 4, .int 2]], .tup [.int 5]]))
  refine ⟨S', ?_⟩
  rw [t_law_9]
  simp [Vi.get, put, bigI]
  rw [h1]
  simp [t_law_10]
theorem law_true (ns : List Int) (hl : ns.length ≤ 63) (hb : ∀ z ∈ ns, Builtin.Int.intBits z ≤ 1048576) : ∃ S', runB (dnD pg lawLevel) b_law [.scr (ns.map P.int)] [] = .ok (.bl true) S' := by
  obtain ⟨S0, e0, c0⟩ := r_cup (n := 40) (by omega) ns hl
  exact law_aux (dnD pg lawLevel) (run pg 40) (dnD_F pg 40) _ S0 e0 c0 (fun v0 v1 v2 => l_loop v0 v1 v2 (rangeL 0 20) .un .un .un .un S0 c0) (fun p S h => r_like p 5 h (by omega) S) e_errors (fun S => r_squares (by omega) S) e_1 e_2 e_3 e_4 e_5 e_6 e_7 e_8 e_9 e_10 e_11 e_12 e_13 e_14 e_15 e_16 e_17 e_18 e_19
end Vg
namespace Vg
open PySem PySem.Spec PyProof.Rows L2 Vi
def cadOf (c_0 c_1 c_6 c_8 c_19 : Addr) : Nat → Option Addr
  | 0 => some c_0
  | 1 => some c_1
  | 6 => some c_6
  | 8 => some c_8
  | 19 => some c_19
  | _ => none
theorem cad_cases {c_0 c_1 c_6 c_8 c_19 C : Addr} {c : Nat} (h : cadOf c_0 c_1 c_6 c_8 c_19 c = some C) : (c = 0 ∧ C = c_0) ∨ (c = 1 ∧ C = c_1) ∨ (c = 6 ∧ C = c_6) ∨ (c = 8 ∧ C = c_8) ∨ (c = 19 ∧ C = c_19) := by
  unfold cadOf at h
  split at h <;> first | (cases h; simp; done) | cases h
def fadOf  : Nat → Option Addr
  | _ => none
theorem nm_cases {i : Nat} {x : Str} (h : nm i = some x) : (i = 8 ∧ x = "is_whole") ∨ (i = 9 ∧ x = "need_whole") ∨ (i = 10 ∧ x = "is_tuple_of") ∨ (i = 605 ∧ x = "is_word") ∨ (i = 606 ∧ x = "need_word") ∨ (i = 610 ∧ x = "is_odd") ∨ (i = 611 ∧ x = "is_odd_choice") ∨ (i = 254 ∧ x = "words_from") ∨ (i = 255 ∧ x = "rising_in") ∨ (i = 526 ∧ x = "odd_ones") ∨ (i = 224 ∧ x = "is_polynomial") ∨ (i = 225 ∧ x = "need_polynomial") ∨ (i = 417 ∧ x = "need_number") ∨ (i = 418 ∧ x = "shared_out") ∨ (i = 419 ∧ x = "square_in") ∨ (i = 422 ∧ x = "square_of") ∨ (i = 156 ∧ x = "power_squared") ∨ (i = 157 ∧ x = "power_led") ∨ (i = 158 ∧ x = "need_exponent") ∨ (i = 159 ∧ x = "letter_square") ∨ (i = 160 ∧ x = "letter_word") ∨ (i = 161 ∧ x = "letter_words") ∨ (i = 162 ∧ x = "letter_reach") ∨ (i = 700 ∧ x = "stages_in") ∨ (i = 701 ∧ x = "word_in") ∨ (i = 704 ∧ x = "act_word") ∨ (i = 900 ∧ x = "_law_cup") ∨ (i = 901 ∧ x = "_law_roll") ∨ (i = 903 ∧ x = "_law_sort") ∨ (i = 904 ∧ x = "_law_like") ∨ (i = 1000 ∧ x = "_law_ways") ∨ (i = 1001 ∧ x = "_law_rising") ∨ (i = 1003 ∧ x = "_law_led") ∨ (i = 1004 ∧ x = "_law_squares_right") ∨ (i = 1005 ∧ x = "_law_word_right") ∨ (i = 1006 ∧ x = "_law_words_right") ∨ (i = 1007 ∧ x = "_law_reach_right") ∨ (i = 1008 ∧ x = "_law_errors_right") := by
  unfold nm at h
  split at h <;> first | (cases h; simp; done) | cases h
theorem all_mk {w : World} {K : PySem.W.Frag} {h : Heap} {mg : Str → Option Value} {fa : Addr} (X : K.In h) (G : h.Ns mainGlobals mg) (hfa : mg "law" = some (.ref fa))
    {f_is_whole : Addr} {kV_is_whole doc_is_whole pm_is_whole ct_is_whole oc_is_whole : Value} {cv_is_whole : Value} {an_is_whole od_is_whole : Option Addr} {osl_is_whole : Array (Option Value)} {f_need_whole : Addr} {kV_need_whole doc_need_whole pm_need_whole ct_need_whole oc_need_whole : Value} {cv_need_whole : Value} {an_need_whole od_need_whole : Option Addr} {osl_need_whole : Array (Option Value)} {f_is_tuple_of : Addr} {kV_is_tuple_of doc_is_tuple_of pm_is_tuple_of ct_is_tuple_of oc_is_tuple_of : Value} {cv_is_tuple_of : Value} {an_is_tuple_of od_is_tuple_of : Option Addr} {osl_is_tuple_of : Array (Option Value)} {f_is_word : Addr} {kV_is_word doc_is_word pm_is_word ct_is_word oc_is_word : Value} {cv_is_word : Value} {an_is_word od_is_word : Option Addr} {osl_is_word : Array (Option Value)} {f_need_word : Addr} {kV_need_word doc_need_word pm_need_word ct_need_word oc_need_word : Value} {cv_need_word : Value} {an_need_word od_need_word : Option Addr} {osl_need_word : Array (Option Value)} {f_is_odd : Addr} {kV_is_odd doc_is_odd pm_is_odd ct_is_odd oc_is_odd : Value} {cv_is_odd : Value} {an_is_odd od_is_odd : Option Addr} {osl_is_odd : Array (Option Value)} {f_is_odd_choice : Addr} {kV_is_odd_choice doc_is_odd_choice pm_is_odd_choice ct_is_odd_choice oc_is_odd_choice : Value} {cv_is_odd_choice : Value} {an_is_odd_choice od_is_odd_choice : Option Addr} {osl_is_odd_choice : Array (Option Value)} {f_words_from : Addr} {kV_words_from doc_words_from pm_words_from ct_words_from oc_words_from : Value} {cv_words_from : Value} {an_words_from od_words_from : Option Addr} {osl_words_from : Array (Option Value)} {f_rising_in : Addr} {kV_rising_in doc_rising_in pm_rising_in ct_rising_in oc_rising_in : Value} {cv_rising_in : Value} {an_rising_in od_rising_in : Option Addr} {osl_rising_in : Array (Option Value)} {f_odd_ones : Addr} {kV_odd_ones doc_odd_ones pm_odd_ones ct_odd_ones oc_odd_ones : Value} {cv_odd_ones : Value} {an_odd_ones od_odd_ones : Option Addr} {osl_odd_ones : Array (Option Value)} {f_is_polynomial : Addr} {kV_is_polynomial doc_is_polynomial pm_is_polynomial ct_is_polynomial oc_is_polynomial : Value} {cv_is_polynomial : Value} {an_is_polynomial od_is_polynomial : Option Addr} {osl_is_polynomial : Array (Option Value)} {f_need_polynomial : Addr} {kV_need_polynomial doc_need_polynomial pm_need_polynomial ct_need_polynomial oc_need_polynomial : Value} {cv_need_polynomial : Value} {an_need_polynomial od_need_polynomial : Option Addr} {osl_need_polynomial : Array (Option Value)} {f_need_number : Addr} {kV_need_number doc_need_number pm_need_number ct_need_number oc_need_number : Value} {cv_need_number : Value} {an_need_number od_need_number : Option Addr} {osl_need_number : Array (Option Value)} {f_shared_out : Addr} {kV_shared_out doc_shared_out pm_shared_out ct_shared_out oc_shared_out : Value} {cv_shared_out : Value} {an_shared_out od_shared_out : Option Addr} {osl_shared_out : Array (Option Value)} {f_square_in : Addr} {kV_square_in doc_square_in pm_square_in ct_square_in oc_square_in : Value} {cv_square_in : Value} {an_square_in od_square_in : Option Addr} {osl_square_in : Array (Option Value)} {f_square_of : Addr} {kV_square_of doc_square_of pm_square_of ct_square_of oc_square_of : Value} {cv_square_of : Value} {an_square_of od_square_of : Option Addr} {osl_square_of : Array (Option Value)} {f_power_squared : Addr} {kV_power_squared doc_power_squared pm_power_squared ct_power_squared oc_power_squared : Value} {cv_power_squared : Value} {an_power_squared od_power_squared : Option Addr} {osl_power_squared : Array (Option Value)} {f_power_led : Addr} {kV_power_led doc_power_led pm_power_led ct_power_led oc_power_led : Value} {cv_power_led : Value} {an_power_led od_power_led : Option Addr} {osl_power_led : Array (Option Value)} {f_need_exponent : Addr} {kV_need_exponent doc_need_exponent pm_need_exponent ct_need_exponent oc_need_exponent : Value} {cv_need_exponent : Value} {an_need_exponent od_need_exponent : Option Addr} {osl_need_exponent : Array (Option Value)} {f_letter_square : Addr} {kV_letter_square doc_letter_square pm_letter_square ct_letter_square oc_letter_square : Value} {cv_letter_square : Value} {an_letter_square od_letter_square : Option Addr} {osl_letter_square : Array (Option Value)} {f_letter_word : Addr} {kV_letter_word doc_letter_word pm_letter_word ct_letter_word oc_letter_word : Value} {cv_letter_word : Value} {an_letter_word od_letter_word : Option Addr} {osl_letter_word : Array (Option Value)} {f_letter_words : Addr} {kV_letter_words doc_letter_words pm_letter_words ct_letter_words oc_letter_words : Value} {cv_letter_words : Value} {an_letter_words od_letter_words : Option Addr} {osl_letter_words : Array (Option Value)} {f_letter_reach : Addr} {kV_letter_reach doc_letter_reach pm_letter_reach ct_letter_reach oc_letter_reach : Value} {cv_letter_reach : Value} {an_letter_reach od_letter_reach : Option Addr} {osl_letter_reach : Array (Option Value)} {f_stages_in : Addr} {kV_stages_in doc_stages_in pm_stages_in ct_stages_in oc_stages_in : Value} {cv_stages_in : Value} {an_stages_in od_stages_in : Option Addr} {osl_stages_in : Array (Option Value)} {f_word_in : Addr} {kV_word_in doc_word_in pm_word_in ct_word_in oc_word_in : Value} {cv_word_in : Value} {an_word_in od_word_in : Option Addr} {osl_word_in : Array (Option Value)} {f_act_word : Addr} {kV_act_word doc_act_word pm_act_word ct_act_word oc_act_word : Value} {cv_act_word : Value} {an_act_word od_act_word : Option Addr} {osl_act_word : Array (Option Value)} {f__law_cup : Addr} {kV__law_cup doc__law_cup pm__law_cup ct__law_cup oc__law_cup : Value} {cv__law_cup : Value} {an__law_cup od__law_cup : Option Addr} {osl__law_cup : Array (Option Value)} {f__law_roll : Addr} {kV__law_roll doc__law_roll pm__law_roll ct__law_roll oc__law_roll : Value} {cv__law_roll : Value} {an__law_roll od__law_roll : Option Addr} {osl__law_roll : Array (Option Value)} {f__law_sort : Addr} {kV__law_sort doc__law_sort pm__law_sort ct__law_sort oc__law_sort : Value} {cv__law_sort : Value} {an__law_sort od__law_sort : Option Addr} {osl__law_sort : Array (Option Value)} {f__law_like : Addr} {kV__law_like doc__law_like pm__law_like ct__law_like oc__law_like : Value} {cv__law_like : Value} {an__law_like od__law_like : Option Addr} {osl__law_like : Array (Option Value)} {f__law_ways : Addr} {kV__law_ways doc__law_ways pm__law_ways ct__law_ways oc__law_ways : Value} {cv__law_ways : Value} {an__law_ways od__law_ways : Option Addr} {osl__law_ways : Array (Option Value)} {f__law_rising : Addr} {kV__law_rising doc__law_rising pm__law_rising ct__law_rising oc__law_rising : Value} {cv__law_rising : Value} {an__law_rising od__law_rising : Option Addr} {osl__law_rising : Array (Option Value)} {f__law_error : Addr} {kV__law_error doc__law_error pm__law_error ct__law_error oc__law_error : Value} {cv__law_error : Value} {an__law_error od__law_error : Option Addr} {osl__law_error : Array (Option Value)} {f__law_led : Addr} {kV__law_led doc__law_led pm__law_led ct__law_led oc__law_led : Value} {cv__law_led : Value} {an__law_led od__law_led : Option Addr} {osl__law_led : Array (Option Value)} {f__law_squares_right : Addr} {kV__law_squares_right doc__law_squares_right pm__law_squares_right ct__law_squares_right oc__law_squares_right : Value} {cv__law_squares_right : Value} {an__law_squares_right od__law_squares_right : Option Addr} {osl__law_squares_right : Array (Option Value)} {f__law_word_right : Addr} {kV__law_word_right doc__law_word_right pm__law_word_right ct__law_word_right oc__law_word_right : Value} {cv__law_word_right : Value} {an__law_word_right od__law_word_right : Option Addr} {osl__law_word_right : Array (Option Value)} {f__law_words_right : Addr} {kV__law_words_right doc__law_words_right pm__law_words_right ct__law_words_right oc__law_words_right : Value} {cv__law_words_right : Value} {an__law_words_right od__law_words_right : Option Addr} {osl__law_words_right : Array (Option Value)} {f__law_reach_right : Addr} {kV__law_reach_right doc__law_reach_right pm__law_reach_right ct__law_reach_right oc__law_reach_right : Value} {cv__law_reach_right : Value} {an__law_reach_right od__law_reach_right : Option Addr} {osl__law_reach_right : Array (Option Value)} {f__law_errors_right : Addr} {kV__law_errors_right doc__law_errors_right pm__law_errors_right ct__law_errors_right oc__law_errors_right : Value} {x__law_errors_right : Addr} {an__law_errors_right od__law_errors_right : Option Addr} {osl__law_errors_right : Array (Option Value)} {f_law : Addr} {kV_law doc_law pm_law ct_law oc_law : Value} {cv_law : Value} {an_law od_law : Option Addr} {osl_law : Array (Option Value)} {p__law_errors_right : Addr} {e2__law_errors_right : Value} {d2__law_errors_right : Option Addr} {v2__law_errors_right : Array Value} {s2__law_errors_right : Array (Option Value)} {t_FAR : Tok} {t_GREAT_squares : Tok} {t_GREAT_words : Tok} {t_HIGH : Tok} {t_LETTERS : Tok} {t_LONG : Tok} {t_MOST : Tok} {c_0 : Addr} {c_1 : Addr} {c_6 : Addr} {c_8 : Addr} {c_19 : Addr}
    (a_is_whole : PySem.W.nsIn K mainGlobals "is_whole" = some (some (.ref f_is_whole)))
    (l_is_whole : K.lookup f_is_whole = some ⟨oc_is_whole, od_is_whole, .func (PySem.W.fnOf "is_whole" "is_whole" (defArgs s_is_whole) (defBody s_is_whole) (defScope s_is_whole) .none kV_is_whole doc_is_whole pm_is_whole an_is_whole cv_is_whole ct_is_whole), osl_is_whole⟩)
    (c_is_whole : PySem.W.codeIn K cv_is_whole "is_whole" = true)
    (k_is_whole : PySem.W.keepIn K (.ref f_is_whole) = true)
    (a_need_whole : PySem.W.nsIn K mainGlobals "need_whole" = some (some (.ref f_need_whole)))
    (l_need_whole : K.lookup f_need_whole = some ⟨oc_need_whole, od_need_whole, .func (PySem.W.fnOf "need_whole" "need_whole" (defArgs s_need_whole) (defBody s_need_whole) (defScope s_need_whole) .none kV_need_whole doc_need_whole pm_need_whole an_need_whole cv_need_whole ct_need_whole), osl_need_whole⟩)
    (c_need_whole : PySem.W.codeIn K cv_need_whole "need_whole" = true)
    (k_need_whole : PySem.W.keepIn K (.ref f_need_whole) = true)
    (a_is_tuple_of : PySem.W.nsIn K mainGlobals "is_tuple_of" = some (some (.ref f_is_tuple_of)))
    (l_is_tuple_of : K.lookup f_is_tuple_of = some ⟨oc_is_tuple_of, od_is_tuple_of, .func (PySem.W.fnOf "is_tuple_of" "is_tuple_of" (defArgs s_is_tuple_of) (defBody s_is_tuple_of) (defScope s_is_tuple_of) .none kV_is_tuple_of doc_is_tuple_of pm_is_tuple_of an_is_tuple_of cv_is_tuple_of ct_is_tuple_of), osl_is_tuple_of⟩)
    (c_is_tuple_of : PySem.W.codeIn K cv_is_tuple_of "is_tuple_of" = true)
    (k_is_tuple_of : PySem.W.keepIn K (.ref f_is_tuple_of) = true)
    (a_is_word : PySem.W.nsIn K mainGlobals "is_word" = some (some (.ref f_is_word)))
    (l_is_word : K.lookup f_is_word = some ⟨oc_is_word, od_is_word, .func (PySem.W.fnOf "is_word" "is_word" (defArgs s_is_word) (defBody s_is_word) (defScope s_is_word) .none kV_is_word doc_is_word pm_is_word an_is_word cv_is_word ct_is_word), osl_is_word⟩)
    (c_is_word : PySem.W.codeIn K cv_is_word "is_word" = true)
    (k_is_word : PySem.W.keepIn K (.ref f_is_word) = true)
    (a_need_word : PySem.W.nsIn K mainGlobals "need_word" = some (some (.ref f_need_word)))
    (l_need_word : K.lookup f_need_word = some ⟨oc_need_word, od_need_word, .func (PySem.W.fnOf "need_word" "need_word" (defArgs s_need_word) (defBody s_need_word) (defScope s_need_word) .none kV_need_word doc_need_word pm_need_word an_need_word cv_need_word ct_need_word), osl_need_word⟩)
    (c_need_word : PySem.W.codeIn K cv_need_word "need_word" = true)
    (k_need_word : PySem.W.keepIn K (.ref f_need_word) = true)
    (a_is_odd : PySem.W.nsIn K mainGlobals "is_odd" = some (some (.ref f_is_odd)))
    (l_is_odd : K.lookup f_is_odd = some ⟨oc_is_odd, od_is_odd, .func (PySem.W.fnOf "is_odd" "is_odd" (defArgs s_is_odd) (defBody s_is_odd) (defScope s_is_odd) .none kV_is_odd doc_is_odd pm_is_odd an_is_odd cv_is_odd ct_is_odd), osl_is_odd⟩)
    (c_is_odd : PySem.W.codeIn K cv_is_odd "is_odd" = true)
    (k_is_odd : PySem.W.keepIn K (.ref f_is_odd) = true)
    (a_is_odd_choice : PySem.W.nsIn K mainGlobals "is_odd_choice" = some (some (.ref f_is_odd_choice)))
    (l_is_odd_choice : K.lookup f_is_odd_choice = some ⟨oc_is_odd_choice, od_is_odd_choice, .func (PySem.W.fnOf "is_odd_choice" "is_odd_choice" (defArgs s_is_odd_choice) (defBody s_is_odd_choice) (defScope s_is_odd_choice) .none kV_is_odd_choice doc_is_odd_choice pm_is_odd_choice an_is_odd_choice cv_is_odd_choice ct_is_odd_choice), osl_is_odd_choice⟩)
    (c_is_odd_choice : PySem.W.codeIn K cv_is_odd_choice "is_odd_choice" = true)
    (k_is_odd_choice : PySem.W.keepIn K (.ref f_is_odd_choice) = true)
    (a_words_from : PySem.W.nsIn K mainGlobals "words_from" = some (some (.ref f_words_from)))
    (l_words_from : K.lookup f_words_from = some ⟨oc_words_from, od_words_from, .func (PySem.W.fnOf "words_from" "words_from" (defArgs s_words_from) (defBody s_words_from) (defScope s_words_from) .none kV_words_from doc_words_from pm_words_from an_words_from cv_words_from ct_words_from), osl_words_from⟩)
    (c_words_from : PySem.W.codeIn K cv_words_from "words_from" = true)
    (k_words_from : PySem.W.keepIn K (.ref f_words_from) = true)
    (a_rising_in : PySem.W.nsIn K mainGlobals "rising_in" = some (some (.ref f_rising_in)))
    (l_rising_in : K.lookup f_rising_in = some ⟨oc_rising_in, od_rising_in, .func (PySem.W.fnOf "rising_in" "rising_in" (defArgs s_rising_in) (defBody s_rising_in) (defScope s_rising_in) .none kV_rising_in doc_rising_in pm_rising_in an_rising_in cv_rising_in ct_rising_in), osl_rising_in⟩)
    (c_rising_in : PySem.W.codeIn K cv_rising_in "rising_in" = true)
    (k_rising_in : PySem.W.keepIn K (.ref f_rising_in) = true)
    (a_odd_ones : PySem.W.nsIn K mainGlobals "odd_ones" = some (some (.ref f_odd_ones)))
    (l_odd_ones : K.lookup f_odd_ones = some ⟨oc_odd_ones, od_odd_ones, .func (PySem.W.fnOf "odd_ones" "odd_ones" (defArgs s_odd_ones) (defBody s_odd_ones) (defScope s_odd_ones) .none kV_odd_ones doc_odd_ones pm_odd_ones an_odd_ones cv_odd_ones ct_odd_ones), osl_odd_ones⟩)
    (c_odd_ones : PySem.W.codeIn K cv_odd_ones "odd_ones" = true)
    (k_odd_ones : PySem.W.keepIn K (.ref f_odd_ones) = true)
    (a_is_polynomial : PySem.W.nsIn K mainGlobals "is_polynomial" = some (some (.ref f_is_polynomial)))
    (l_is_polynomial : K.lookup f_is_polynomial = some ⟨oc_is_polynomial, od_is_polynomial, .func (PySem.W.fnOf "is_polynomial" "is_polynomial" (defArgs s_is_polynomial) (defBody s_is_polynomial) (defScope s_is_polynomial) .none kV_is_polynomial doc_is_polynomial pm_is_polynomial an_is_polynomial cv_is_polynomial ct_is_polynomial), osl_is_polynomial⟩)
    (c_is_polynomial : PySem.W.codeIn K cv_is_polynomial "is_polynomial" = true)
    (k_is_polynomial : PySem.W.keepIn K (.ref f_is_polynomial) = true)
    (a_need_polynomial : PySem.W.nsIn K mainGlobals "need_polynomial" = some (some (.ref f_need_polynomial)))
    (l_need_polynomial : K.lookup f_need_polynomial = some ⟨oc_need_polynomial, od_need_polynomial, .func (PySem.W.fnOf "need_polynomial" "need_polynomial" (defArgs s_need_polynomial) (defBody s_need_polynomial) (defScope s_need_polynomial) .none kV_need_polynomial doc_need_polynomial pm_need_polynomial an_need_polynomial cv_need_polynomial ct_need_polynomial), osl_need_polynomial⟩)
    (c_need_polynomial : PySem.W.codeIn K cv_need_polynomial "need_polynomial" = true)
    (k_need_polynomial : PySem.W.keepIn K (.ref f_need_polynomial) = true)
    (a_need_number : PySem.W.nsIn K mainGlobals "need_number" = some (some (.ref f_need_number)))
    (l_need_number : K.lookup f_need_number = some ⟨oc_need_number, od_need_number, .func (PySem.W.fnOf "need_number" "need_number" (defArgs s_need_number) (defBody s_need_number) (defScope s_need_number) .none kV_need_number doc_need_number pm_need_number an_need_number cv_need_number ct_need_number), osl_need_number⟩)
    (c_need_number : PySem.W.codeIn K cv_need_number "need_number" = true)
    (k_need_number : PySem.W.keepIn K (.ref f_need_number) = true)
    (a_shared_out : PySem.W.nsIn K mainGlobals "shared_out" = some (some (.ref f_shared_out)))
    (l_shared_out : K.lookup f_shared_out = some ⟨oc_shared_out, od_shared_out, .func (PySem.W.fnOf "shared_out" "shared_out" (defArgs s_shared_out) (defBody s_shared_out) (defScope s_shared_out) .none kV_shared_out doc_shared_out pm_shared_out an_shared_out cv_shared_out ct_shared_out), osl_shared_out⟩)
    (c_shared_out : PySem.W.codeIn K cv_shared_out "shared_out" = true)
    (k_shared_out : PySem.W.keepIn K (.ref f_shared_out) = true)
    (a_square_in : PySem.W.nsIn K mainGlobals "square_in" = some (some (.ref f_square_in)))
    (l_square_in : K.lookup f_square_in = some ⟨oc_square_in, od_square_in, .func (PySem.W.fnOf "square_in" "square_in" (defArgs s_square_in) (defBody s_square_in) (defScope s_square_in) .none kV_square_in doc_square_in pm_square_in an_square_in cv_square_in ct_square_in), osl_square_in⟩)
    (c_square_in : PySem.W.codeIn K cv_square_in "square_in" = true)
    (k_square_in : PySem.W.keepIn K (.ref f_square_in) = true)
    (a_square_of : PySem.W.nsIn K mainGlobals "square_of" = some (some (.ref f_square_of)))
    (l_square_of : K.lookup f_square_of = some ⟨oc_square_of, od_square_of, .func (PySem.W.fnOf "square_of" "square_of" (defArgs s_square_of) (defBody s_square_of) (defScope s_square_of) .none kV_square_of doc_square_of pm_square_of an_square_of cv_square_of ct_square_of), osl_square_of⟩)
    (c_square_of : PySem.W.codeIn K cv_square_of "square_of" = true)
    (k_square_of : PySem.W.keepIn K (.ref f_square_of) = true)
    (a_power_squared : PySem.W.nsIn K mainGlobals "power_squared" = some (some (.ref f_power_squared)))
    (l_power_squared : K.lookup f_power_squared = some ⟨oc_power_squared, od_power_squared, .func (PySem.W.fnOf "power_squared" "power_squared" (defArgs s_power_squared) (defBody s_power_squared) (defScope s_power_squared) .none kV_power_squared doc_power_squared pm_power_squared an_power_squared cv_power_squared ct_power_squared), osl_power_squared⟩)
    (c_power_squared : PySem.W.codeIn K cv_power_squared "power_squared" = true)
    (k_power_squared : PySem.W.keepIn K (.ref f_power_squared) = true)
    (a_power_led : PySem.W.nsIn K mainGlobals "power_led" = some (some (.ref f_power_led)))
    (l_power_led : K.lookup f_power_led = some ⟨oc_power_led, od_power_led, .func (PySem.W.fnOf "power_led" "power_led" (defArgs s_power_led) (defBody s_power_led) (defScope s_power_led) .none kV_power_led doc_power_led pm_power_led an_power_led cv_power_led ct_power_led), osl_power_led⟩)
    (c_power_led : PySem.W.codeIn K cv_power_led "power_led" = true)
    (k_power_led : PySem.W.keepIn K (.ref f_power_led) = true)
    (a_need_exponent : PySem.W.nsIn K mainGlobals "need_exponent" = some (some (.ref f_need_exponent)))
    (l_need_exponent : K.lookup f_need_exponent = some ⟨oc_need_exponent, od_need_exponent, .func (PySem.W.fnOf "need_exponent" "need_exponent" (defArgs s_need_exponent) (defBody s_need_exponent) (defScope s_need_exponent) .none kV_need_exponent doc_need_exponent pm_need_exponent an_need_exponent cv_need_exponent ct_need_exponent), osl_need_exponent⟩)
    (c_need_exponent : PySem.W.codeIn K cv_need_exponent "need_exponent" = true)
    (k_need_exponent : PySem.W.keepIn K (.ref f_need_exponent) = true)
    (a_letter_square : PySem.W.nsIn K mainGlobals "letter_square" = some (some (.ref f_letter_square)))
    (l_letter_square : K.lookup f_letter_square = some ⟨oc_letter_square, od_letter_square, .func (PySem.W.fnOf "letter_square" "letter_square" (defArgs s_letter_square) (defBody s_letter_square) (defScope s_letter_square) .none kV_letter_square doc_letter_square pm_letter_square an_letter_square cv_letter_square ct_letter_square), osl_letter_square⟩)
    (c_letter_square : PySem.W.codeIn K cv_letter_square "letter_square" = true)
    (k_letter_square : PySem.W.keepIn K (.ref f_letter_square) = true)
    (a_letter_word : PySem.W.nsIn K mainGlobals "letter_word" = some (some (.ref f_letter_word)))
    (l_letter_word : K.lookup f_letter_word = some ⟨oc_letter_word, od_letter_word, .func (PySem.W.fnOf "letter_word" "letter_word" (defArgs s_letter_word) (defBody s_letter_word) (defScope s_letter_word) .none kV_letter_word doc_letter_word pm_letter_word an_letter_word cv_letter_word ct_letter_word), osl_letter_word⟩)
    (c_letter_word : PySem.W.codeIn K cv_letter_word "letter_word" = true)
    (k_letter_word : PySem.W.keepIn K (.ref f_letter_word) = true)
    (a_letter_words : PySem.W.nsIn K mainGlobals "letter_words" = some (some (.ref f_letter_words)))
    (l_letter_words : K.lookup f_letter_words = some ⟨oc_letter_words, od_letter_words, .func (PySem.W.fnOf "letter_words" "letter_words" (defArgs s_letter_words) (defBody s_letter_words) (defScope s_letter_words) .none kV_letter_words doc_letter_words pm_letter_words an_letter_words cv_letter_words ct_letter_words), osl_letter_words⟩)
    (c_letter_words : PySem.W.codeIn K cv_letter_words "letter_words" = true)
    (k_letter_words : PySem.W.keepIn K (.ref f_letter_words) = true)
    (a_letter_reach : PySem.W.nsIn K mainGlobals "letter_reach" = some (some (.ref f_letter_reach)))
    (l_letter_reach : K.lookup f_letter_reach = some ⟨oc_letter_reach, od_letter_reach, .func (PySem.W.fnOf "letter_reach" "letter_reach" (defArgs s_letter_reach) (defBody s_letter_reach) (defScope s_letter_reach) .none kV_letter_reach doc_letter_reach pm_letter_reach an_letter_reach cv_letter_reach ct_letter_reach), osl_letter_reach⟩)
    (c_letter_reach : PySem.W.codeIn K cv_letter_reach "letter_reach" = true)
    (k_letter_reach : PySem.W.keepIn K (.ref f_letter_reach) = true)
    (a_stages_in : PySem.W.nsIn K mainGlobals "stages_in" = some (some (.ref f_stages_in)))
    (l_stages_in : K.lookup f_stages_in = some ⟨oc_stages_in, od_stages_in, .func (PySem.W.fnOf "stages_in" "stages_in" (defArgs s_stages_in) (defBody s_stages_in) (defScope s_stages_in) .none kV_stages_in doc_stages_in pm_stages_in an_stages_in cv_stages_in ct_stages_in), osl_stages_in⟩)
    (c_stages_in : PySem.W.codeIn K cv_stages_in "stages_in" = true)
    (k_stages_in : PySem.W.keepIn K (.ref f_stages_in) = true)
    (a_word_in : PySem.W.nsIn K mainGlobals "word_in" = some (some (.ref f_word_in)))
    (l_word_in : K.lookup f_word_in = some ⟨oc_word_in, od_word_in, .func (PySem.W.fnOf "word_in" "word_in" (defArgs s_word_in) (defBody s_word_in) (defScope s_word_in) .none kV_word_in doc_word_in pm_word_in an_word_in cv_word_in ct_word_in), osl_word_in⟩)
    (c_word_in : PySem.W.codeIn K cv_word_in "word_in" = true)
    (k_word_in : PySem.W.keepIn K (.ref f_word_in) = true)
    (a_act_word : PySem.W.nsIn K mainGlobals "act_word" = some (some (.ref f_act_word)))
    (l_act_word : K.lookup f_act_word = some ⟨oc_act_word, od_act_word, .func (PySem.W.fnOf "act_word" "act_word" (defArgs s_act_word) (defBody s_act_word) (defScope s_act_word) .none kV_act_word doc_act_word pm_act_word an_act_word cv_act_word ct_act_word), osl_act_word⟩)
    (c_act_word : PySem.W.codeIn K cv_act_word "act_word" = true)
    (k_act_word : PySem.W.keepIn K (.ref f_act_word) = true)
    (a__law_cup : PySem.W.nsIn K mainGlobals "_law_cup" = some (some (.ref f__law_cup)))
    (l__law_cup : K.lookup f__law_cup = some ⟨oc__law_cup, od__law_cup, .func (PySem.W.fnOf "_law_cup" "_law_cup" (defArgs s__law_cup) (defBody s__law_cup) (defScope s__law_cup) .none kV__law_cup doc__law_cup pm__law_cup an__law_cup cv__law_cup ct__law_cup), osl__law_cup⟩)
    (c__law_cup : PySem.W.codeIn K cv__law_cup "_law_cup" = true)
    (k__law_cup : PySem.W.keepIn K (.ref f__law_cup) = true)
    (a__law_roll : PySem.W.nsIn K mainGlobals "_law_roll" = some (some (.ref f__law_roll)))
    (l__law_roll : K.lookup f__law_roll = some ⟨oc__law_roll, od__law_roll, .func (PySem.W.fnOf "_law_roll" "_law_roll" (defArgs s__law_roll) (defBody s__law_roll) (defScope s__law_roll) .none kV__law_roll doc__law_roll pm__law_roll an__law_roll cv__law_roll ct__law_roll), osl__law_roll⟩)
    (c__law_roll : PySem.W.codeIn K cv__law_roll "_law_roll" = true)
    (k__law_roll : PySem.W.keepIn K (.ref f__law_roll) = true)
    (a__law_sort : PySem.W.nsIn K mainGlobals "_law_sort" = some (some (.ref f__law_sort)))
    (l__law_sort : K.lookup f__law_sort = some ⟨oc__law_sort, od__law_sort, .func (PySem.W.fnOf "_law_sort" "_law_sort" (defArgs s__law_sort) (defBody s__law_sort) (defScope s__law_sort) .none kV__law_sort doc__law_sort pm__law_sort an__law_sort cv__law_sort ct__law_sort), osl__law_sort⟩)
    (c__law_sort : PySem.W.codeIn K cv__law_sort "_law_sort" = true)
    (k__law_sort : PySem.W.keepIn K (.ref f__law_sort) = true)
    (a__law_like : PySem.W.nsIn K mainGlobals "_law_like" = some (some (.ref f__law_like)))
    (l__law_like : K.lookup f__law_like = some ⟨oc__law_like, od__law_like, .func (PySem.W.fnOf "_law_like" "_law_like" (defArgs s__law_like) (defBody s__law_like) (defScope s__law_like) .none kV__law_like doc__law_like pm__law_like an__law_like cv__law_like ct__law_like), osl__law_like⟩)
    (c__law_like : PySem.W.codeIn K cv__law_like "_law_like" = true)
    (k__law_like : PySem.W.keepIn K (.ref f__law_like) = true)
    (a__law_ways : PySem.W.nsIn K mainGlobals "_law_ways" = some (some (.ref f__law_ways)))
    (l__law_ways : K.lookup f__law_ways = some ⟨oc__law_ways, od__law_ways, .func (PySem.W.fnOf "_law_ways" "_law_ways" (defArgs s__law_ways) (defBody s__law_ways) (defScope s__law_ways) .none kV__law_ways doc__law_ways pm__law_ways an__law_ways cv__law_ways ct__law_ways), osl__law_ways⟩)
    (c__law_ways : PySem.W.codeIn K cv__law_ways "_law_ways" = true)
    (k__law_ways : PySem.W.keepIn K (.ref f__law_ways) = true)
    (a__law_rising : PySem.W.nsIn K mainGlobals "_law_rising" = some (some (.ref f__law_rising)))
    (l__law_rising : K.lookup f__law_rising = some ⟨oc__law_rising, od__law_rising, .func (PySem.W.fnOf "_law_rising" "_law_rising" (defArgs s__law_rising) (defBody s__law_rising) (defScope s__law_rising) .none kV__law_rising doc__law_rising pm__law_rising an__law_rising cv__law_rising ct__law_rising), osl__law_rising⟩)
    (c__law_rising : PySem.W.codeIn K cv__law_rising "_law_rising" = true)
    (k__law_rising : PySem.W.keepIn K (.ref f__law_rising) = true)
    (a__law_error : PySem.W.nsIn K mainGlobals "_law_error" = some (some (.ref f__law_error)))
    (l__law_error : K.lookup f__law_error = some ⟨oc__law_error, od__law_error, .func (PySem.W.fnOf "_law_error" "_law_error" (defArgs s__law_error) (defBody s__law_error) (defScope s__law_error) .none kV__law_error doc__law_error pm__law_error an__law_error cv__law_error ct__law_error), osl__law_error⟩)
    (c__law_error : PySem.W.codeIn K cv__law_error "_law_error" = true)
    (k__law_error : PySem.W.keepIn K (.ref f__law_error) = true)
    (a__law_led : PySem.W.nsIn K mainGlobals "_law_led" = some (some (.ref f__law_led)))
    (l__law_led : K.lookup f__law_led = some ⟨oc__law_led, od__law_led, .func (PySem.W.fnOf "_law_led" "_law_led" (defArgs s__law_led) (defBody s__law_led) (defScope s__law_led) .none kV__law_led doc__law_led pm__law_led an__law_led cv__law_led ct__law_led), osl__law_led⟩)
    (c__law_led : PySem.W.codeIn K cv__law_led "_law_led" = true)
    (k__law_led : PySem.W.keepIn K (.ref f__law_led) = true)
    (a__law_squares_right : PySem.W.nsIn K mainGlobals "_law_squares_right" = some (some (.ref f__law_squares_right)))
    (l__law_squares_right : K.lookup f__law_squares_right = some ⟨oc__law_squares_right, od__law_squares_right, .func (PySem.W.fnOf "_law_squares_right" "_law_squares_right" (defArgs s__law_squares_right) (defBody s__law_squares_right) (defScope s__law_squares_right) .none kV__law_squares_right doc__law_squares_right pm__law_squares_right an__law_squares_right cv__law_squares_right ct__law_squares_right), osl__law_squares_right⟩)
    (c__law_squares_right : PySem.W.codeIn K cv__law_squares_right "_law_squares_right" = true)
    (k__law_squares_right : PySem.W.keepIn K (.ref f__law_squares_right) = true)
    (a__law_word_right : PySem.W.nsIn K mainGlobals "_law_word_right" = some (some (.ref f__law_word_right)))
    (l__law_word_right : K.lookup f__law_word_right = some ⟨oc__law_word_right, od__law_word_right, .func (PySem.W.fnOf "_law_word_right" "_law_word_right" (defArgs s__law_word_right) (defBody s__law_word_right) (defScope s__law_word_right) .none kV__law_word_right doc__law_word_right pm__law_word_right an__law_word_right cv__law_word_right ct__law_word_right), osl__law_word_right⟩)
    (c__law_word_right : PySem.W.codeIn K cv__law_word_right "_law_word_right" = true)
    (k__law_word_right : PySem.W.keepIn K (.ref f__law_word_right) = true)
    (a__law_words_right : PySem.W.nsIn K mainGlobals "_law_words_right" = some (some (.ref f__law_words_right)))
    (l__law_words_right : K.lookup f__law_words_right = some ⟨oc__law_words_right, od__law_words_right, .func (PySem.W.fnOf "_law_words_right" "_law_words_right" (defArgs s__law_words_right) (defBody s__law_words_right) (defScope s__law_words_right) .none kV__law_words_right doc__law_words_right pm__law_words_right an__law_words_right cv__law_words_right ct__law_words_right), osl__law_words_right⟩)
    (c__law_words_right : PySem.W.codeIn K cv__law_words_right "_law_words_right" = true)
    (k__law_words_right : PySem.W.keepIn K (.ref f__law_words_right) = true)
    (a__law_reach_right : PySem.W.nsIn K mainGlobals "_law_reach_right" = some (some (.ref f__law_reach_right)))
    (l__law_reach_right : K.lookup f__law_reach_right = some ⟨oc__law_reach_right, od__law_reach_right, .func (PySem.W.fnOf "_law_reach_right" "_law_reach_right" (defArgs s__law_reach_right) (defBody s__law_reach_right) (defScope s__law_reach_right) .none kV__law_reach_right doc__law_reach_right pm__law_reach_right an__law_reach_right cv__law_reach_right ct__law_reach_right), osl__law_reach_right⟩)
    (c__law_reach_right : PySem.W.codeIn K cv__law_reach_right "_law_reach_right" = true)
    (k__law_reach_right : PySem.W.keepIn K (.ref f__law_reach_right) = true)
    (a__law_errors_right : PySem.W.nsIn K mainGlobals "_law_errors_right" = some (some (.ref f__law_errors_right)))
    (l__law_errors_right : K.lookup f__law_errors_right = some ⟨oc__law_errors_right, od__law_errors_right, .func (PySem.W.fnOf "_law_errors_right" "_law_errors_right" (defArgs s__law_errors_right) (defBody s__law_errors_right) (defScope s__law_errors_right) .none kV__law_errors_right doc__law_errors_right pm__law_errors_right an__law_errors_right (.ref x__law_errors_right) ct__law_errors_right), osl__law_errors_right⟩)
    (c__law_errors_right : PySem.W.codeIn K (.ref x__law_errors_right) "_law_errors_right" = true)
    (k__law_errors_right : PySem.W.keepIn K (.ref f__law_errors_right) = true)
    (a_law : PySem.W.nsIn K mainGlobals "law" = some (some (.ref f_law)))
    (l_law : K.lookup f_law = some ⟨oc_law, od_law, .func (PySem.W.fnOf "law" "law" (defArgs s_law) (defBody s_law) (defScope s_law) .none kV_law doc_law pm_law an_law cv_law ct_law), osl_law⟩)
    (c_law : PySem.W.codeIn K cv_law "law" = true)
    (k_law : PySem.W.keepIn K (.ref f_law) = true)
    (ti__law_errors_right : K.lookup x__law_errors_right = some ⟨e2__law_errors_right, d2__law_errors_right, .fields v2__law_errors_right, s2__law_errors_right⟩)
    (tv__law_errors_right : (v2__law_errors_right[11]? : Option Value) = some (.ref p__law_errors_right))
    (th__law_errors_right : PySem.W.codeHdIn K x__law_errors_right p__law_errors_right = true)
    (te__law_errors_right : h.get? p__law_errors_right = some { cls := .none, data := .fields #[] })
    (tn__law_errors_right : K.lookup p__law_errors_right = none)
    (zn_abs : PySem.W.nsIn K mainGlobals "abs" = some none)
    (zn_all : PySem.W.nsIn K mainGlobals "all" = some none)
    (zn_bool : PySem.W.nsIn K mainGlobals "bool" = some none)
    (zn_int : PySem.W.nsIn K mainGlobals "int" = some none)
    (zn_isinstance : PySem.W.nsIn K mainGlobals "isinstance" = some none)
    (zn_len : PySem.W.nsIn K mainGlobals "len" = some none)
    (zn_list : PySem.W.nsIn K mainGlobals "list" = some none)
    (zn_max : PySem.W.nsIn K mainGlobals "max" = some none)
    (zn_min : PySem.W.nsIn K mainGlobals "min" = some none)
    (zn_range : PySem.W.nsIn K mainGlobals "range" = some none)
    (zn_set : PySem.W.nsIn K mainGlobals "set" = some none)
    (zn_sorted : PySem.W.nsIn K mainGlobals "sorted" = some none)
    (zn_str : PySem.W.nsIn K mainGlobals "str" = some none)
    (zn_sum : PySem.W.nsIn K mainGlobals "sum" = some none)
    (zn_tuple : PySem.W.nsIn K mainGlobals "tuple" = some none)
    (zn_zip : PySem.W.nsIn K mainGlobals "zip" = some none)
    (zg_FAR : PySem.W.nsIn K mainGlobals "FAR" = some (some (.int 200 t_FAR)))
    (zg_GREAT_squares : PySem.W.nsIn K mainGlobals "GREAT_squares" = some (some (.int 64 t_GREAT_squares)))
    (zg_GREAT_words : PySem.W.nsIn K mainGlobals "GREAT_words" = some (some (.int 40 t_GREAT_words)))
    (zg_HIGH : PySem.W.nsIn K mainGlobals "HIGH" = some (some (.int 64 t_HIGH)))
    (zg_LETTERS : PySem.W.nsIn K mainGlobals "LETTERS" = some (some (.int 8 t_LETTERS)))
    (zg_LONG : PySem.W.nsIn K mainGlobals "LONG" = some (some (.int 12 t_LONG)))
    (zg_MOST : PySem.W.nsIn K mainGlobals "MOST" = some (some (.int 2000 t_MOST)))
    (ac_0 : PySem.W.nsIn K mainGlobals "SquareError" = some (some (.ref c_0)))
    (ac_1 : PySem.W.nsIn K mainGlobals "InvalidNumber" = some (some (.ref c_1)))
    (ac_6 : PySem.W.nsIn K mainGlobals "InvalidWord" = some (some (.ref c_6)))
    (ac_8 : PySem.W.nsIn K mainGlobals "InvalidPolynomial" = some (some (.ref c_8)))
    (ac_19 : PySem.W.nsIn K mainGlobals "TooMany" = some (some (.ref c_19)))
    (zkc_1 : PySem.W.keepIn K (.ref c_1) = true)
    (zxc_1 : PySem.W.excIn K c_1 [.type "ValueError", .type "Exception", .type "BaseException", .type "object"] "ValueError.__new__" = true)
    (ztc_1 : PySem.W.typeIn K (.ref c_1) = some (.type "type"))
    (zkc_6 : PySem.W.keepIn K (.ref c_6) = true)
    (zxc_6 : PySem.W.excIn K c_6 [.type "ValueError", .type "Exception", .type "BaseException", .type "object"] "ValueError.__new__" = true)
    (ztc_6 : PySem.W.typeIn K (.ref c_6) = some (.type "type"))
    (zkc_8 : PySem.W.keepIn K (.ref c_8) = true)
    (zxc_8 : PySem.W.excIn K c_8 [.type "ValueError", .type "Exception", .type "BaseException", .type "object"] "ValueError.__new__" = true)
    (ztc_8 : PySem.W.typeIn K (.ref c_8) = some (.type "type"))
    (e1_0 : PySem.W.findIn K (.ref c_0) "__getattribute__" = some (some (.builtin "BaseException.__getattribute__")))
    (e2_0 : PySem.W.findIn K (.ref c_0) "__getattr__" = some none)
    (e3_0 : PySem.W.subIn K (.ref c_0) (.type "BaseException") = some true)
    (e4_0 : PySem.W.hasDictIn K c_0 = true)
    (e5_0 : PySem.W.findIn K (.ref c_0) "__class__" = some (some (.builtin "object.__class__")))
    (e8_0 : PySem.W.mroIn K c_0 (.type "object") = some true)
    (x_0 : PySem.W.exmOne K (.ref c_0) (.ref c_0) = some true)
    (q_0_0 : PySem.W.kitOne K (.ref c_0) (.ref c_0) = some true)
    (q_0_1 : PySem.W.kitOne K (.ref c_0) (.ref c_1) = some false)
    (q_0_6 : PySem.W.kitOne K (.ref c_0) (.ref c_6) = some false)
    (q_0_8 : PySem.W.kitOne K (.ref c_0) (.ref c_8) = some false)
    (q_0_19 : PySem.W.kitOne K (.ref c_0) (.ref c_19) = some false)
    (e1_1 : PySem.W.findIn K (.ref c_1) "__getattribute__" = some (some (.builtin "BaseException.__getattribute__")))
    (e2_1 : PySem.W.findIn K (.ref c_1) "__getattr__" = some none)
    (e3_1 : PySem.W.subIn K (.ref c_1) (.type "BaseException") = some true)
    (e4_1 : PySem.W.hasDictIn K c_1 = true)
    (e5_1 : PySem.W.findIn K (.ref c_1) "__class__" = some (some (.builtin "object.__class__")))
    (e8_1 : PySem.W.mroIn K c_1 (.type "object") = some true)
    (x_1 : PySem.W.exmOne K (.ref c_1) (.ref c_0) = some true)
    (q_1_0 : PySem.W.kitOne K (.ref c_1) (.ref c_0) = some true)
    (q_1_1 : PySem.W.kitOne K (.ref c_1) (.ref c_1) = some true)
    (q_1_6 : PySem.W.kitOne K (.ref c_1) (.ref c_6) = some false)
    (q_1_8 : PySem.W.kitOne K (.ref c_1) (.ref c_8) = some false)
    (q_1_19 : PySem.W.kitOne K (.ref c_1) (.ref c_19) = some false)
    (e1_6 : PySem.W.findIn K (.ref c_6) "__getattribute__" = some (some (.builtin "BaseException.__getattribute__")))
    (e2_6 : PySem.W.findIn K (.ref c_6) "__getattr__" = some none)
    (e3_6 : PySem.W.subIn K (.ref c_6) (.type "BaseException") = some true)
    (e4_6 : PySem.W.hasDictIn K c_6 = true)
    (e5_6 : PySem.W.findIn K (.ref c_6) "__class__" = some (some (.builtin "object.__class__")))
    (e8_6 : PySem.W.mroIn K c_6 (.type "object") = some true)
    (x_6 : PySem.W.exmOne K (.ref c_6) (.ref c_0) = some true)
    (q_6_0 : PySem.W.kitOne K (.ref c_6) (.ref c_0) = some true)
    (q_6_1 : PySem.W.kitOne K (.ref c_6) (.ref c_1) = some false)
    (q_6_6 : PySem.W.kitOne K (.ref c_6) (.ref c_6) = some true)
    (q_6_8 : PySem.W.kitOne K (.ref c_6) (.ref c_8) = some false)
    (q_6_19 : PySem.W.kitOne K (.ref c_6) (.ref c_19) = some false)
    (e1_8 : PySem.W.findIn K (.ref c_8) "__getattribute__" = some (some (.builtin "BaseException.__getattribute__")))
    (e2_8 : PySem.W.findIn K (.ref c_8) "__getattr__" = some none)
    (e3_8 : PySem.W.subIn K (.ref c_8) (.type "BaseException") = some true)
    (e4_8 : PySem.W.hasDictIn K c_8 = true)
    (e5_8 : PySem.W.findIn K (.ref c_8) "__class__" = some (some (.builtin "object.__class__")))
    (e8_8 : PySem.W.mroIn K c_8 (.type "object") = some true)
    (x_8 : PySem.W.exmOne K (.ref c_8) (.ref c_0) = some true)
    (q_8_0 : PySem.W.kitOne K (.ref c_8) (.ref c_0) = some true)
    (q_8_1 : PySem.W.kitOne K (.ref c_8) (.ref c_1) = some false)
    (q_8_6 : PySem.W.kitOne K (.ref c_8) (.ref c_6) = some false)
    (q_8_8 : PySem.W.kitOne K (.ref c_8) (.ref c_8) = some true)
    (q_8_19 : PySem.W.kitOne K (.ref c_8) (.ref c_19) = some false)
    (e1_19 : PySem.W.findIn K (.ref c_19) "__getattribute__" = some (some (.builtin "BaseException.__getattribute__")))
    (e2_19 : PySem.W.findIn K (.ref c_19) "__getattr__" = some none)
    (e3_19 : PySem.W.subIn K (.ref c_19) (.type "BaseException") = some true)
    (e4_19 : PySem.W.hasDictIn K c_19 = true)
    (e5_19 : PySem.W.findIn K (.ref c_19) "__class__" = some (some (.builtin "object.__class__")))
    (e8_19 : PySem.W.mroIn K c_19 (.type "object") = some true)
    (x_19 : PySem.W.exmOne K (.ref c_19) (.ref c_0) = some true)
    (q_19_0 : PySem.W.kitOne K (.ref c_19) (.ref c_0) = some true)
    (q_19_1 : PySem.W.kitOne K (.ref c_19) (.ref c_1) = some false)
    (q_19_6 : PySem.W.kitOne K (.ref c_19) (.ref c_6) = some false)
    (q_19_8 : PySem.W.kitOne K (.ref c_19) (.ref c_8) = some false)
    (q_19_19 : PySem.W.kitOne K (.ref c_19) (.ref c_19) = some true)
    (e6 : PySem.W.specialIn K (.builtin "object.__class__") "__get__" = some (some (.builtin "getset_descriptor.__get__")))
    (e7 : PySem.W.takesIn K (.builtin "object.__class__") = some true)
    : LamX.LawAtS PySem.Challenge.rw_squaresact_k23_whole_powers_of_one_lette w K (L2N.CX PySem.Challenge.rw_squaresact_k23_whole_powers_of_one_lette.prog w) (lawLevel + 1) 63 "script" mg fa h := by
  have e := hfa.symm.trans (PySem.W.mg_of X G a_law)
  cases e
  have m_is_whole := PySem.W.mg_of X G a_is_whole
  have m_need_whole := PySem.W.mg_of X G a_need_whole
  have m_is_tuple_of := PySem.W.mg_of X G a_is_tuple_of
  have m_is_word := PySem.W.mg_of X G a_is_word
  have m_need_word := PySem.W.mg_of X G a_need_word
  have m_is_odd := PySem.W.mg_of X G a_is_odd
  have m_is_odd_choice := PySem.W.mg_of X G a_is_odd_choice
  have m_words_from := PySem.W.mg_of X G a_words_from
  have m_rising_in := PySem.W.mg_of X G a_rising_in
  have m_odd_ones := PySem.W.mg_of X G a_odd_ones
  have m_is_polynomial := PySem.W.mg_of X G a_is_polynomial
  have m_need_polynomial := PySem.W.mg_of X G a_need_polynomial
  have m_need_number := PySem.W.mg_of X G a_need_number
  have m_shared_out := PySem.W.mg_of X G a_shared_out
  have m_square_in := PySem.W.mg_of X G a_square_in
  have m_square_of := PySem.W.mg_of X G a_square_of
  have m_power_squared := PySem.W.mg_of X G a_power_squared
  have m_power_led := PySem.W.mg_of X G a_power_led
  have m_need_exponent := PySem.W.mg_of X G a_need_exponent
  have m_letter_square := PySem.W.mg_of X G a_letter_square
  have m_letter_word := PySem.W.mg_of X G a_letter_word
  have m_letter_words := PySem.W.mg_of X G a_letter_words
  have m_letter_reach := PySem.W.mg_of X G a_letter_reach
  have m_stages_in := PySem.W.mg_of X G a_stages_in
  have m_word_in := PySem.W.mg_of X G a_word_in
  have m_act_word := PySem.W.mg_of X G a_act_word
  have m__law_cup := PySem.W.mg_of X G a__law_cup
  have m__law_roll := PySem.W.mg_of X G a__law_roll
  have m__law_sort := PySem.W.mg_of X G a__law_sort
  have m__law_like := PySem.W.mg_of X G a__law_like
  have m__law_ways := PySem.W.mg_of X G a__law_ways
  have m__law_rising := PySem.W.mg_of X G a__law_rising
  have m__law_error := PySem.W.mg_of X G a__law_error
  have m__law_led := PySem.W.mg_of X G a__law_led
  have m__law_squares_right := PySem.W.mg_of X G a__law_squares_right
  have m__law_word_right := PySem.W.mg_of X G a__law_word_right
  have m__law_words_right := PySem.W.mg_of X G a__law_words_right
  have m__law_reach_right := PySem.W.mg_of X G a__law_reach_right
  have m__law_errors_right := PySem.W.mg_of X G a__law_errors_right
  have m_law := PySem.W.mg_of X G a_law
  have n_abs := PySem.W.mg_none_of X G zn_abs
  have n_all := PySem.W.mg_none_of X G zn_all
  have n_bool := PySem.W.mg_none_of X G zn_bool
  have n_int := PySem.W.mg_none_of X G zn_int
  have n_isinstance := PySem.W.mg_none_of X G zn_isinstance
  have n_len := PySem.W.mg_none_of X G zn_len
  have n_list := PySem.W.mg_none_of X G zn_list
  have n_max := PySem.W.mg_none_of X G zn_max
  have n_min := PySem.W.mg_none_of X G zn_min
  have n_range := PySem.W.mg_none_of X G zn_range
  have n_set := PySem.W.mg_none_of X G zn_set
  have n_sorted := PySem.W.mg_none_of X G zn_sorted
  have n_str := PySem.W.mg_none_of X G zn_str
  have n_sum := PySem.W.mg_none_of X G zn_sum
  have n_tuple := PySem.W.mg_none_of X G zn_tuple
  have n_zip := PySem.W.mg_none_of X G zn_zip
  have g_FAR := PySem.W.mg_of X G zg_FAR
  have g_GREAT_squares := PySem.W.mg_of X G zg_GREAT_squares
  have g_GREAT_words := PySem.W.mg_of X G zg_GREAT_words
  have g_HIGH := PySem.W.mg_of X G zg_HIGH
  have g_LETTERS := PySem.W.mg_of X G zg_LETTERS
  have g_LONG := PySem.W.mg_of X G zg_LONG
  have g_MOST := PySem.W.mg_of X G zg_MOST
  have gc_0 := PySem.W.mg_of X G ac_0
  have gc_1 := PySem.W.mg_of X G ac_1
  have gc_6 := PySem.W.mg_of X G ac_6
  have gc_8 := PySem.W.mg_of X G ac_8
  have gc_19 := PySem.W.mg_of X G ac_19
  let R : Rc := ⟨K, fadOf , cadOf c_0 c_1 c_6 c_8 c_19, none, PySem.Challenge.rw_squaresact_k23_whole_powers_of_one_lette.prog, w⟩
  let T : List (Addr × Str) := [(p__law_errors_right, ("_law_errors_right" : Str) ++ ".<locals>." ++ "<lambda>")]
  let cs : List (Addr × Addr) := [(x__law_errors_right, p__law_errors_right)]
  refine ⟨PySem.W.fnOf "law" "law" (defArgs s_law) (defBody s_law) (defScope s_law) .none kV_law doc_law pm_law an_law cv_law ct_law, cs, spF R T (runB (dnD pg lawLevel) b_law), (fun p hp => by
      simp only [cs, List.mem_cons, List.not_mem_nil, or_false] at hp
      rcases hp with rfl
      · exact te__law_errors_right), (fun p hp => by
      simp only [cs, List.mem_cons, List.not_mem_nil, or_false] at hp
      rcases hp with rfl
      · exact tn__law_errors_right), (fun p hp => by
      simp only [cs, List.mem_cons, List.not_mem_nil, or_false] at hp
      rcases hp with rfl
      · exact PySem.W.codeHd_of_K X th__law_errors_right), (fun s v => .of_eq (by kernel_rfl)), fun H a ns hl hb hT hS => ?_, fun base KB NB TBs => ?_⟩
  · obtain ⟨S', e⟩ := law_true ns hl hb
    refine law_sp (R := R) (T := T) (cs := cs) (fun q hq => ?_) hT hS (Nat.le_trans hl (by decide)) e
    simp only [T, List.mem_cons, List.not_mem_nil, or_false] at hq
    rcases hq with rfl
    · exact ⟨x__law_errors_right, by simp [cs]⟩
  · have hRK : R.K = K := rfl
    have hc_0 : R.cad 0 = some c_0 := rfl
    have hc_1 : R.cad 1 = some c_1 := rfl
    have hc_6 : R.cad 6 = some c_6 := rfl
    have hc_8 : R.cad 8 = some c_8 := rfl
    have hc_19 : R.cad 19 = some c_19 := rfl
    have hE : ∀ c C, R.cad c = some C → ExcC K C := fun c C hc => by
      rcases cad_cases hc with ⟨rfl, rfl⟩ | ⟨rfl, rfl⟩ | ⟨rfl, rfl⟩ | ⟨rfl, rfl⟩ | ⟨rfl, rfl⟩
      · exact ⟨e1_0, e2_0, e3_0, e4_0, e5_0, e6, e7, e8_0⟩
      · exact ⟨e1_1, e2_1, e3_1, e4_1, e5_1, e6, e7, e8_1⟩
      · exact ⟨e1_6, e2_6, e3_6, e4_6, e5_6, e6, e7, e8_6⟩
      · exact ⟨e1_8, e2_8, e3_8, e4_8, e5_8, e6, e7, e8_8⟩
      · exact ⟨e1_19, e2_19, e3_19, e4_19, e5_19, e6, e7, e8_19⟩
    have hex : ∀ c C, R.cad c = some C → PySem.W.exmOne K (.ref C) (.ref c_0) = some (sub c 0) := fun c C hc => by
      rcases cad_cases hc with ⟨rfl, rfl⟩ | ⟨rfl, rfl⟩ | ⟨rfl, rfl⟩ | ⟨rfl, rfl⟩ | ⟨rfl, rfl⟩
      · exact x_0
      · exact x_1
      · exact x_6
      · exact x_8
      · exact x_19
    have hkit : ∀ c C t Dt, R.cad c = some C → R.cad t = some Dt → PySem.W.kitOne K (.ref C) (.ref Dt) = some (sub c t) := fun c C t Dt hc ht => by
      rcases cad_cases hc with ⟨rfl, rfl⟩ | ⟨rfl, rfl⟩ | ⟨rfl, rfl⟩ | ⟨rfl, rfl⟩ | ⟨rfl, rfl⟩
      · rcases cad_cases ht with ⟨rfl, rfl⟩ | ⟨rfl, rfl⟩ | ⟨rfl, rfl⟩ | ⟨rfl, rfl⟩ | ⟨rfl, rfl⟩
        · exact q_0_0
        · exact q_0_1
        · exact q_0_6
        · exact q_0_8
        · exact q_0_19
      · rcases cad_cases ht with ⟨rfl, rfl⟩ | ⟨rfl, rfl⟩ | ⟨rfl, rfl⟩ | ⟨rfl, rfl⟩ | ⟨rfl, rfl⟩
        · exact q_1_0
        · exact q_1_1
        · exact q_1_6
        · exact q_1_8
        · exact q_1_19
      · rcases cad_cases ht with ⟨rfl, rfl⟩ | ⟨rfl, rfl⟩ | ⟨rfl, rfl⟩ | ⟨rfl, rfl⟩ | ⟨rfl, rfl⟩
        · exact q_6_0
        · exact q_6_1
        · exact q_6_6
        · exact q_6_8
        · exact q_6_19
      · rcases cad_cases ht with ⟨rfl, rfl⟩ | ⟨rfl, rfl⟩ | ⟨rfl, rfl⟩ | ⟨rfl, rfl⟩ | ⟨rfl, rfl⟩
        · exact q_8_0
        · exact q_8_1
        · exact q_8_6
        · exact q_8_8
        · exact q_8_19
      · rcases cad_cases ht with ⟨rfl, rfl⟩ | ⟨rfl, rfl⟩ | ⟨rfl, rfl⟩ | ⟨rfl, rfl⟩ | ⟨rfl, rfl⟩
        · exact q_19_0
        · exact q_19_1
        · exact q_19_6
        · exact q_19_8
        · exact q_19_19
    have tl : Tl PySem.Challenge.rw_squaresact_k23_whole_powers_of_one_lette.prog w K mg base R T pg "_law_error" := t__law_error hRK rfl rfl l__law_error c__law_error m__law_error k__law_error gc_1 hc_1 gc_6 hc_6 gc_19 hc_19 gc_0 hc_0 n_isinstance hE hkit hex
    have hx : ∀ i x, nm i = some x → ∃ b, pg.body i = some b ∧ Fx PySem.Challenge.rw_squaresact_k23_whole_powers_of_one_lette.prog w K mg base R T pg nm x b := fun i x hi => by
      rcases nm_cases hi with ⟨rfl, rfl⟩ | ⟨rfl, rfl⟩ | ⟨rfl, rfl⟩ | ⟨rfl, rfl⟩ | ⟨rfl, rfl⟩ | ⟨rfl, rfl⟩ | ⟨rfl, rfl⟩ | ⟨rfl, rfl⟩ | ⟨rfl, rfl⟩ | ⟨rfl, rfl⟩ | ⟨rfl, rfl⟩ | ⟨rfl, rfl⟩ | ⟨rfl, rfl⟩ | ⟨rfl, rfl⟩ | ⟨rfl, rfl⟩ | ⟨rfl, rfl⟩ | ⟨rfl, rfl⟩ | ⟨rfl, rfl⟩ | ⟨rfl, rfl⟩ | ⟨rfl, rfl⟩ | ⟨rfl, rfl⟩ | ⟨rfl, rfl⟩ | ⟨rfl, rfl⟩ | ⟨rfl, rfl⟩ | ⟨rfl, rfl⟩ | ⟨rfl, rfl⟩ | ⟨rfl, rfl⟩ | ⟨rfl, rfl⟩ | ⟨rfl, rfl⟩ | ⟨rfl, rfl⟩ | ⟨rfl, rfl⟩ | ⟨rfl, rfl⟩ | ⟨rfl, rfl⟩ | ⟨rfl, rfl⟩ | ⟨rfl, rfl⟩ | ⟨rfl, rfl⟩ | ⟨rfl, rfl⟩ | ⟨rfl, rfl⟩
      · exact ⟨b_is_whole, rfl, t_is_whole hRK rfl rfl l_is_whole c_is_whole m_is_whole k_is_whole n_isinstance n_int n_bool⟩
      · exact ⟨b_need_whole, rfl, t_need_whole hRK rfl rfl l_need_whole c_need_whole m_need_whole k_need_whole gc_1 zkc_1 zxc_1 e3_1 ztc_1 hc_1⟩
      · exact ⟨b_is_tuple_of, rfl, t_is_tuple_of hRK rfl rfl l_is_tuple_of c_is_tuple_of m_is_tuple_of k_is_tuple_of n_isinstance n_tuple n_len⟩
      · exact ⟨b_is_word, rfl, t_is_word hRK rfl rfl l_is_word c_is_word m_is_word k_is_word g_LONG n_all g_GREAT_words n_sum⟩
      · exact ⟨b_need_word, rfl, t_need_word hRK rfl rfl l_need_word c_need_word m_need_word k_need_word gc_6 zkc_6 zxc_6 e3_6 ztc_6 hc_6⟩
      · exact ⟨b_is_odd, rfl, t_is_odd hRK rfl rfl l_is_odd c_is_odd m_is_odd k_is_odd ⟩
      · exact ⟨b_is_odd_choice, rfl, t_is_odd_choice hRK rfl rfl l_is_odd_choice c_is_odd_choice m_is_odd_choice k_is_odd_choice gc_1 zkc_1 zxc_1 e3_1 ztc_1 hc_1⟩
      · exact ⟨b_words_from, rfl, t_words_from hRK rfl rfl l_words_from c_words_from m_words_from k_words_from n_range n_min⟩
      · exact ⟨b_rising_in_risingwords, rfl, t_rising_in hRK rfl rfl l_rising_in c_rising_in m_rising_in k_rising_in ⟩
      · exact ⟨b_odd_ones, rfl, t_odd_ones hRK rfl rfl l_odd_ones c_odd_ones m_odd_ones k_odd_ones n_tuple n_sorted⟩
      · exact ⟨b_is_polynomial, rfl, t_is_polynomial hRK rfl rfl l_is_polynomial c_is_polynomial m_is_polynomial k_is_polynomial g_LETTERS g_MOST n_all g_HIGH n_range n_len⟩
      · exact ⟨b_need_polynomial, rfl, t_need_polynomial hRK rfl rfl l_need_polynomial c_need_polynomial m_need_polynomial k_need_polynomial gc_8 zkc_8 zxc_8 e3_8 ztc_8 hc_8⟩
      · exact ⟨b_need_number, rfl, t_need_number hRK rfl rfl l_need_number c_need_number m_need_number k_need_number g_GREAT_squares⟩
      · exact ⟨b_shared_out, rfl, t_shared_out hRK rfl rfl l_shared_out c_shared_out m_shared_out k_shared_out n_range n_min⟩
      · exact ⟨b_square_in_squares, rfl, t_square_in hRK rfl rfl l_square_in c_square_in m_square_in k_square_in ⟩
      · exact ⟨b_square_of, rfl, t_square_of hRK rfl rfl l_square_of c_square_of m_square_of k_square_of ⟩
      · exact ⟨b_power_squared, rfl, t_power_squared hRK rfl rfl l_power_squared c_power_squared m_power_squared k_power_squared ⟩
      · exact ⟨b_power_led, rfl, t_power_led hRK rfl rfl l_power_led c_power_led m_power_led k_power_led ⟩
      · exact ⟨b_need_exponent, rfl, t_need_exponent hRK rfl rfl l_need_exponent c_need_exponent m_need_exponent k_need_exponent g_GREAT_squares⟩
      · exact ⟨b_letter_square, rfl, t_letter_square hRK rfl rfl l_letter_square c_letter_square m_letter_square k_letter_square ⟩
      · exact ⟨b_letter_word, rfl, t_letter_word hRK rfl rfl l_letter_word c_letter_word m_letter_word k_letter_word ⟩
      · exact ⟨b_letter_words, rfl, t_letter_words hRK rfl rfl l_letter_words c_letter_words m_letter_words k_letter_words g_GREAT_words n_tuple⟩
      · exact ⟨b_letter_reach, rfl, t_letter_reach hRK rfl rfl l_letter_reach c_letter_reach m_letter_reach k_letter_reach g_FAR n_range n_max n_min n_tuple⟩
      · exact ⟨b_stages_in, rfl, t_stages_in hRK rfl rfl l_stages_in c_stages_in m_stages_in k_stages_in ⟩
      · exact ⟨b_word_in_actedwords, rfl, t_word_in hRK rfl rfl l_word_in c_word_in m_word_in k_word_in ⟩
      · exact ⟨b_act_word, rfl, t_act_word hRK rfl rfl l_act_word c_act_word m_act_word k_act_word ⟩
      · exact ⟨b__law_cup, rfl, t__law_cup hRK rfl rfl l__law_cup c__law_cup m__law_cup k__law_cup n_abs n_list n_int⟩
      · exact ⟨b__law_roll, rfl, t__law_roll hRK rfl rfl l__law_roll c__law_roll m__law_roll k__law_roll n_int⟩
      · exact ⟨b__law_sort, rfl, t__law_sort hRK rfl rfl l__law_sort c__law_sort m__law_sort k__law_sort n_isinstance n_bool n_int n_str n_tuple n_list⟩
      · exact ⟨b__law_like, rfl, t__law_like hRK rfl rfl l__law_like c__law_like m__law_like k__law_like n_len n_zip⟩
      · exact ⟨b__law_ways, rfl, t__law_ways hRK rfl rfl l__law_ways c__law_ways m__law_ways k__law_ways n_range n_zip n_int⟩
      · exact ⟨b__law_rising, rfl, t__law_rising hRK rfl rfl l__law_rising c__law_rising m__law_rising k__law_rising n_range n_min n_sorted⟩
      · exact ⟨b__law_led, rfl, t__law_led hRK rfl rfl l__law_led c__law_led m__law_led k__law_led ⟩
      · exact ⟨b__law_squares_right, rfl, t__law_squares_right hRK rfl rfl l__law_squares_right c__law_squares_right m__law_squares_right k__law_squares_right n_range⟩
      · exact ⟨b__law_word_right, rfl, t__law_word_right hRK rfl rfl l__law_word_right c__law_word_right m__law_word_right k__law_word_right ⟩
      · exact ⟨b__law_words_right, rfl, t__law_words_right hRK rfl rfl l__law_words_right c__law_words_right m__law_words_right k__law_words_right n_tuple⟩
      · exact ⟨b__law_reach_right, rfl, t__law_reach_right hRK rfl rfl l__law_reach_right c__law_reach_right m__law_reach_right k__law_reach_right n_range n_list n_sorted n_set n_tuple⟩
      · refine ⟨b__law_errors_right, rfl, t__law_errors_right hRK rfl rfl l__law_errors_right c__law_errors_right m__law_errors_right k__law_errors_right  tl (TBs (x__law_errors_right, p__law_errors_right) (by simp [cs])) (by simp [T]) (fun p hp e => ?_)⟩
        simp only [T, List.mem_cons, List.not_mem_nil, or_false] at hp
        rcases hp with rfl
        · rfl
    exact t_law (Pr := PySem.Challenge.rw_squaresact_k23_whole_powers_of_one_lette.prog) (w := w) (base := base) (T := T) hRK rfl rfl l_law c_law m_law k_law n_range n_sum lawLevel (kn_all hx lawLevel) (fun k _ => kn_all hx k)
end Vg
open PySem PySem.W PyProof.Rows
set_option maxHeartbeats 0 in
theorem PySem.Challenge.cw_squaresact_k23_whole_powers_of_one_lette_holds : PySem.Challenge.rw_squaresact_k23_whole_powers_of_one_lette.Holds := by
  w_on; o_law; k_head; (case hw => w_witness2)
  k_fill
  refine LamX.walk_ofTs (l := PySem.Challenge.rw_squaresact_k23_whole_powers_of_one_lette) (n := 63) (k := Vg.lawLevel + 1) (x := "script") (CX := fun w => L2N.CX PySem.Challenge.rw_squaresact_k23_whole_powers_of_one_lette.prog w) rfl (by decide) rfl ⟨rfl, by decide, by decide⟩ (fun w h Y => PySem.W.km_in_of Y) ?F (fun w H s e s' hh => by
    obtain ⟨_, _, _, _, _, _, _, _, _, _, _, _, z⟩ := hh
    exact z)
  case F =>
    intro w mg fa h Y KX G hmg
    refine' Vg.all_mk KX G hmg ?a_is_whole ?l_is_whole ?c_is_whole ?k_is_whole ?a_need_whole ?l_need_whole ?c_need_whole ?k_need_whole ?a_is_tuple_of ?l_is_tuple_of ?c_is_tuple_of ?k_is_tuple_of ?a_is_word ?l_is_word ?c_is_word ?k_is_word ?a_need_word ?l_need_word ?c_need_word ?k_need_word ?a_is_odd ?l_is_odd ?c_is_odd ?k_is_odd ?a_is_odd_choice ?l_is_odd_choice ?c_is_odd_choice ?k_is_odd_choice ?a_words_from ?l_words_from ?c_words_from ?k_words_from ?a_rising_in ?l_rising_in ?c_rising_in ?k_rising_in ?a_odd_ones ?l_odd_ones ?c_odd_ones ?k_odd_ones ?a_is_polynomial ?l_is_polynomial ?c_is_polynomial ?k_is_polynomial ?a_need_polynomial ?l_need_polynomial ?c_need_polynomial ?k_need_polynomial ?a_need_number ?l_need_number ?c_need_number ?k_need_number ?a_shared_out ?l_shared_out ?c_shared_out ?k_shared_out ?a_square_in ?l_square_in ?c_square_in ?k_square_in ?a_square_of ?l_square_of ?c_square_of ?k_square_of ?a_power_squared ?l_power_squared ?c_power_squared ?k_power_squared ?a_power_led ?l_power_led ?c_power_led ?k_power_led ?a_need_exponent ?l_need_exponent ?c_need_exponent ?k_need_exponent ?a_letter_square ?l_letter_square ?c_letter_square ?k_letter_square ?a_letter_word ?l_letter_word ?c_letter_word ?k_letter_word ?a_letter_words ?l_letter_words ?c_letter_words ?k_letter_words ?a_letter_reach ?l_letter_reach ?c_letter_reach ?k_letter_reach ?a_stages_in ?l_stages_in ?c_stages_in ?k_stages_in ?a_word_in ?l_word_in ?c_word_in ?k_word_in ?a_act_word ?l_act_word ?c_act_word ?k_act_word ?a__law_cup ?l__law_cup ?c__law_cup ?k__law_cup ?a__law_roll ?l__law_roll ?c__law_roll ?k__law_roll ?a__law_sort ?l__law_sort ?c__law_sort ?k__law_sort ?a__law_like ?l__law_like ?c__law_like ?k__law_like ?a__law_ways ?l__law_ways ?c__law_ways ?k__law_ways ?a__law_rising ?l__law_rising ?c__law_rising ?k__law_rising ?a__law_error ?l__law_error ?c__law_error ?k__law_error ?a__law_led ?l__law_led ?c__law_led ?k__law_led ?a__law_squares_right ?l__law_squares_right ?c__law_squares_right ?k__law_squares_right ?a__law_word_right ?l__law_word_right ?c__law_word_right ?k__law_word_right ?a__law_words_right ?l__law_words_right ?c__law_words_right ?k__law_words_right ?a__law_reach_right ?l__law_reach_right ?c__law_reach_right ?k__law_reach_right ?a__law_errors_right ?l__law_errors_right ?c__law_errors_right ?k__law_errors_right ?a_law ?l_law ?c_law ?k_law ?ti__law_errors_right ?tv__law_errors_right ?th__law_errors_right ?te__law_errors_right ?tn__law_errors_right ?zn_abs ?zn_all ?zn_bool ?zn_int ?zn_isinstance ?zn_len ?zn_list ?zn_max ?zn_min ?zn_range ?zn_set ?zn_sorted ?zn_str ?zn_sum ?zn_tuple ?zn_zip ?zg_FAR ?zg_GREAT_squares ?zg_GREAT_words ?zg_HIGH ?zg_LETTERS ?zg_LONG ?zg_MOST ?ac_0 ?ac_1 ?ac_6 ?ac_8 ?ac_19 ?zkc_1 ?zxc_1 ?ztc_1 ?zkc_6 ?zxc_6 ?ztc_6 ?zkc_8 ?zxc_8 ?ztc_8 ?e1_0 ?e2_0 ?e3_0 ?e4_0 ?e5_0 ?e8_0 ?x_0 ?q_0_0 ?q_0_1 ?q_0_6 ?q_0_8 ?q_0_19 ?e1_1 ?e2_1 ?e3_1 ?e4_1 ?e5_1 ?e8_1 ?x_1 ?q_1_0 ?q_1_1 ?q_1_6 ?q_1_8 ?q_1_19 ?e1_6 ?e2_6 ?e3_6 ?e4_6 ?e5_6 ?e8_6 ?x_6 ?q_6_0 ?q_6_1 ?q_6_6 ?q_6_8 ?q_6_19 ?e1_8 ?e2_8 ?e3_8 ?e4_8 ?e5_8 ?e8_8 ?x_8 ?q_8_0 ?q_8_1 ?q_8_6 ?q_8_8 ?q_8_19 ?e1_19 ?e2_19 ?e3_19 ?e4_19 ?e5_19 ?e8_19 ?x_19 ?q_19_0 ?q_19_1 ?q_19_6 ?q_19_8 ?q_19_19 ?e6 ?e7
    (case a_is_whole => k_is)
    (case l_is_whole => k_is)
    (case c_is_whole => k_is)
    (case k_is_whole => k_is)
    (case a_need_whole => k_is)
    (case l_need_whole => k_is)
    (case c_need_whole => k_is)
    (case k_need_whole => k_is)
    (case a_is_tuple_of => k_is)
    (case l_is_tuple_of => k_is)
    (case c_is_tuple_of => k_is)
    (case k_is_tuple_of => k_is)
    (case a_is_word => k_is)
    (case l_is_word => k_is)
    (case c_is_word => k_is)
    (case k_is_word => k_is)
    (case a_need_word => k_is)
    (case l_need_word => k_is)
    (case c_need_word => k_is)
    (case k_need_word => k_is)
    (case a_is_odd => k_is)
    (case l_is_odd => k_is)
    (case c_is_odd => k_is)
    (case k_is_odd => k_is)
    (case a_is_odd_choice => k_is)
    (case l_is_odd_choice => k_is)
    (case c_is_odd_choice => k_is)
    (case k_is_odd_choice => k_is)
    (case a_words_from => k_is)
    (case l_words_from => k_is)
    (case c_words_from => k_is)
    (case k_words_from => k_is)
    (case a_rising_in => k_is)
    (case l_rising_in => k_is)
    (case c_rising_in => k_is)
    (case k_rising_in => k_is)
    (case a_odd_ones => k_is)
    (case l_odd_ones => k_is)
    (case c_odd_ones => k_is)
    (case k_odd_ones => k_is)
    (case a_is_polynomial => k_is)
    (case l_is_polynomial => k_is)
    (case c_is_polynomial => k_is)
    (case k_is_polynomial => k_is)
    (case a_need_polynomial => k_is)
    (case l_need_polynomial => k_is)
    (case c_need_polynomial => k_is)
    (case k_need_polynomial => k_is)
    (case a_need_number => k_is)
    (case l_need_number => k_is)
    (case c_need_number => k_is)
    (case k_need_number => k_is)
    (case a_shared_out => k_is)
    (case l_shared_out => k_is)
    (case c_shared_out => k_is)
    (case k_shared_out => k_is)
    (case a_square_in => k_is)
    (case l_square_in => k_is)
    (case c_square_in => k_is)
    (case k_square_in => k_is)
    (case a_square_of => k_is)
    (case l_square_of => k_is)
    (case c_square_of => k_is)
    (case k_square_of => k_is)
    (case a_power_squared => k_is)
    (case l_power_squared => k_is)
    (case c_power_squared => k_is)
    (case k_power_squared => k_is)
    (case a_power_led => k_is)
    (case l_power_led => k_is)
    (case c_power_led => k_is)
    (case k_power_led => k_is)
    (case a_need_exponent => k_is)
    (case l_need_exponent => k_is)
    (case c_need_exponent => k_is)
    (case k_need_exponent => k_is)
    (case a_letter_square => k_is)
    (case l_letter_square => k_is)
    (case c_letter_square => k_is)
    (case k_letter_square => k_is)
    (case a_letter_word => k_is)
    (case l_letter_word => k_is)
    (case c_letter_word => k_is)
    (case k_letter_word => k_is)
    (case a_letter_words => k_is)
    (case l_letter_words => k_is)
    (case c_letter_words => k_is)
    (case k_letter_words => k_is)
    (case a_letter_reach => k_is)
    (case l_letter_reach => k_is)
    (case c_letter_reach => k_is)
    (case k_letter_reach => k_is)
    (case a_stages_in => k_is)
    (case l_stages_in => k_is)
    (case c_stages_in => k_is)
    (case k_stages_in => k_is)
    (case a_word_in => k_is)
    (case l_word_in => k_is)
    (case c_word_in => k_is)
    (case k_word_in => k_is)
    (case a_act_word => k_is)
    (case l_act_word => k_is)
    (case c_act_word => k_is)
    (case k_act_word => k_is)
    (case a__law_cup => k_is)
    (case l__law_cup => k_is)
    (case c__law_cup => k_is)
    (case k__law_cup => k_is)
    (case a__law_roll => k_is)
    (case l__law_roll => k_is)
    (case c__law_roll => k_is)
    (case k__law_roll => k_is)
    (case a__law_sort => k_is)
    (case l__law_sort => k_is)
    (case c__law_sort => k_is)
    (case k__law_sort => k_is)
    (case a__law_like => k_is)
    (case l__law_like => k_is)
    (case c__law_like => k_is)
    (case k__law_like => k_is)
    (case a__law_ways => k_is)
    (case l__law_ways => k_is)
    (case c__law_ways => k_is)
    (case k__law_ways => k_is)
    (case a__law_rising => k_is)
    (case l__law_rising => k_is)
    (case c__law_rising => k_is)
    (case k__law_rising => k_is)
    (case a__law_error => k_is)
    (case l__law_error => k_is)
    (case c__law_error => k_is)
    (case k__law_error => k_is)
    (case a__law_led => k_is)
    (case l__law_led => k_is)
    (case c__law_led => k_is)
    (case k__law_led => k_is)
    (case a__law_squares_right => k_is)
    (case l__law_squares_right => k_is)
    (case c__law_squares_right => k_is)
    (case k__law_squares_right => k_is)
    (case a__law_word_right => k_is)
    (case l__law_word_right => k_is)
    (case c__law_word_right => k_is)
    (case k__law_word_right => k_is)
    (case a__law_words_right => k_is)
    (case l__law_words_right => k_is)
    (case c__law_words_right => k_is)
    (case k__law_words_right => k_is)
    (case a__law_reach_right => k_is)
    (case l__law_reach_right => k_is)
    (case c__law_reach_right => k_is)
    (case k__law_reach_right => k_is)
    (case a__law_errors_right => k_is)
    (case l__law_errors_right => k_is)
    (case c__law_errors_right => k_is)
    (case k__law_errors_right => k_is)
    (case a_law => k_is)
    (case l_law => k_is)
    (case c_law => k_is)
    (case k_law => k_is)
    (case ti__law_errors_right => k_is)
    (case tv__law_errors_right => rfl)
    (case th__law_errors_right => kernel_rfl)
    (case te__law_errors_right => exact PySem.W.km_tabs_of Y _ (by simp))
    (case tn__law_errors_right => kernel_rfl)
    (case zn_abs => k_is)
    (case zn_all => k_is)
    (case zn_bool => k_is)
    (case zn_int => k_is)
    (case zn_isinstance => k_is)
    (case zn_len => k_is)
    (case zn_list => k_is)
    (case zn_max => k_is)
    (case zn_min => k_is)
    (case zn_range => k_is)
    (case zn_set => k_is)
    (case zn_sorted => k_is)
    (case zn_str => k_is)
    (case zn_sum => k_is)
    (case zn_tuple => k_is)
    (case zn_zip => k_is)
    (case zg_FAR => k_is)
    (case zg_GREAT_squares => k_is)
    (case zg_GREAT_words => k_is)
    (case zg_HIGH => k_is)
    (case zg_LETTERS => k_is)
    (case zg_LONG => k_is)
    (case zg_MOST => k_is)
    (case ac_0 => k_is)
    (case ac_1 => k_is)
    (case ac_6 => k_is)
    (case ac_8 => k_is)
    (case ac_19 => k_is)
    (case zkc_1 => k_is)
    (case zxc_1 => kernel_rfl)
    (case ztc_1 => k_is)
    (case zkc_6 => k_is)
    (case zxc_6 => kernel_rfl)
    (case ztc_6 => k_is)
    (case zkc_8 => k_is)
    (case zxc_8 => kernel_rfl)
    (case ztc_8 => k_is)
    (case e1_0 => k_is)
    (case e2_0 => k_is)
    (case e3_0 => k_is)
    (case e4_0 => k_is)
    (case e5_0 => k_is)
    (case e8_0 => k_is)
    (case x_0 => kernel_rfl)
    (case q_0_0 => kernel_rfl)
    (case q_0_1 => kernel_rfl)
    (case q_0_6 => kernel_rfl)
    (case q_0_8 => kernel_rfl)
    (case q_0_19 => kernel_rfl)
    (case e1_1 => k_is)
    (case e2_1 => k_is)
    (case e3_1 => k_is)
    (case e4_1 => k_is)
    (case e5_1 => k_is)
    (case e8_1 => k_is)
    (case x_1 => kernel_rfl)
    (case q_1_0 => kernel_rfl)
    (case q_1_1 => kernel_rfl)
    (case q_1_6 => kernel_rfl)
    (case q_1_8 => kernel_rfl)
    (case q_1_19 => kernel_rfl)
    (case e1_6 => k_is)
    (case e2_6 => k_is)
    (case e3_6 => k_is)
    (case e4_6 => k_is)
    (case e5_6 => k_is)
    (case e8_6 => k_is)
    (case x_6 => kernel_rfl)
    (case q_6_0 => kernel_rfl)
    (case q_6_1 => kernel_rfl)
    (case q_6_6 => kernel_rfl)
    (case q_6_8 => kernel_rfl)
    (case q_6_19 => kernel_rfl)
    (case e1_8 => k_is)
    (case e2_8 => k_is)
    (case e3_8 => k_is)
    (case e4_8 => k_is)
    (case e5_8 => k_is)
    (case e8_8 => k_is)
    (case x_8 => kernel_rfl)
    (case q_8_0 => kernel_rfl)
    (case q_8_1 => kernel_rfl)
    (case q_8_6 => kernel_rfl)
    (case q_8_8 => kernel_rfl)
    (case q_8_19 => kernel_rfl)
    (case e1_19 => k_is)
    (case e2_19 => k_is)
    (case e3_19 => k_is)
    (case e4_19 => k_is)
    (case e5_19 => k_is)
    (case e8_19 => k_is)
    (case x_19 => kernel_rfl)
    (case q_19_0 => kernel_rfl)
    (case q_19_1 => kernel_rfl)
    (case q_19_6 => kernel_rfl)
    (case q_19_8 => kernel_rfl)
    (case q_19_19 => kernel_rfl)
    (case e6 => k_is)
    (case e7 => k_is)
