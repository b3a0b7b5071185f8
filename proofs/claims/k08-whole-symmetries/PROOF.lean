import PyProof.Rows.All
import Wide.All
import OpenK.AllK
import Wide.FinOn
import HandS.ForMost
import HandS.ForExc
import HandS.TupAny
import HandS.Deep
import HandS.Walk
import HandS.Zip
import HandS.IsInst
import HandS.Conv
import HandS.Flow
import HandS.Defaults
import HandS.Wide
import HandS.Head2
import HandS.HeadHook2
import HandS.HeadEnd
import HandS.More
import HandS.HeadHook4
import KE.SortData
import KE.DataMinMax
import KE.DataEq
import HandS.Lambda
import HandS.HeadWalk
import HandS.CallSlots
import KE.GoesEnum
import HandS.TupSets
import HandS.SetFor
import HandS.Strs
import HandS.Style
import HandS.DictComp
import KE.KIndexOf
import KE.KUnpackStar
import KE.SortKeyHeap
import KE.DataMinKey
import KE.DatumOrd
import PySem.Challenge.RW_websworn_k08_whole_symmetries
set_option Elab.async false
set_option linter.all false
set_option maxRecDepth 100000
set_option maxHeartbeats 8000000
/-! The plain reading of a small part of Python over data: what a text of that part computes. -/
namespace Wv
open PySem
inductive R (α : Type) where
  | ok (a : α)
  | err (x : Nat)
  | bad
namespace R
def bind {α β : Type} (r : R α) (f : α → R β) : R β := match r with
  | .ok a => f a
  | .err x => .err x
  | .bad => .bad
instance : Monad R where
  pure := .ok
  bind := R.bind
/-- nothing may be raised here -/
def calm {α : Type} : R α → R α
  | .ok a => .ok a
  | _ => .bad
end R
/-- what a name holds: data that stand still; data of one's own (a list or dict that nobody else holds); a def; an error's class -/
inductive Vl where
  | fz (d : PyData)
  | ow (d : PyData)
  | fn (f : Nat)
  | ex (x : Nat)
  | pt (ds : List PyData)
  | fd (kvs : List (PyData × PyData))
abbrev Env := List (Option Vl)
def lim : Nat := 1000000
inductive Op2 where
  | add | sub | mul | fdiv | mod | pow | eq | ne | lt | le | gt | ge | isin | notin | is_ | isnot
  deriving DecidableEq
inductive Bi where
  | len | all | any | sum | max | min | sorted | tuple | list | int | str | repr
  deriving DecidableEq
inductive Ty where
  | int | bool | str | tuple | list
  deriving DecidableEq
inductive Mt where
  | index
  deriving DecidableEq
inductive Mu where
  | append | insert
  deriving DecidableEq
/-- a constant of the module -/
inductive Gc where
  | int (i : Int) | str (x : Str) | strs (xs : List Str)
  deriving DecidableEq
def Gc.d : Gc → PyData
  | .int i => .int i
  | .str x => .str x
  | .strs xs => .tuple (xs.map .str)
mutual
inductive Tm where
  | non | bl (b : Bool) | int (i : Int) | str (x : Str)
  | loc (i : Nat)
  | glo (x : Str) (d : Gc)
  | op (o : Op2) (a b : Tm)
  | chain (o p : Op2) (a b c : Tm)
  | neg (a : Tm) | not (a : Tm)
  | and (es : Tms) | or (es : Tms)
  | ite (c a b : Tm)
  | tup (es : Tms) | lst (es : Tms)
  | ix (a b : Tm)
  | sl (a : Tm) (lo hi : Tms)
  | isi (a : Tm) (ts : List Ty)
  | bi (f : Bi) (es : Tms)
  | lenset (a : Tm) | sortset (a : Tm)
  | rep (a k : Tm)
  | rev (a : Tm)
  | dget (kvs : List (Str × Gc)) (a d : Tm)
  | lrng (es : Tms)
  | mt (m : Mt) (a : Tm) (es : Tms)
  | call (f : Nat) (es : Tms)
  | comp (e : Tm) (tg : List Nat) (tu : Bool) (it : It) (c : Tms) (own : List Nat)
  | comp2 (e : Tm) (tg : List Nat) (tu : Bool) (it : It) (c : Tms) (tg1 : List Nat) (tu1 : Bool) (it1 : It) (c1 : Tms) (own : List Nat)
  | dkeys (e : Tm) (tg : List Nat) (tu : Bool) (it : It) (own : List Nat)
  | trng (es : Tms)
  | trng2 (a b : Tm)
  | ptup (es : Tms)
  | ptl (a : Tm)
  | ptr (a : Tm)
  | ptr2 (a b : Tm)
  | tix (a b : Tm)
  | dnew
  | disp (kvs : List (Str × Gc))
  | dix (a b : Tm)
  | dgt (a b c : Tm)
  | dcopy (a : Tm)
  | gget (x : Str) (kvs : List (Str × Gc)) (a d : Tm)
  | gix (x : Str) (kvs : List (Str × Gc)) (a : Tm)
  | no
inductive Tms where
  | nil | cons (a : Tm) (r : Tms)
inductive It where
  | tm (t : Tm) | rng (es : Tms) | enum (t : Tm) | zip (a b : Tm)
end
mutual
inductive Sm where
  | asg (i : Nat) (t : Tm)
  | asgT (is : List Nat) (t : Tm)
  | par (i j : Nat) (a b : Tm)
  | aug (i : Nat) (o : Op2) (t : Tm)
  | setix (i : Nat) (k t : Tm)
  | mut (m : Mu) (i : Nat) (es : Tms)
  | if_ (c : Tm) (a b : Sms)
  | for_ (tg : List Nat) (tu : Bool) (it : It) (b : Sms)
  | while_ (c : Tm) (b : Sms)
  | ret (t : Tm) | retN
  | exp (t : Tm)
  | raise (x : Nat)
  | pass
  | star (i j : Nat) (t : Tm)
  | dput (i : Nat) (k t : Tm)
  | retK (mn neg : Bool) (t : Tm)
  | asgK (i : Nat) (mn neg : Bool) (t : Tm)
  | no
inductive Sms where
  | nil | cons (s : Sm) (r : Sms)
  | fz (is : List Nat) (r : Sms)
end
/-! ### values -/
def isDict : PyData → Bool
  | .dict _ => true
  | _ => false
/-- data that may stand within data -/
def plain (d : PyData) : R PyData := if isDict d then .bad else .ok d
def dat : Vl → R PyData
  | .fz d => .ok d
  | .ow d => plain d
  | .pt ds => .ok (.tuple ds)
  | _ => .bad
def truthD : PyData → R Bool
  | .none => .ok false
  | .bool b => .ok b
  | .int i => .ok (i != 0)
  | .list xs => .ok (!xs.isEmpty)
  | .tuple xs => .ok (!xs.isEmpty)
  | _ => .bad
def boolsOf : List PyData → Option (List Bool)
  | [] => some []
  | .bool b :: r => (boolsOf r).map (b :: ·)
  | _ :: _ => none
def intsOf : List PyData → Option (List Int)
  | [] => some []
  | .int i :: r => (intsOf r).map (i :: ·)
  | _ :: _ => none
def maxI : List Int → Int
  | [] => 0
  | [x] => x
  | x :: r => max x (maxI r)
def minI : List Int → Int
  | [] => 0
  | [x] => x
  | x :: r => min x (minI r)
def kB (b : Bool) : R Vl := .ok (.fz (.bool b))
def kI (i : Int) : R Vl := .ok (.fz (.int i))
def eqOk (d e : PyData) : Bool := !isDict d && !isDict e && decide (min d.depth e.depth ≤ 64)
def eqD (d e : PyData) : R Bool := if eqOk d e then .ok (PyData.eqv d e) else .bad
def inOk (d : PyData) (ds : List PyData) : Bool := !isDict d && decide (min d.depth (PyData.depthAll ds) ≤ 64)
def inD (d : PyData) (ds : List PyData) : R Bool := if inOk d ds then .ok (ds.any fun z => PyData.eqv z d) else .bad
def isNon : PyData → Bool
  | .none => true
  | _ => false
def ltOk (d e : PyData) : Bool := W.alike d e && decide (d.depth ≤ 64)
/-- the order of ints, and of alike tuples -/
def ltD : PyData → PyData → R Bool
  | .int a, .int b => .ok (decide (a < b))
  | .tuple xs, .tuple ys => if ltOk (.tuple xs) (.tuple ys) then .ok (W.dataLt (.tuple xs) (.tuple ys)) else .bad
  | _, _ => .bad
/-- bounds that no reader needs to count out -/
def leN (i : Int) (k : Nat) : Bool := match i with
  | .ofNat m => Nat.ble m k
  | .negSucc _ => true
def geN (i : Int) (k : Nat) : Bool := match i with
  | .ofNat _ => true
  | .negSucc m => Nat.ble (m + 1) k
def inN (i : Int) (k : Nat) : Bool := leN i k && geN i k
theorem leN_iff {i : Int} {k : Nat} : leN i k = true ↔ i ≤ (k : Int) := by
  cases i with
  | ofNat m =>
    show Nat.ble m k = true ↔ (m : Int) ≤ (k : Int)
    rw [Nat.ble_eq]; omega
  | negSucc m => exact ⟨fun _ => by omega, fun _ => rfl⟩
theorem geN_iff {i : Int} {k : Nat} : geN i k = true ↔ -(k : Int) ≤ i := by
  cases i with
  | ofNat m => exact ⟨fun _ => by show -(k : Int) ≤ (m : Int); omega, fun _ => rfl⟩
  | negSucc m =>
    show Nat.ble (m + 1) k = true ↔ _
    rw [Nat.ble_eq]; omega
theorem inN_iff {i : Int} {k : Nat} : inN i k = true ↔ -(k : Int) ≤ i ∧ i ≤ (k : Int) := by
  unfold inN
  rw [Bool.and_eq_true, leN_iff, geN_iff]
  exact And.comm
def smallI (i : Int) : Bool := inN i 18446744073709551615
def map1 {α β : Type} (r : R α) (f : α → β) : R β := match r with
  | .ok a => .ok (f a)
  | .err x => .err x
  | .bad => .bad
def addD : PyData → PyData → R Vl
  | .int a, .int b => kI (a + b)
  | .str a, .str b => if a.length + b.length ≤ lim then .ok (.fz (.str (a ++ b))) else .bad
  | .list a, .list b => if a.length + b.length ≤ lim then .ok (.ow (.list (a ++ b))) else .bad
  | .tuple a, .tuple b => if a.length + b.length ≤ lim then .ok (.fz (.tuple (a ++ b))) else .bad
  | _, _ => .bad
def subD : PyData → PyData → R Vl
  | .int a, .int b => kI (a - b)
  | _, _ => .bad
def mulD : PyData → PyData → R Vl
  | .int a, .int b => if smallI a || smallI b then kI (a * b) else .bad
  | _, _ => .bad
/-- [x] * k -/
def repD (d : PyData) : PyData → R Vl
  | .int k => if inN k lim then .ok (.ow (.list (List.replicate k.toNat d))) else .bad
  | _ => .bad
def fdivD : PyData → PyData → R Vl
  | .int a, .int b => if decide (0 < b) && leN b 1073741823 then kI (a / b) else .bad
  | _, _ => .bad
def modD : PyData → PyData → R Vl
  | .int a, .int b => if 0 < b then kI (a % b) else .bad
  | _, _ => .bad
def powD : PyData → PyData → R Vl
  | .int a, .int b => if decide (0 ≤ b) && leN b 1000 && smallI a then kI (a ^ b.toNat) else .bad
  | _, _ => .bad
def leD : PyData → PyData → R Vl
  | .int a, .int b => kB (decide (a ≤ b))
  | _, _ => .bad
def gtD : PyData → PyData → R Vl
  | .int a, .int b => kB (decide (b < a))
  | _, _ => .bad
def geD : PyData → PyData → R Vl
  | .int a, .int b => kB (decide (b ≤ a))
  | _, _ => .bad
def isinD : PyData → PyData → R Bool
  | d, .list ds => inD d ds
  | d, .tuple ds => inD d ds
  | .str x, .str y => .ok (!(Builtin.Str.occurrences y x 0 y.length 1).isEmpty)
  | _, _ => .bad
def op2D (o : Op2) (d e : PyData) : R Vl := match o with
  | .add => addD d e
  | .sub => subD d e
  | .mul => mulD d e
  | .fdiv => fdivD d e
  | .mod => modD d e
  | .pow => powD d e
  | .eq => map1 (eqD d e) fun b => .fz (.bool b)
  | .ne => map1 (eqD d e) fun b => .fz (.bool (!b))
  | .lt => map1 (ltD d e) fun b => .fz (.bool b)
  | .le => leD d e
  | .gt => gtD d e
  | .ge => geD d e
  | .isin => map1 (isinD d e) fun b => .fz (.bool b)
  | .notin => map1 (isinD d e) fun b => .fz (.bool (!b))
  | .is_ => match e with
    | .none => kB (isNon d)
    | _ => .bad
  | .isnot => match e with
    | .none => kB (!isNon d)
    | _ => .bad
def negD : PyData → R Vl
  | .int i => kI (-i)
  | _ => .bad
def tyB : Ty → PyData → Bool
  | .int, .int _ => true
  | .int, .bool _ => true
  | .bool, .bool _ => true
  | .str, .str _ => true
  | .tuple, .tuple _ => true
  | .list, .list _ => true
  | _, _ => false
def isiD (ts : List Ty) (d : PyData) : R Vl := if isDict d then .bad else kB (ts.any fun t => tyB t d)
/-- the place that an index means -/
def ixD : PyData → PyData → R Vl
  | .list xs, .int i => match L2.atI xs i with
    | some d => .ok (.fz d)
    | none => .bad
  | .tuple xs, .int i => match L2.atI xs i with
    | some d => .ok (.fz d)
    | none => .bad
  | .str z, .int i => match L2.atI z.cps.toList i with
    | some c => .ok (.fz (.str ⟨#[c]⟩))
    | none => .bad
  | _, _ => .bad
def cut {α : Type} (xs : List α) (lo hi : Option Int) : List α :=
  (xs.drop (HT.sIx xs.length 0 lo)).take (HT.sIx xs.length xs.length hi - HT.sIx xs.length 0 lo)
/-- a slice's ends -/
def bndD : List PyData → R (Option Int)
  | [] => .ok none
  | [.int i] => .ok (some i)
  | _ => .bad
def slD : PyData → Option Int → Option Int → R Vl
  | .list xs, lo, hi => .ok (.ow (.list (cut xs lo hi)))
  | .tuple xs, lo, hi => .ok (.fz (.tuple (cut xs lo hi)))
  | .str z, lo, hi => .ok (.fz (.str ⟨(cut z.cps.toList lo hi).toArray⟩))
  | _, _, _ => .bad
def alikeB (ds : List PyData) : Bool := ds.all fun d => ds.all fun e => W.alike d e
def tupB : PyData → Bool
  | .tuple (_ :: _) => true
  | _ => false
def othB : PyData → Bool
  | .tuple _ => false
  | .none => false
  | _ => true
def sortOk (ds : List PyData) : Bool := alikeB ds && (ds.all tupB || ds.all othB) && ds.all fun d => decide (d.depth ≤ 64)
def strT : Str := Str.ofString "True"
def strF : Str := Str.ofString "False"
def lenD : PyData → R Vl
  | .list xs => kI xs.length
  | .tuple xs => kI xs.length
  | .str x => kI x.length
  | _ => .bad
def allD : PyData → R Vl
  | .list xs => match boolsOf xs with
    | some bs => kB (bs.all id)
    | none => .bad
  | _ => .bad
def anyD : PyData → R Vl
  | .list xs => match boolsOf xs with
    | some bs => kB (bs.any id)
    | none => .bad
  | _ => .bad
def sumD : PyData → R Vl
  | .list xs => match intsOf xs with
    | some ns => kI ns.sum
    | none => .bad
  | _ => .bad
/-- such data as are compared with one another -/
def cmpOk (xs : List PyData) : Bool := sortOk xs && PyData.plainAll xs && decide (PyData.depthAll xs ≤ 64)
def maxL : List PyData → R Vl
  | [] => .bad
  | x :: xs => if cmpOk (x :: xs) then .ok (.fz (W.maxD x xs)) else .bad
def minL : List PyData → R Vl
  | [] => .bad
  | x :: xs => if cmpOk (x :: xs) then .ok (.fz (W.minD x xs)) else .bad
def maxD : PyData → R Vl
  | .list xs => match intsOf xs with
    | some (n :: ns) => kI (maxI (n :: ns))
    | some [] => .bad
    | none => maxL xs
  | _ => .bad
def minD : PyData → R Vl
  | .list xs => match intsOf xs with
    | some (n :: ns) => kI (minI (n :: ns))
    | some [] => .bad
    | none => minL xs
  | _ => .bad
def sortD : PyData → R Vl
  | .list xs => if sortOk xs then .ok (.ow (.list (xs.mergeSort (W.dataLe false id)))) else .bad
  | _ => .bad
def tupleD : PyData → R Vl
  | .list xs => .ok (.fz (.tuple xs))
  | .tuple xs => .ok (.fz (.tuple xs))
  | _ => .bad
def listD : PyData → R Vl
  | .list xs => .ok (.ow (.list xs))
  | .tuple xs => .ok (.ow (.list xs))
  | _ => .bad
def intD : PyData → R Vl
  | .int i => kI i
  | .bool b => kI (if b then 1 else 0)
  | _ => .bad
def strD : PyData → R Vl
  | .int i => if smallI i then .ok (.fz (.str (toString i))) else .bad
  | _ => .bad
def reprD : PyData → R Vl
  | .bool b => .ok (.fz (.str (if b then strT else strF)))
  | _ => .bad
def bi1 (f : Bi) (d : PyData) : R Vl := match f with
  | .len => lenD d
  | .all => allD d
  | .any => anyD d
  | .sum => sumD d
  | .max => maxD d
  | .min => minD d
  | .sorted => sortD d
  | .tuple => tupleD d
  | .list => listD d
  | .int => intD d
  | .str => strD d
  | .repr => reprD d
def biD (f : Bi) (ds : List PyData) : R Vl := match ds with
  | [d] => bi1 f d
  | _ => .bad
def distinctI : List Int → List Int
  | [] => []
  | x :: r => if x ∈ r then distinctI r else x :: distinctI r
/-- the first place of an equal one -/
def findD (ds : List PyData) (d : PyData) : Option Nat := ds.findIdx? fun z => PyData.eqv z d
def lstOf : PyData → R (List PyData)
  | .list xs => .ok xs
  | _ => .bad
def mtD : Mt → List PyData → List PyData → R Vl
  | .index, xs, [d] => if decide (d.depth ≤ 64) && decide (PyData.depthAll xs ≤ 63) then (match findD xs d with
    | some j => kI j
    | none => .bad) else .bad
  | _, _, _ => .bad
/-- t.index(k), t a tuple of ints -/
def tixD : List PyData → PyData → R Vl
  | ds, .int k => match intsOf ds with
    | some ns => if k ∈ ns then kI (ns.idxOf k : Nat) else .bad
    | none => .bad
  | _, _ => .bad
def ptD : Vl → R (List PyData)
  | .pt ds => .ok ds
  | _ => .bad
/-- the same tuple, known to be plain -/
def ptOf : Vl → R Vl
  | .fz (.tuple ds) => .ok (.pt ds)
  | _ => .bad
/-- x, *y = d -/
def starD : PyData → R (PyData × List PyData)
  | .list (x :: xs) => .ok (x, xs)
  | .tuple (x :: xs) => .ok (x, xs)
  | _ => .bad
/-- a dict's pairs, whoever holds it -/
def dicV : Vl → R (List (PyData × PyData))
  | .fd kvs => .ok kvs
  | .ow (.dict kvs) => .ok kvs
  | _ => .bad
def lkD (x : Str) : List (PyData × PyData) → Option PyData
  | [] => none
  | (.str k, v) :: r => if x = k then some v else lkD x r
  | _ :: r => lkD x r
def dixD (kvs : List (PyData × PyData)) : PyData → R Vl
  | .str x => match lkD x kvs with
    | some d => .ok (.fz d)
    | none => .bad
  | _ => .bad
def dgtD (kvs : List (PyData × PyData)) : PyData → Vl → R Vl
  | .str x, v => match lkD x kvs with
    | some d => .ok (.fz d)
    | none => .ok v
  | _, _ => .bad
/-- in its place, or at the end -/
def keyD (x : Str) (q : PyData × PyData) : Bool := match q.1 with
  | .str k => decide (k = x)
  | _ => false
def putD (x : Str) (d : PyData) (kvs : List (PyData × PyData)) : List (PyData × PyData) := if kvs.any (keyD x) then kvs.map fun q => if keyD x q then (q.1, d) else q else kvs ++ [(.str x, d)]
def dputD (kvs : List (PyData × PyData)) : PyData → PyData → R (List (PyData × PyData))
  | .str x, d => if kvs.length < 1000 then .ok (putD x d kvs) else .bad
  | _, _ => .bad
def gcD (kvs : List (Str × Gc)) : List (PyData × PyData) := kvs.map fun q => (.str q.1, q.2.d)
/-! sorted, min by key=lambda x: (len(x), x), or (-len(x), x) -/
def keyOfD (neg : Bool) : PyData → PyData
  | .tuple xs => .tuple [.int (if neg then -(xs.length : Int) else xs.length), .tuple xs]
  | d => d
mutual
/-- no lists, no dicts in it -/
def noL : PyData → Bool
  | .tuple xs => noLs xs
  | .list _ => false
  | .dict _ => false
  | _ => true
def noLs : List PyData → Bool
  | [] => true
  | x :: r => noL x && noLs r
end
def isTupD : PyData → Bool
  | .tuple _ => true
  | _ => false
def keyOk (neg : Bool) (xs : List PyData) : Bool := alikeB (xs.map (keyOfD neg)) && xs.all fun d => isTupD d && noL d && decide (d.depth ≤ 60)
def leastK (neg : Bool) (x : PyData) (xs : List PyData) : PyData := xs.foldl (fun b y => if W.dataLt (keyOfD neg y) (keyOfD neg b) then y else b) x
def byKey (mn neg : Bool) : PyData → R Vl
  | .list xs => if keyOk neg xs then (if mn then (match xs with
    | [] => .bad
    | x :: r => .ok (.fz (leastK neg x r))) else .ok (.ow (.list (xs.mergeSort (W.dataLe false (keyOfD neg)))))) else .bad
  | _ => .bad
/-- a pair (tie) of ints below 64 -/
def pairB : PyData → Bool
  | .tuple [.int a, .int b] => decide (0 ≤ a) && decide (a < 64) && decide (0 ≤ b) && decide (b < 64)
  | _ => false
def lensetD : PyData → R Vl
  | .tuple xs => match intsOf xs with
    | some ns => if ns.length < 1000 then kI (distinctI ns).length else .bad
    | none => .bad
  | _ => .bad
/-- a pair's number -/
def codeP : PyData → Int
  | .tuple [.int a, .int b] => a * 64 + b
  | _ => 0
def pairC (c : Int) : PyData := .tuple [.int (c / 64), .int (c % 64)]
/-- c comes into the rising row -/
def insU (c : Int) : List Int → List Int
  | [] => [c]
  | x :: r => if c < x then c :: x :: r else if c = x then x :: r else x :: insU c r
/-- the rising row of some ints -/
def risI (ns : List Int) : List Int := ns.foldr insU []
/-- sorted({k: True for ..}) -/
def dkeysD (ks : List PyData) : R Vl := match intsOf ks with
  | some ns => if ns.length < 64 then .ok (.ow (.list ((risI ns).map .int))) else .bad
  | none => .bad
def sortsetD : PyData → R Vl
  | .tuple xs => if xs.all pairB && decide (xs.length < 64) then .ok (.ow (.list (((xs.map codeP).foldr insU []).map pairC))) else match intsOf xs with
    | some ns => if ns.length < 64 then .ok (.ow (.list ((risI ns).map .int))) else .bad
    | none => .bad
  | _ => .bad
/-- {..: ..}.get(x, v), the keys texts -/
def dgetD (kvs : List (Str × Gc)) : PyData → Vl → R Vl
  | .str x, v => match kvs.lookup x with
    | some c => .ok (.fz c.d)
    | none => .ok v
  | _, _ => .bad
def revD : PyData → R Vl
  | .list xs => .ok (.ow (.list xs.reverse))
  | .tuple xs => .ok (.fz (.tuple xs.reverse))
  | _ => .bad
def trngD : List PyData → R Vl
  | [.int n] => if inN n lim then .ok (.fz (.tuple ((List.range n.toNat).map fun (i : Nat) => .int i))) else .bad
  | _ => .bad
def trng2D : PyData → PyData → R Vl
  | .int a, .int b => if inN a lim && inN b lim then .ok (.fz (.tuple ((List.range (b - a).toNat).map fun (i : Nat) => .int (a + i)))) else .bad
  | _, _ => .bad
def lrngD : List PyData → R Vl
  | [.int n] => if inN n lim then .ok (.ow (.list ((List.range n.toNat).map fun (i : Nat) => .int i))) else .bad
  | _ => .bad
/-- the items that a walk gives -/
def itemsD : PyData → R (List PyData)
  | .list xs => .ok xs
  | .tuple xs => .ok xs
  | .str z => .ok (z.cps.toList.map fun c => .str ⟨#[c]⟩)
  | _ => .bad
def rngD : List PyData → R (List PyData)
  | [.int n] => if inN n lim then .ok ((List.range n.toNat).map fun (i : Nat) => .int i) else .bad
  | [.int a, .int b] => if inN a lim && inN b lim then .ok ((List.range (b - a).toNat).map fun (i : Nat) => .int (a + i)) else .bad
  | _ => .bad
def seqD : PyData → R (List PyData)
  | .list xs => .ok xs
  | .tuple xs => .ok xs
  | _ => .bad
def enumL (xs : List PyData) : List PyData := (xs.zipIdx).map fun p => .tuple [.int (p.2 : Nat), p.1]
def zipL (xs ys : List PyData) : List PyData := (xs.zip ys).map fun p => .tuple [p.1, p.2]
def enumD : PyData → R (List PyData)
  | .list xs => .ok (enumL xs)
  | .tuple xs => .ok (enumL xs)
  | _ => .bad
/-- two lists, or two tuples -/
def zipD : PyData → PyData → R (List PyData)
  | .list xs, .list ys => .ok (zipL xs ys)
  | .tuple xs, .tuple ys => .ok (zipL xs ys)
  | _, _ => .bad
/-- names take what a target is given -/
def setAll : List Nat → List PyData → Env → Env
  | i :: is, d :: ds, ρ => setAll is ds (ρ.set i (some (.fz d)))
  | _, _, ρ => ρ
def bindT (tg : List Nat) (tu : Bool) (d : PyData) (ρ : Env) : R Env :=
  if tu then (match d with
    | .tuple ds => if ds.length = tg.length then .ok (setAll tg ds ρ) else .bad
    | _ => .bad)
  else (match tg with
    | [i] => .ok (ρ.set i (some (.fz d)))
    | _ => .bad)
def wipeE (ρ : Env) : List Nat → Env
  | [] => ρ
  | v :: vs => (wipeE ρ vs).set v none
def compL (bnd : PyData → R Env) (cond : Env → R Bool) (elt : Env → R PyData) : List PyData → R (List PyData)
  | [] => .ok []
  | d :: ds => (bnd d).bind fun ρ => (cond ρ).bind fun b => if b then (elt ρ).bind fun x => map1 (compL bnd cond elt ds) (x :: ·) else compL bnd cond elt ds
/-- one list behind another -/
def flatL (g : PyData → R (List PyData)) : List PyData → R (List PyData)
  | [] => .ok []
  | d :: ds => (g d).bind fun xs => map1 (flatL g ds) (xs ++ ·)
def boolV : Vl → R Bool
  | .fz (.bool b) => .ok b
  | _ => .bad
def isLoc : Tm → Bool
  | .loc _ => true
  | _ => false
/-- a value that is kept somewhere: what a name holds as its own may not be -/
def keepV (l : Bool) : Vl → R Vl
  | .ow d => if l then .bad else .ok (.ow d)
  | v => .ok v
/-- one's own, standing still -/
def frzV : PyData → Vl
  | .dict kvs => .fd kvs
  | d => .fz d
def argV : Vl → Vl
  | .ow d => frzV d
  | v => v
def tmsLen : Tms → Nat
  | .nil => 0
  | .cons _ r => tmsLen r + 1
section
variable (run : Nat → List Vl → R Vl)
mutual
def ev : Tm → Env → R Vl
  | .non, _ => .ok (.fz .none)
  | .bl b, _ => .ok (.fz (.bool b))
  | .int i, _ => .ok (.fz (.int i))
  | .str x, _ => .ok (.fz (.str x))
  | .loc i, ρ => match ρ[i]? with
    | some (some v) => .ok v
    | _ => .bad
  | .glo _ d, _ => .ok (.fz d.d)
  | .op o a b, ρ => ((ev a ρ).bind dat).bind fun x => ((ev b ρ).bind dat).bind fun y => (op2D o x y).calm
  | .chain o p a b c, ρ => ((ev a ρ).bind dat).bind fun x => ((ev b ρ).bind dat).bind fun y => (op2D o x y).calm.bind fun v => (boolV v).bind fun t => if t then ((ev c ρ).bind dat).bind fun z => (op2D p y z).calm else .ok (.fz (.bool false))
  | .neg a, ρ => ((ev a ρ).bind dat).bind fun x => (negD x).calm
  | .not a, ρ => (((ev a ρ).bind dat).bind truthD).bind fun b => kB (!b)
  | .and es, ρ => evAnd es ρ
  | .or es, ρ => evOr es ρ
  | .ite c a b, ρ => (((ev c ρ).bind dat).bind truthD).bind fun t => if t then (ev a ρ).bind (keepV (isLoc a)) else (ev b ρ).bind (keepV (isLoc b))
  | .tup es, ρ => (evDs es ρ).bind fun ds => .ok (.fz (.tuple ds))
  | .lst es, ρ => (evDs es ρ).bind fun ds => .ok (.ow (.list ds))
  | .ix a b, ρ => ((ev a ρ).bind dat).bind fun x => ((ev b ρ).bind dat).bind fun y => (ixD x y).calm
  | .sl a lo hi, ρ => ((ev a ρ).bind dat).bind fun x => ((evTs lo ρ).bind bndD).bind fun l => ((evTs hi ρ).bind bndD).bind fun h => (slD x l h).calm
  | .isi a ts, ρ => ((ev a ρ).bind dat).bind fun x => (isiD ts x).calm
  | .bi f es, ρ => (evTs es ρ).bind fun ds => (biD f ds).calm
  | .lenset a, ρ => ((ev a ρ).bind dat).bind fun x => (lensetD x).calm
  | .sortset a, ρ => ((ev a ρ).bind dat).bind fun x => (sortsetD x).calm
  | .rep a k, ρ => ((((ev a ρ).bind (keepV (isLoc a))).bind dat).bind plain).bind fun x => ((ev k ρ).bind dat).bind fun y => (repD x y).calm
  | .dget kvs a d, ρ => ((ev a ρ).bind dat).bind fun x => ((ev d ρ).bind (keepV (isLoc d))).bind fun v => dgetD kvs x v
  | .rev a, ρ => ((ev a ρ).bind dat).bind fun x => (revD x).calm
  | .lrng es, ρ => (evTs es ρ).bind fun ds => (lrngD ds).calm
  | .mt m a es, ρ => (((ev a ρ).bind dat).bind lstOf).bind fun xs => (evTs es ρ).bind fun ds => (mtD m xs ds).calm
  | .call f es, ρ => (evAs es ρ).bind fun vs => run f vs
  | .comp e tg tu it c own, ρ => (evIt false it ρ).bind fun ds =>
      map1 (compL (fun d => bindT tg tu d (wipeE ρ own)) (fun ρ1 => (evCond c ρ1).calm) (fun ρ1 => ((ev e ρ1).bind (keepV (isLoc e))).calm.bind fun v => (dat v).bind plain) ds).calm fun ys => .ow (.list ys)
  | .comp2 e tg tu it c tg1 tu1 it1 c1 own, ρ => (evIt false it ρ).bind fun ds =>
      (flatL (fun d => (bindT tg tu d (wipeE ρ own)).bind fun ρ1 => (evCond c ρ1).calm.bind fun b => if b then (evIt true it1 ρ1).calm.bind fun ds1 =>
        compL (fun d1 => bindT tg1 tu1 d1 (wipeE ρ1 tg1)) (fun ρ2 => (evCond c1 ρ2).calm) (fun ρ2 => ((ev e ρ2).bind (keepV (isLoc e))).calm.bind fun v => (dat v).bind plain) ds1 else .ok []) ds).calm.bind
        fun ys => if ys.length ≤ lim then .ok (.ow (.list ys)) else .bad
  | .dkeys e tg tu it own, ρ => (evIt false it ρ).bind fun ds =>
      (compL (fun d => bindT tg tu d (wipeE ρ own)) (fun _ => .ok true) (fun ρ1 => (ev e ρ1).calm.bind dat) ds).calm.bind fun ks => (dkeysD ks).calm
  | .trng es, ρ => (evTs es ρ).bind fun ds => (trngD ds).calm
  | .trng2 a b, ρ => ((ev a ρ).bind dat).bind fun x => ((ev b ρ).bind dat).bind fun y => (trng2D x y).calm
  | .ptup es, ρ => (evDs es ρ).bind fun ds => .ok (.pt ds)
  | .ptl a, ρ => ((ev a ρ).bind dat).bind lstOf |>.bind fun ds => .ok (.pt ds)
  | .ptr a, ρ => ((ev a ρ).bind dat).bind fun x => (trngD [x]).calm.bind ptOf
  | .ptr2 a b, ρ => ((ev a ρ).bind dat).bind fun x => ((ev b ρ).bind dat).bind fun y => (trng2D x y).calm.bind ptOf
  | .tix a b, ρ => ((ev a ρ).bind ptD).bind fun ds => ((ev b ρ).bind dat).bind fun y => (tixD ds y).calm
  | .dnew, _ => .ok (.ow (.dict []))
  | .disp kvs, _ => .ok (.ow (.dict (gcD kvs)))
  | .dix a b, ρ => ((ev a ρ).bind dicV).bind fun kvs => ((ev b ρ).bind dat).bind fun y => (dixD kvs y).calm
  | .dgt a b c, ρ => ((ev a ρ).bind dicV).bind fun kvs => ((ev b ρ).bind dat).bind fun y => ((ev c ρ).bind (keepV (isLoc c))).bind fun v => dgtD kvs y v
  | .dcopy a, ρ => ((ev a ρ).bind dicV).bind fun kvs => .ok (.ow (.dict kvs))
  | .gget _ kvs a d, ρ => ((ev a ρ).bind dat).bind fun x => ((ev d ρ).bind (keepV (isLoc d))).bind fun v => dgetD kvs x v
  | .gix _ kvs a, ρ => ((ev a ρ).bind dat).bind fun x => (dixD (gcD kvs) x).calm
  | .no, _ => .bad
/-- what is only looked at -/
def evTs : Tms → Env → R (List PyData)
  | .nil, _ => .ok []
  | .cons a r, ρ => ((ev a ρ).bind dat).bind fun x => map1 (evTs r ρ) (x :: ·)
/-- what is kept within data -/
def evDs : Tms → Env → R (List PyData)
  | .nil, _ => .ok []
  | .cons a r, ρ => ((((ev a ρ).bind (keepV (isLoc a))).bind dat).bind plain).bind fun x => map1 (evDs r ρ) (x :: ·)
/-- what is handed to a def -/
def evAs : Tms → Env → R (List Vl)
  | .nil, _ => .ok []
  | .cons a r, ρ => ((ev a ρ).bind (keepV (isLoc a))).bind fun x => map1 (evAs r ρ) (argV x :: ·)
def evAnd : Tms → Env → R Vl
  | .nil, _ => .bad
  | .cons a r, ρ => ((ev a ρ).bind (keepV (isLoc a))).bind fun v => match r with
    | .nil => .ok v
    | .cons _ _ => ((dat v).bind truthD).bind fun b => if b then evAnd r ρ else .ok v
def evOr : Tms → Env → R Vl
  | .nil, _ => .bad
  | .cons a r, ρ => ((ev a ρ).bind (keepV (isLoc a))).bind fun v => match r with
    | .nil => .ok v
    | .cons _ _ => ((dat v).bind truthD).bind fun b => if b then .ok v else evOr r ρ
/-- a clause's tests: none, or one -/
def evCond : Tms → Env → R Bool
  | .nil, _ => .ok true
  | .cons c r, ρ => match r with
    | .nil => ((ev c ρ).bind dat).bind truthD
    | .cons _ _ => .bad
def evIt (k : Bool) : It → Env → R (List PyData)
  | .tm t, ρ => (((ev t ρ).bind (keepV (k && isLoc t))).bind dat).bind fun d => (itemsD d).calm
  | .rng es, ρ => (evTs es ρ).bind fun ds => (rngD ds).calm
  | .enum t, ρ => (((ev t ρ).bind (keepV (k && isLoc t))).bind dat).bind fun d => (enumD d).calm
  | .zip a b, ρ => (((ev a ρ).bind (keepV (k && isLoc a))).bind dat).bind fun c => (((ev b ρ).bind (keepV (k && isLoc b))).bind dat).bind fun d => (zipD c d).calm
end
def evT (t : Tm) (ρ : Env) : R PyData := (ev run t ρ).bind dat
def evB (t : Tm) (ρ : Env) : R Bool := ((ev run t ρ).bind dat).bind truthD
def evK (t : Tm) (ρ : Env) : R Vl := (ev run t ρ).bind (keepV (isLoc t))
def evD (t : Tm) (ρ : Env) : R PyData := ((evK run t ρ).bind dat).bind plain
/-! ### statements -/
inductive Out where
  | nx (ρ : Env)
  | rt (v : Vl)
def frz (ρ : Env) : List Nat → Env
  | [] => ρ
  | i :: r => frz (match ρ[i]? with
    | some (some (.ow d)) => ρ.set i (some (frzV d))
    | _ => ρ) r
def forL (bnd : PyData → Env → R Env) (body : Env → R Out) : List PyData → Env → R Out
  | [], ρ => .ok (.nx ρ)
  | d :: ds, ρ => (bnd d ρ).bind fun ρ1 => (body ρ1).bind fun o => match o with
    | .nx ρ2 => forL bnd body ds ρ2
    | .rt v => .ok (.rt v)
def whileL (cond : Env → R Bool) (body : Env → R Out) : Nat → Env → R Out
  | 0, _ => .bad
  | n + 1, ρ => (cond ρ).bind fun b => if b then (body ρ).bind fun o => match o with
    | .nx ρ2 => whileL cond body n ρ2
    | .rt v => .ok (.rt v)
  else .ok (.nx ρ)
def getO (ρ : Env) (i : Nat) : R PyData := match ρ[i]? with
  | some (some (.ow d)) => plain d
  | _ => .bad
def muD : Mu → PyData → List PyData → R PyData
  | .append, .list xs, [d] => if xs.length < lim then .ok (.list (xs ++ [d])) else .bad
  | .insert, .list xs, [.int i, d] => if xs.length < lim ∧ 0 ≤ i ∧ i ≤ xs.length then .ok (.list (xs.take i.toNat ++ d :: xs.drop i.toNat)) else .bad
  | _, _, _ => .bad
def setD : PyData → PyData → PyData → R PyData
  | .list xs, .int i, d => match L2.ixN xs.length i with
    | some j => .ok (.list (xs.set j d))
    | none => .bad
  | _, _, _ => .bad
def fuel : Nat := 100000
mutual
def exS : Sm → Env → R Out
  | .asg i t, ρ => (evK run t ρ).bind fun v => .ok (.nx (ρ.set i (some v)))
  | .asgT is t, ρ => (evD run t ρ).bind fun d => map1 (bindT is true d ρ) .nx
  | .par i j a b, ρ => (evK run a ρ).bind fun v => (evK run b ρ).bind fun u => .ok (.nx ((ρ.set i (some v)).set j (some u)))
  | .aug i o t, ρ => (match ρ[i]? with
      | some (some (.fz d)) => R.ok d
      | _ => .bad).bind fun d => (evT run t ρ).bind fun e => (op2D o d e).calm.bind fun v => (match v with
      | .fz (.int k) => R.ok (Vl.fz (.int k))
      | .fz (.str k) => R.ok (Vl.fz (.str k))
      | _ => .bad).bind fun v => .ok (.nx (ρ.set i (some v)))
  | .setix i k t, ρ => (evD run t ρ).bind fun d => (getO ρ i).bind fun xs => (evT run k ρ).bind fun k => (setD xs k d).bind fun ys => .ok (.nx (ρ.set i (some (.ow ys))))
  | .mut m i es, ρ => (getO ρ i).bind fun xs => (evDs run es ρ).bind fun ds => (muD m xs ds).bind fun ys => .ok (.nx (ρ.set i (some (.ow ys))))
  | .if_ c a b, ρ => (evB run c ρ).bind fun t => if t then exs a ρ else exs b ρ
  | .for_ tg tu it b, ρ => (evIt run true it ρ).bind fun ds => forL (fun d ρ => bindT tg tu d ρ) (fun ρ1 => exs b ρ1) ds ρ
  | .while_ c b, ρ => whileL (fun ρ1 => evB run c ρ1) (fun ρ1 => exs b ρ1) fuel ρ
  | .ret t, ρ => (ev run t ρ).bind fun v => .ok (.rt v)
  | .retN, _ => .ok (.rt (.fz .none))
  | .exp t, ρ => (ev run t ρ).bind fun _ => .ok (.nx ρ)
  | .raise x, _ => .err x
  | .pass, ρ => .ok (.nx ρ)
  | .star i j t, ρ => (evT run t ρ).bind fun d => map1 (starD d) fun p => .nx ((ρ.set i (some (.fz p.1))).set j (some (.ow (.list p.2))))
  | .dput i k t, ρ => (evD run t ρ).bind fun d => (match ρ[i]? with
      | some (some (.ow (.dict kvs))) => R.ok kvs
      | _ => .bad).bind fun kvs => (evT run k ρ).bind fun y => (dputD kvs y d).bind fun kvs2 => .ok (.nx (ρ.set i (some (.ow (.dict kvs2)))))
  | .retK mn neg t, ρ => (evT run t ρ).bind fun d => (byKey mn neg d).calm.bind fun v => .ok (.rt v)
  | .asgK i mn neg t, ρ => (evT run t ρ).bind fun d => (byKey mn neg d).calm.bind fun v => .ok (.nx (ρ.set i (some v)))
  | .no, _ => .bad
def exs : Sms → Env → R Out
  | .nil, ρ => .ok (.nx ρ)
  | .cons s r, ρ => (exS s ρ).bind fun o => match o with
    | .nx ρ1 => exs r ρ1
    | .rt v => .ok (.rt v)
  | .fz is r, ρ => exs r (frz ρ is)
end
end
/-- a def: how many parameters, how many names -/
structure Fd where
  name : Str
  np : Nat
  N : List Str
  body : Sms
def fin : Out → Vl
  | .nx _ => .fz .none
  | .rt v => v
def runF (tb : List Fd) : Nat → Nat → List Vl → R Vl
  | 0, _, _ => .bad
  | n + 1, f, vs => match tb[f]? with
    | none => .bad
    | some d => if vs.length = d.np then map1 (exs (runF tb n) d.body (vs.map some ++ List.replicate (d.N.length - d.np) none)) fin else .bad
end Wv
/-! What data a value stands for; how far the heap may go on. -/
namespace Wv
open PySem PySem.Spec PyProof.Rows L2
open LamX (Tabs TabS ExtN CodeO TabB)
mutual
inductive Rp (K : PySem.W.Frag) (F : Hp) : V → PyData → Prop
  | non : Rp K F .non .none
  | bl (b : Bool) : Rp K F (.bl b) (.bool b)
  | int (i : Int) : Rp K F (.int i) (.int i)
  | str (x : Str) (h : x.length ≤ sizeLine) (o : PyData.strOk x = true) : Rp K F (.str x) (.str x)
  | lst {a : Addr} {xs : List V} {ds : List PyData} (h : SqL K F a xs) (z : xs.length ≤ sizeLine) (r : RpAll K F xs ds) : Rp K F (.ref a) (.list ds)
  | tup {a : Addr} {xs : List V} {ds : List PyData} (h : SqT K F a xs) (z : xs.length ≤ sizeLine) (r : RpAll K F xs ds) : Rp K F (.ref a) (.tuple ds)
inductive RpAll (K : PySem.W.Frag) (F : Hp) : List V → List PyData → Prop
  | nil : RpAll K F [] []
  | cons {v : V} {vs : List V} {d : PyData} {ds : List PyData} (h : Rp K F v d) (t : RpAll K F vs ds) : RpAll K F (v :: vs) (d :: ds)
end
/-- the top object read off H, what it holds off F -/
inductive Tp (K : PySem.W.Frag) (F H : Hp) : V → PyData → Prop
  | non : Tp K F H .non .none
  | bl (b : Bool) : Tp K F H (.bl b) (.bool b)
  | int (i : Int) : Tp K F H (.int i) (.int i)
  | str (x : Str) (h : x.length ≤ sizeLine) (o : PyData.strOk x = true) : Tp K F H (.str x) (.str x)
  | lst {a : Addr} {xs : List V} {ds : List PyData} (h : SqL K H a xs) (z : xs.length ≤ sizeLine) (r : RpAll K F xs ds) : Tp K F H (.ref a) (.list ds)
  | tup {a : Addr} {xs : List V} {ds : List PyData} (h : SqT K F a xs) (z : xs.length ≤ sizeLine) (r : RpAll K F xs ds) : Tp K F H (.ref a) (.tuple ds)
/-- the tables of code objects that lambdas may fill, the name of what they tell -/
class Tbs where
  T : List (Addr × Str)
section
variable [Tbs] {F F' H H' : Hp}
def NoT (F : Hp) : Prop := ∀ b ps, F b ≠ some (.tbl ps)
/-- what stands still, of what is tracked -/
structure Fit (F H : Hp) : Prop where
  sm : Same F H
  nt : NoT F
  tb : Tabs Tbs.T H
instance : CoeFun (Fit F H) (fun _ => ∀ b o, F b = some o → H b = some o) := ⟨Fit.sm⟩
instance : Coe (Fit F H) (Same F H) := ⟨Fit.sm⟩
/-- all but the tables stays; the tables tell no less -/
structure Ext (H H' : Hp) : Prop where
  ex : ExtN H H'
  free : ∀ {b : Addr}, H' b = none → H b = none
  tb : Tabs Tbs.T H → Tabs Tbs.T H'
  tt : ∀ b ps, H b = some (.tbl ps) → ∃ ps', H' b = some (.tbl ps')
theorem Ext.refl (H : Hp) : Ext H H := ⟨ExtN.refl H, id, id, fun b ps h => ⟨ps, h⟩⟩
theorem Ext.trans {H1 : Hp} (a : Ext H H1) (b : Ext H1 H') : Ext H H' := ⟨a.ex.trans b.ex, fun h => a.free (b.free h), fun t => b.tb (a.tb t), fun c ps h => by
  obtain ⟨ps1, h1⟩ := a.tt c ps h
  exact b.tt c ps1 h1⟩
theorem Ext.of (e : Same H H') : Ext H H' := ⟨ExtN.of e, fun h => Same.free e h, fun t => t.ext e, fun b ps h => ⟨ps, e _ _ h⟩⟩
theorem Ext.at_ {b : Addr} {o : HO} (e : Ext H H') (h : H b = some o) (n : ∀ ps, o ≠ .tbl ps := by intro ps z; cases z) : H' b = some o := e.ex b o h n
theorem Ext.some {b : Addr} {o : HO} (e : Ext H H') (h : H b = some o) : ∃ o', H' b = some o' := by
  cases q : H' b with
  | none => rw [e.free q] at h; cases h
  | some u => exact ⟨u, rfl⟩
theorem Fit.trans (a : Fit F H) (b : Same H H') : Fit F H' := ⟨Same.trans a.sm b, a.nt, a.tb.ext b⟩
theorem Fit.ext (a : Fit F H) (b : Ext H H') : Fit F H' := ⟨fun c o h => b.ex c o (a.sm c o h) fun ps z => a.nt c ps (by rw [h, z]), a.nt, b.tb a.tb⟩
end
section
variable {K : PySem.W.Frag} {F F' H H' : Hp}
theorem Same.rd {a : Addr} {u : HO} (e : Same H H') (h : Rd H a u) : Rd H' a u := by
  rcases h with h | ⟨o, h⟩
  · exact .inl (e _ _ h)
  · exact .inr ⟨o, e _ _ h⟩
theorem Same.sql {a : Addr} {xs : List V} (e : Same H H') (h : SqL K H a xs) : SqL K H' a xs := h.imp (Same.rd e) id
theorem Same.sqt {a : Addr} {xs : List V} (e : Same H H') (h : SqT K H a xs) : SqT K H' a xs := h.imp (Same.rd e) id
theorem Ext.rd [Tbs] {a : Addr} {u : HO} (e : Ext H H') (h : Rd H a u) (n : ∀ ps, u ≠ .tbl ps := by intro ps z; cases z) : Rd H' a u := by
  rcases h with h | ⟨o, h⟩
  · exact .inl (e.at_ h n)
  · exact .inr ⟨o, e.at_ h⟩
theorem Ext.sql [Tbs] {a : Addr} {xs : List V} (e : Ext H H') (h : SqL K H a xs) : SqL K H' a xs := h.imp (fun h => e.rd h) id
theorem Ext.sqt [Tbs] {a : Addr} {xs : List V} (e : Ext H H') (h : SqT K H a xs) : SqT K H' a xs := h.imp (fun h => e.rd h) id
mutual
theorem Rp.mono (e : Same F F') : ∀ {d : PyData} {v : V}, Rp K F v d → Rp K F' v d
  | _, _, .non => .non
  | _, _, .bl b => .bl b
  | _, _, .int i => .int i
  | _, _, .str x h o => .str x h o
  | _, _, .lst h z r => .lst (Same.sql e h) z (RpAll.mono e r)
  | _, _, .tup h z r => .tup (Same.sqt e h) z (RpAll.mono e r)
theorem RpAll.mono (e : Same F F') : ∀ {ds : List PyData} {vs : List V}, RpAll K F vs ds → RpAll K F' vs ds
  | _, _, .nil => .nil
  | _, _, .cons h t => .cons (Rp.mono e h) (RpAll.mono e t)
end
theorem Tp.mono [Tbs] (f : Same F F') (e : Ext H H') {d : PyData} {v : V} : Tp K F H v d → Tp K F' H' v d
  | .non => .non
  | .bl b => .bl b
  | .int i => .int i
  | .str x h o => .str x h o
  | .lst h z r => .lst (e.sql h) z (r.mono f)
  | .tup h z r => .tup (Same.sqt f h) z (r.mono f)
theorem Tp.monoS (f : Same F F') (e : Same H H') {d : PyData} {v : V} : Tp K F H v d → Tp K F' H' v d
  | .non => .non
  | .bl b => .bl b
  | .int i => .int i
  | .str x h o => .str x h o
  | .lst h z r => .lst (Same.sql e h) z (r.mono f)
  | .tup h z r => .tup (Same.sqt f h) z (r.mono f)
theorem Rp.tp {d : PyData} {v : V} : Rp K F v d → Tp K F F v d
  | .non => .non
  | .bl b => .bl b
  | .int i => .int i
  | .str x h o => .str x h o
  | .lst h z r => .lst h z r
  | .tup h z r => .tup h z r
theorem Tp.rp {d : PyData} {v : V} : Tp K F F v d → Rp K F v d
  | .non => .non
  | .bl b => .bl b
  | .int i => .int i
  | .str x h o => .str x h o
  | .lst h z r => .lst h z r
  | .tup h z r => .tup h z r
/-- everything stands in H -/
theorem Tp.all (e : Same F H) {d : PyData} {v : V} (t : Tp K F H v d) : Rp K H v d := (t.monoS e (Same.refl H)).rp
theorem Tp.atTup {ds : List PyData} {v : V} (t : Tp K F H v (.tuple ds)) : Rp K F v (.tuple ds) := by
  cases t with
  | tup h z r => exact .tup h z r
mutual
theorem Rp.dp : ∀ {d : PyData} {v : V}, Rp K F v d → Dp K F v d
  | _, _, .non => .non
  | _, _, .bl b => .bl b
  | _, _, .int i => .int i
  | _, _, .str x _ _ => .str x
  | _, _, .lst h _ r => .lst h (RpAll.dp r)
  | _, _, .tup h _ r => .tup h (RpAll.dp r)
theorem RpAll.dp : ∀ {ds : List PyData} {vs : List V}, RpAll K F vs ds → DpAll K F vs ds
  | _, _, .nil => .nil
  | _, _, .cons h t => .cons (Rp.dp h) (RpAll.dp t)
end
mutual
theorem Rp.lay : ∀ {d : PyData} {v : V}, Rp K F v d → d.canLay0 = true
  | _, _, .non => by simp only [PyData.canLay0]
  | _, _, .bl b => by simp only [PyData.canLay0]
  | _, _, .int i => by simp only [PyData.canLay0]
  | _, _, .str x _ o => by simpa only [PyData.canLay0] using o
  | _, _, .lst _ _ r => by simpa only [PyData.canLay0] using RpAll.lay r
  | _, _, .tup _ _ r => by simpa only [PyData.canLay0] using RpAll.lay r
theorem RpAll.lay : ∀ {ds : List PyData} {vs : List V}, RpAll K F vs ds → PyData.canLayAll0 ds = true
  | _, _, .nil => by simp only [PyData.canLayAll0]
  | _, _, .cons h t => by simp only [PyData.canLayAll0, Rp.lay h, RpAll.lay t, Bool.and_self]
end
theorem RpAll.length : ∀ {vs : List V} {ds : List PyData}, RpAll K F vs ds → vs.length = ds.length
  | _, _, .nil => rfl
  | _, _, .cons _ t => congrArg (· + 1) (RpAll.length t)
theorem RpAll.get : ∀ {vs : List V} {ds : List PyData} {i : Nat} {d : PyData}, RpAll K F vs ds → ds[i]? = some d → ∃ v, vs[i]? = some v ∧ Rp K F v d
  | _, _, _, _, .nil, e => by simp at e
  | _, _, 0, _, .cons h _, e => by simp at e; subst e; exact ⟨_, rfl, h⟩
  | _, _, i + 1, d, .cons _ t, e => by
    obtain ⟨v, h1, h2⟩ := RpAll.get (i := i) (d := d) t (by simpa using e)
    exact ⟨v, by simpa using h1, h2⟩
theorem RpAll.getV : ∀ {vs : List V} {ds : List PyData} {i : Nat} {v : V}, RpAll K F vs ds → vs[i]? = some v → ∃ d, ds[i]? = some d ∧ Rp K F v d
  | _, _, _, _, .nil, e => by simp at e
  | _, _, 0, _, .cons h _, e => by simp at e; subst e; exact ⟨_, rfl, h⟩
  | _, _, i + 1, d, .cons _ t, e => by
    obtain ⟨v, h1, h2⟩ := RpAll.getV (i := i) (v := d) t (by simpa using e)
    exact ⟨v, by simpa using h1, h2⟩
theorem RpAll.append : ∀ {vs us : List V} {ds es : List PyData}, RpAll K F vs ds → RpAll K F us es → RpAll K F (vs ++ us) (ds ++ es)
  | _, _, _, _, .nil, s => s
  | _, _, _, _, .cons h t, s => .cons h (RpAll.append t s)
theorem RpAll.take : ∀ {vs : List V} {ds : List PyData} (n : Nat), RpAll K F vs ds → RpAll K F (vs.take n) (ds.take n)
  | _, _, 0, _ => .nil
  | _, _, _ + 1, .nil => .nil
  | _, _, n + 1, .cons h t => .cons h (RpAll.take n t)
theorem RpAll.drop : ∀ {vs : List V} {ds : List PyData} (n : Nat), RpAll K F vs ds → RpAll K F (vs.drop n) (ds.drop n)
  | _, _, 0, r => r
  | _, _, _ + 1, .nil => .nil
  | _, _, n + 1, .cons _ t => RpAll.drop n t
theorem RpAll.set {v : V} {d : PyData} (h : Rp K F v d) : ∀ {vs : List V} {ds : List PyData} (n : Nat), RpAll K F vs ds → RpAll K F (vs.set n v) (ds.set n d)
  | _, _, _, .nil => .nil
  | _, _, 0, .cons _ t => .cons h t
  | _, _, n + 1, .cons h2 t => .cons h2 (RpAll.set h n t)
theorem RpAll.bools : ∀ {ds : List PyData} {vs : List V} {bs : List Bool}, RpAll K F vs ds → boolsOf ds = some bs → vs = bs.map V.bl
  | _, _, _, .nil, e => by simp [boolsOf] at e; subst e; rfl
  | .bool b :: ds, _, bs, .cons h t, e => by
    simp only [boolsOf, Option.map_eq_some_iff] at e
    obtain ⟨cs, e1, rfl⟩ := e
    cases h
    rw [RpAll.bools t e1, List.map_cons]
  | .none :: _, _, _, _, e => by simp [boolsOf] at e
  | .int _ :: _, _, _, _, e => by simp [boolsOf] at e
  | .str _ :: _, _, _, _, e => by simp [boolsOf] at e
  | .list _ :: _, _, _, _, e => by simp [boolsOf] at e
  | .tuple _ :: _, _, _, _, e => by simp [boolsOf] at e
  | .dict _ :: _, _, _, _, e => by simp [boolsOf] at e
theorem RpAll.ints : ∀ {ds : List PyData} {vs : List V} {ns : List Int}, RpAll K F vs ds → intsOf ds = some ns → vs = ns.map V.int
  | _, _, _, .nil, e => by simp [intsOf] at e; subst e; rfl
  | .int b :: ds, _, bs, .cons h t, e => by
    simp only [intsOf, Option.map_eq_some_iff] at e
    obtain ⟨cs, e1, rfl⟩ := e
    cases h
    rw [RpAll.ints t e1, List.map_cons]
  | .none :: _, _, _, _, e => by simp [intsOf] at e
  | .bool _ :: _, _, _, _, e => by simp [intsOf] at e
  | .str _ :: _, _, _, _, e => by simp [intsOf] at e
  | .list _ :: _, _, _, _, e => by simp [intsOf] at e
  | .tuple _ :: _, _, _, _, e => by simp [intsOf] at e
  | .dict _ :: _, _, _, _, e => by simp [intsOf] at e
theorem Tp.nodict {d : PyData} {v : V} (t : Tp K F H v d) : isDict d = false := by cases t <;> rfl
theorem Rp.nodict {d : PyData} {v : V} (t : Rp K F v d) : isDict d = false := by cases t <;> rfl
theorem Rp.int_inv {v : V} {i : Int} (h : Rp K F v (.int i)) : v = .int i := by cases h; rfl
theorem rp_ints : ∀ ns : List Int, RpAll K F (ns.map V.int) (ns.map PyData.int)
  | [] => .nil
  | n :: ns => .cons (.int n) (rp_ints ns)
/-! ### going on -/
section
variable [Tbs]
structure Adv (F H F' H' : Hp) : Prop where
  hh : Ext H H'
  ff : Same F F'
  fh : Fit F' H'
  nw : ∀ a o, F' a = some o → F a = some o ∨ H a = none
  f0 : Fit F H
theorem Adv.refl (e : Fit F H) : Adv F H F H := ⟨Ext.refl H, Same.refl F, e, fun _ _ h => .inl h, e⟩
theorem Adv.trans {F1 H1 F2 H2 : Hp} (a : Adv F H F1 H1) (b : Adv F1 H1 F2 H2) : Adv F H F2 H2 :=
  ⟨a.hh.trans b.hh, a.ff.trans b.ff, b.fh, fun x o h => (b.nw x o h).elim (fun q => a.nw x o q) fun q => .inr (a.hh.free q), a.f0⟩
theorem Fit.none (e : Fit F H) {p : Addr} (n : H p = none) : F p = none := by
  cases q : F p with
  | none => rfl
  | some u => have := e.sm p u q; rw [n] at this; cases this
theorem NoT.upd {p : Addr} {o : HO} (h : NoT F) (n : ∀ ps, o ≠ .tbl ps) : NoT (upd F p o) := fun b ps z => by
  by_cases hb : b = p
  · subst hb; rw [upd_same] at z; exact n ps (Option.some.inj z)
  · rw [upd_ne hb] at z; exact h b ps z
/-- no table, no code object -/
def Dull (o : HO) : Prop := (∀ ps, o ≠ .tbl ps) ∧ ∀ c q, o ≠ CodeO c q
theorem dull_lst {xs : List V} : Dull (.lst xs) := ⟨(fun ps z => by cases z), (fun c q z => by unfold LamX.CodeO at z; cases z)⟩
theorem dull_dK {xs : List (Key × V)} : Dull (.dK xs) := ⟨(fun ps z => by cases z), (fun c q z => by unfold LamX.CodeO at z; cases z)⟩
theorem tabs_upd {T : List (Addr × Str)} {D : Addr} {o o0 : HO} (t : Tabs T H) (h : H D = some o0) (n : Dull o0) : Tabs T (upd H D o) := fun p hp => by
  obtain ⟨ps, h1, h2, h3⟩ := t p hp
  have e1 : p.1 ≠ D := by
    intro z
    rw [z, h] at h1
    exact n.1 ps (Option.some.inj h1)
  refine ⟨ps, by rw [upd_ne e1]; exact h1, h2, fun pos cv hc => ?_⟩
  obtain ⟨c, e2, e3⟩ := h3 pos cv hc
  refine ⟨c, e2, ?_⟩
  rw [upd_ne]
  · exact e3
  · intro z
    rw [z, h] at e3
    exact n.2 _ _ (Option.some.inj e3)
/-- one's own is written -/
theorem Adv.write {F1 H1 F3 H3 : Hp} {D : Addr} {o o0 : HO} (a : Adv F1 H1 F3 H3) (hD : H1 D = none) (fD : F3 D = none) (h : H3 D = some o0) (n : Dull o0) : Adv F1 H1 F3 (upd H3 D o) := by
  refine ⟨⟨fun b u q nt => ?_, fun {b} q => ?_, fun t => tabs_upd (a.hh.tb t) h n, fun b ps q => ?_⟩, a.ff, ⟨fun b u q => ?_, a.fh.nt, tabs_upd a.fh.tb h n⟩, a.nw, a.f0⟩
  · rw [upd_ne (ne_of_none q hD)]; exact a.hh.ex b u q nt
  · by_cases hb : b = D
    · rw [hb]; exact hD
    · rw [upd_ne hb] at q; exact a.hh.free q
  · rw [upd_ne (ne_of_none q hD)]; exact a.hh.tt b ps q
  · rw [upd_ne (ne_of_none q fD)]; exact a.fh b u q
theorem same_new {p : Addr} {o : HO} (n : H p = none) : Same H (upd H p o) := fun b u h => by rw [upd_ne (ne_of_none h n)]; exact h
/-- a new object, standing still from now on -/
theorem Adv.lay (e : Fit F H) {p : Addr} {o : HO} (n : H p = none) (ho : ∀ ps, o ≠ .tbl ps := by intro ps z; cases z) : Adv F H (upd F p o) (upd H p o) := by
  have nF : F p = none := e.none n
  have hs : Same H (upd H p o) := same_new n
  refine ⟨Ext.of hs, fun b u h => by rw [upd_ne (ne_of_none h nF)]; exact h, ⟨fun b u h => ?_, e.nt.upd ho, e.tb.ext hs⟩, fun b u h => ?_, e⟩
  · by_cases hb : b = p
    · subst hb; rw [upd_same] at h ⊢; exact h
    · rw [upd_ne hb] at h ⊢; exact e b u h
  · by_cases hb : b = p
    · subst hb; exact .inr n
    · rw [upd_ne hb] at h; exact .inl h
/-- a new object of one's own -/
theorem Adv.own (e : Fit F H) {p : Addr} {o : HO} (n : H p = none) : Adv F H F (upd H p o) := by
  have hs : Same H (upd H p o) := same_new n
  exact ⟨Ext.of hs, Same.refl F, e.trans hs, fun b u h => .inl h, e⟩
/-- what one held stands still from now on -/
theorem Adv.still {F0 H0 : Hp} (a : Adv F0 H0 F H) {p : Addr} {o : HO} (n : H0 p = none) (hf : F p = none) (h : H p = some o) (ho : ∀ ps, o ≠ .tbl ps) : Adv F0 H0 (upd F p o) H := by
  refine ⟨a.hh, fun b u q => ?_, ⟨fun b u q => ?_, a.fh.nt.upd ho, a.fh.tb⟩, fun b u q => ?_, a.f0⟩
  · have h1 := a.ff b u q
    rw [upd_ne (ne_of_none h1 hf)]; exact h1
  · by_cases hb : b = p
    · subst hb; rw [upd_same] at q; cases q; exact h
    · rw [upd_ne hb] at q; exact a.fh b u q
  · by_cases hb : b = p
    · subst hb; exact .inr n
    · rw [upd_ne hb] at q; exact a.nw b u q
end
theorem same_upd {F : Hp} {p : Addr} {o : HO} (hf : F p = none) : Same F (upd F p o) := fun b u q => by
  rw [upd_ne (ne_of_none q hf)]; exact q
/-- a dict's entries, keys texts -/
inductive DRel (K : PySem.W.Frag) (F : Hp) : List (Key × V) → List (PyData × PyData) → Prop
  | nil : DRel K F [] []
  | cons {x : Str} {v : V} {d : PyData} {xs : List (Key × V)} {kvs : List (PyData × PyData)} (h : Rp K F v d) (t : DRel K F xs kvs) : DRel K F ((.inr x, v) :: xs) ((.str x, d) :: kvs)
theorem DRel.mono (e : Same F F') : ∀ {xs : List (Key × V)} {kvs : List (PyData × PyData)}, DRel K F xs kvs → DRel K F' xs kvs
  | _, _, .nil => .nil
  | _, _, .cons h t => .cons (h.mono e) (DRel.mono e t)
def Ow (K : PySem.W.Frag) (F H : Hp) (a : Addr) : PyData → Prop
  | .list ds => ∃ vs, H a = some (.lst vs) ∧ vs.length ≤ sizeLine ∧ RpAll K F vs ds
  | .dict kvs => ∃ xs, H a = some (.dK xs) ∧ DRel K F xs kvs
  | _ => False
/-- a tuple whose object is known to be plain -/
def PlV (F : Hp) (v : V) : Prop := ∃ a o u, v = .ref a ∧ F a = some (.frz o u) ∧ o.cls = .type "tuple" ∧ o.dict = none
theorem PlV.mono {v : V} (e : Same F F') (h : PlV F v) : PlV F' v := by
  obtain ⟨a, o, u, h1, h2, h3, h4⟩ := h
  exact ⟨a, o, u, h1, e _ _ h2, h3, h4⟩
def VOk (K : PySem.W.Frag) (fa : Nat → Option Addr) (F H : Hp) (v : V) : Vl → Prop
  | .fz d => Tp K F F v d
  | .ow d => ∃ a, v = .ref a ∧ F a = none ∧ Ow K F H a d
  | .fn f => ∃ a, fa f = some a ∧ v = .ref a
  | .ex _ => False
  | .pt ds => Tp K F F v (.tuple ds) ∧ PlV F v
  | .fd kvs => ∃ a xs, v = .ref a ∧ F a = some (.dK xs) ∧ DRel K F xs kvs
def FreshV (H : Hp) (v : V) (u : Vl) : Prop := ∀ d, u = .ow d → ∃ a, v = .ref a ∧ H a = none
theorem FreshV.fz {v : V} {d : PyData} : FreshV H v (.fz d) := fun _ h => nomatch h
theorem FreshV.pt {v : V} {ds : List PyData} : FreshV H v (.pt ds) := fun _ h => nomatch h
theorem FreshV.fn {v : V} {f : Nat} : FreshV H v (.fn f) := fun _ h => nomatch h
theorem Ow.tp {a : Addr} {d : PyData} (h : Ow K F H a d) (hd : isDict d = false) : Tp K F H (.ref a) d := by
  cases d with
  | list ds => obtain ⟨vs, e, z, r⟩ := h; exact .lst (SqL.of e) z r
  | dict _ => cases hd
  | _ => exact h.elim
theorem Ow.there {a : Addr} {d : PyData} (h : Ow K F H a d) : ∃ o, H a = some o := by
  cases d with
  | list ds => obtain ⟨vs, e, z, r⟩ := h; exact ⟨_, e⟩
  | dict kvs => obtain ⟨xs, e, r⟩ := h; exact ⟨_, e⟩
  | _ => exact h.elim
theorem Ow.dull [Tbs] {a : Addr} {d : PyData} (h : Ow K F H a d) : ∃ o, H a = some o ∧ Dull o := by
  cases d with
  | list ds => obtain ⟨vs, e, z, r⟩ := h; exact ⟨_, e, dull_lst⟩
  | dict kvs => obtain ⟨xs, e, r⟩ := h; exact ⟨_, e, dull_dK⟩
  | _ => exact h.elim
theorem Ow.mono [Tbs] {a : Addr} {d : PyData} (f : Same F F') (e : Ext H H') (h : Ow K F H a d) : Ow K F' H' a d := by
  cases d with
  | list ds => obtain ⟨vs, e1, z, r⟩ := h; exact ⟨vs, e.at_ e1, z, r.mono f⟩
  | dict kvs => obtain ⟨xs, e1, r⟩ := h; exact ⟨xs, e.at_ e1, r.mono f⟩
  | _ => exact h.elim
theorem VOk.adv [Tbs] {fa : Nat → Option Addr} {v : V} {u : Vl} (h : VOk K fa F H v u) (a : Adv F H F' H') : VOk K fa F' H' v u := by
  cases u with
  | fz d => exact Tp.monoS a.ff a.ff h
  | ow d =>
    obtain ⟨p, e, n, o⟩ := h
    refine ⟨p, e, ?_, o.mono a.ff a.hh⟩
    cases q : F' p with
    | none => rfl
    | some x =>
      rcases a.nw p x q with r | r
      · rw [n] at r; cases r
      · obtain ⟨y, hy⟩ := o.there; rw [hy] at r; cases r
  | fn f => exact h
  | ex x => exact h
  | pt ds => exact ⟨Tp.monoS a.ff a.ff h.1, h.2.mono a.ff⟩
  | fd kvs =>
    obtain ⟨p, xs, e, q, r⟩ := h
    exact ⟨p, xs, e, a.ff _ _ q, r.mono a.ff⟩
theorem Ow.still {fa : Nat → Option Addr} {a : Addr} {d : PyData} (h : Ow K F H a d) (hf : F a = none) : ∃ o, H a = some o ∧ (∀ ps, o ≠ .tbl ps) ∧ VOk K fa (upd F a o) H (.ref a) (frzV d) := by
  cases d with
  | list ds => obtain ⟨vs, e, z, r⟩ := h; exact ⟨_, e, (fun ps z => by cases z), .lst (SqL.of upd_same) z (r.mono (same_upd hf))⟩
  | dict kvs => obtain ⟨xs, e, r⟩ := h; exact ⟨_, e, (fun ps z => by cases z), a, xs, rfl, upd_same, r.mono (same_upd hf)⟩
  | _ => exact h.elim
/-- what may be looked at -/
theorem VOk.tp {fa : Nat → Option Addr} {v : V} {u : Vl} {d : PyData} (h : VOk K fa F H v u) (e : Same F H) (q : dat u = .ok d) : Tp K F H v d := by
  cases u with
  | fz x => cases q; exact Tp.monoS (Same.refl F) e h
  | ow x =>
    obtain ⟨a, rfl, _, o⟩ := h
    have q : plain x = .ok d := q
    unfold plain at q
    split at q
    · cases q
    · rename_i hx
      cases q
      exact o.tp (by simpa using hx)
  | fn f => cases q
  | ex x => cases q
  | pt ds => cases q; exact Tp.monoS (Same.refl F) e h.1
  | fd kvs => cases q
end
end Wv
/-! The operators, built-ins and subscripts of the plain reading are the model's. -/
namespace Wv
open PySem PySem.Spec PyProof.Rows L2
open LamX (Tabs TabS ExtN CodeO TabB)
variable [Tbs]
def PostR {α : Type} (r : R α) (k : α → Prop) (e : Nat → Prop) : Prop := match r with
  | .ok a => k a
  | .err x => e x
  | .bad => False
theorem PostR.mono {α : Type} {r : R α} {k k' : α → Prop} {e e' : Nat → Prop} (h : PostR r k e) (hk : ∀ a, r = .ok a → k a → k' a) (he : ∀ x, r = .err x → e x → e' x) : PostR r k' e' := by
  cases r with
  | ok a => exact hk a rfl h
  | err x => exact he x rfl h
  | bad => exact h
theorem postR_bind {α β : Type} {r : R α} {f : α → R β} {k : β → Prop} {e : Nat → Prop} : PostR (r.bind f) k e ↔ PostR r (fun a => PostR (f a) k e) e := by
  cases r <;> exact Iff.rfl
theorem postR_map1 {α β : Type} {r : R α} {f : α → β} {k : β → Prop} {e : Nat → Prop} : PostR (map1 r f) k e ↔ PostR r (fun a => k (f a)) e := by
  cases r <;> exact Iff.rfl
/-- nothing raised -/
theorem PostR.get {α : Type} {r : R α} {k : α → Prop} (h : PostR r k fun _ => False) : ∃ a, r = .ok a ∧ k a := by
  cases r with
  | ok a => exact ⟨a, rfl, h⟩
  | err x => exact h.elim
  | bad => exact h.elim
section
variable {X : Cx} {fa : Nat → Option Addr}
/-- what is wanted of a value that an operation makes -/
def Want (K : PySem.W.Frag) (fa : Nat → Option Addr) (F H : Hp) (Q : VK) (u : Vl) : Prop :=
  ∀ v F' H', Adv F H F' H' → VOk K fa F' H' v u → FreshV H v u → Q v H'
theorem Want.int {K : PySem.W.Frag} {F H : Hp} {Q : VK} {i : Int} (e : Fit F H) (h : Want K fa F H Q (.fz (.int i))) : Q (.int i) H := h _ F H (.refl e) (.int i) .fz
theorem Want.bl {K : PySem.W.Frag} {F H : Hp} {Q : VK} {i : Bool} (e : Fit F H) (h : Want K fa F H Q (.fz (.bool i))) : Q (.bl i) H := h _ F H (.refl e) (.bl i) .fz
theorem Want.str {K : PySem.W.Frag} {F H : Hp} {Q : VK} {i : Str} (e : Fit F H) (z : i.length ≤ sizeLine) (o : PyData.strOk i = true) (h : Want K fa F H Q (.fz (.str i))) : Q (.str i) H := h _ F H (.refl e) (.str i z o) .fz
theorem Want.lst {K : PySem.W.Frag} {F H : Hp} {Q : VK} {ds : List PyData} {vs : List V} (e : Fit F H) (h : Want K fa F H Q (.ow (.list ds))) (r : RpAll K F vs ds) (z : vs.length ≤ sizeLine) : ∀ p, H p = none → Q (.ref p) (upd H p (.lst vs)) := fun p n => by
  refine h _ F _ (.own e n) ⟨p, rfl, ?_, vs, upd_same, z, r⟩ fun d _ => ⟨p, rfl, n⟩
  cases q : F p with
  | none => rfl
  | some u => have := e p u q; rw [n] at this; cases this
theorem Want.tup {K : PySem.W.Frag} {F H : Hp} {Q : VK} {ds : List PyData} {vs : List V} (e : Fit F H) (h : Want K fa F H Q (.fz (.tuple ds))) (r : RpAll K F vs ds) (z : vs.length ≤ sizeLine) : ∀ p, H p = none → Q (.ref p) (upd H p (.tup vs)) := fun p n =>
  h _ _ _ (.lay e n) (.tup (SqT.of upd_same) z (r.mono (Adv.lay e n).ff)) .fz
theorem lim_line : lim ≤ sizeLine := by rw [sizeLine_eq]; decide
/-- two values, looked at -/
def rD (K : PySem.W.Frag) (fa : Nat → Option Addr) (f : PyData → PyData → R Vl) : R2 := fun x y H Q => ∃ F d e, Fit F H ∧ Tp K F H x d ∧ Tp K F H y e ∧ PostR (f d e) (Want K fa F H Q) fun _ => False
theorem strOk_append {a b : Str} (ha : PyData.strOk a = true) (hb : PyData.strOk b = true) : PyData.strOk (a ++ b) = true := by
  unfold PyData.strOk at *
  show (a.cps ++ b.cps).all _ = true
  rw [Array.all_append, ha, hb]; rfl
theorem reads_of {pins : List (Addr × Obj)} {σ : L2.St} {H : Hp} {s : Shared} (I : Inv X pins σ H s) {F : Hp} (e : Fit F H) {x : V} {v : Value} {d : PyData} (t : Tp X.K F H x d) (r : RelV x v) : ∃ as, Reads s.heap v d as :=
  Dp.reads I d x v (t.all e).dp r
/-- l + m of two lists, wherever they stand -/
theorem op_catL : OpR X (binaryOp .Add) (fun x y H Q => ∃ l b xs zs, x = .ref l ∧ y = .ref b ∧ SqL X.K H l xs ∧ SqL X.K H b zs ∧ xs.length + zs.length ≤ sizeLine ∧ ∀ p, H p = none → Q (.ref p) (upd H p (.lst (xs ++ zs)))) := by
  intro pins s σ H x y v u Q I rx ry h
  obtain ⟨l, b, xs, zs, rfl, rfl, hH, hB, hz, q⟩ := h
  cases rx
  cases ry
  obtain ⟨its, r, pl, hl⟩ := I.list hH
  obtain ⟨its2, r2, pl2, hl2⟩ := I.list hB
  obtain ⟨⟨cls, dd, data, sl⟩, n, ho, hc, hdn, hd⟩ := pl
  obtain ⟨⟨cls2, dd2, data2, sl2⟩, n2, ho2, hc2, hdn2, hd2⟩ := pl2
  simp only at hc hd hc2 hd2
  subst hc hd hc2 hd2
  have e : its.toArray ++ its2.toArray = (its ++ its2).toArray := by simp
  have e1 := r.length
  have e2 := r2.length
  refine concat_meets ⟨_, ho, rfl⟩ ⟨_, ho2, rfl⟩ noFill_list_add seq_list_add PySem.F.slot_list_add PySem.F.entry_list_add (PySem.F.args_list_add_2 _ _) (list_addW l b its.toArray its2.toArray n n2 dd dd2 sl sl2 (by simp; omega)) ⟨ho, ho2, ?_⟩
  rw [e]
  exact ⟨.ref _, _, I.lnew (t' := s.toks) (r.append r2) (by rw [List.length_append]; omega), rfl, q _ I.fresh⟩
theorem o_add : OpR X (binaryOp .Add) (rD X.K fa addD) := by
  intro pins s σ H x y v u Q I rx ry h
  obtain ⟨F, d, e, sm, td, te, q⟩ := h
  obtain ⟨w, hw, q⟩ := q.get
  cases td with
  | int i =>
    cases te with
    | int j => simp only [addD, kI] at hw; cases hw; exact op_add pins s σ H _ _ v u Q I rx ry ⟨i, j, rfl, rfl, q.int sm⟩
    | _ => cases hw
  | str a z o =>
    cases te with
    | str b z2 o2 =>
      simp only [addD] at hw
      split at hw
      · rename_i hl
        cases hw
        have hz : a.length + b.length ≤ sizeLine := Nat.le_trans hl lim_line
        refine op_add_str pins s σ H _ _ v u Q I rx ry ⟨a, b, rfl, rfl, hz, q.str sm ?_ (strOk_append o o2)⟩
        show (a.cps ++ b.cps).size ≤ _
        rw [Array.size_append]; exact hz
      · cases hw
    | _ => cases hw
  | lst h1 z1 r1 =>
    cases te with
    | lst h2 z2 r2 =>
      simp only [addD] at hw
      split at hw
      · rename_i hl
        cases hw
        have hz : _ + _ ≤ sizeLine := Nat.le_trans hl lim_line
        rw [← r1.length, ← r2.length] at hz
        exact op_catL pins s σ H _ _ v u Q I rx ry ⟨_, _, _, _, rfl, rfl, h1, h2, hz, q.lst sm (r1.append r2) (by rw [List.length_append]; exact hz)⟩
      · cases hw
    | _ => cases hw
  | tup h1 z1 r1 =>
    cases te with
    | tup h2 z2 r2 =>
      simp only [addD] at hw
      split at hw
      · rename_i hl
        cases hw
        have hz : _ + _ ≤ sizeLine := Nat.le_trans hl lim_line
        rw [← r1.length, ← r2.length] at hz
        refine op_catA pins s σ H _ _ v u Q I rx ry ⟨_, _, _, _, rfl, rfl, Same.sqt sm h1, Same.sqt sm h2, hz, fun e1 => ?_, fun e1 e2 => ?_, fun e1 e2 => q.tup sm (r1.append r2) (by rw [List.length_append]; exact hz)⟩
        · subst e1; cases r1; exact q _ F H (.refl sm) (.tup h2 z2 r2) .fz
        · subst e2; cases r2; rw [List.append_nil] at q; exact q _ F H (.refl sm) (.tup h1 z1 r1) .fz
      · cases hw
    | _ => cases hw
  | _ => cases te <;> cases hw
end
end Wv
namespace Wv
open PySem PySem.Spec PyProof.Rows L2
open LamX (Tabs TabS ExtN CodeO TabB)
variable [Tbs]
section
variable {X : Cx} {fa : Nat → Option Addr}
theorem o_sub : OpR X (binaryOp .Sub) (rD X.K fa subD) := by
  intro pins s σ H x y v u Q I rx ry h
  obtain ⟨F, d, e, sm, td, te, q⟩ := h
  obtain ⟨w, hw, q⟩ := q.get
  cases td with
  | int i =>
    cases te with
    | int j => simp only [subD, kI] at hw; cases hw; exact op_sub pins s σ H _ _ v u Q I rx ry ⟨i, j, rfl, rfl, q.int sm⟩
    | _ => cases hw
  | _ => cases te <;> cases hw
theorem smallI_ok {i : Int} (h : smallI i = true) : -(2 ^ 64) < i ∧ i < 2 ^ 64 := by
  have := inN_iff.mp h
  omega
theorem vals_rep {xs : List V} {us : List Value} (r : Vals xs us) : ∀ k, Vals (List.replicate k xs).flatten (List.replicate k us).flatten
  | 0 => .nil
  | k + 1 => by rw [List.replicate_succ, List.replicate_succ, List.flatten_cons, List.flatten_cons]; exact r.append (vals_rep r k)
theorem rp_rep {K : PySem.W.Frag} {F : Hp} {xs : List V} {us : List PyData} (r : RpAll K F xs us) : ∀ k, RpAll K F (List.replicate k xs).flatten (List.replicate k us).flatten
  | 0 => .nil
  | k + 1 => by rw [List.replicate_succ, List.replicate_succ, List.flatten_cons, List.flatten_cons]; exact r.append (rp_rep r k)
theorem rep_len {α : Type} (xs : List α) : ∀ k, ((List.replicate k xs).flatten).length = xs.length * k
  | 0 => by simp
  | k + 1 => by rw [List.replicate_succ, List.flatten_cons, List.length_append, rep_len xs k, Nat.mul_succ]; omega
theorem o_mul : OpR X (binaryOp .Mult) (rD X.K fa mulD) := by
  intro pins s σ H x y v u Q I rx ry h
  obtain ⟨F, d, e, sm, td, te, q⟩ := h
  obtain ⟨w, hw, q⟩ := q.get
  cases td with
  | int i =>
    cases te with
    | int j =>
      simp only [mulD, kI] at hw
      split at hw
      · rename_i hs
        cases hw
        rw [Bool.or_eq_true] at hs
        exact op_mul pins s σ H _ _ v u Q I rx ry ⟨i, j, rfl, rfl, hs.imp smallI_ok smallI_ok, q.int sm⟩
      · cases hw
    | _ => cases hw
  | _ => cases te <;> cases hw
theorem o_fdiv : OpR X (binaryOp .FloorDiv) (rD X.K fa fdivD) := by
  intro pins s σ H x y v u Q I rx ry h
  obtain ⟨F, d, e, sm, td, te, q⟩ := h
  obtain ⟨w, hw, q⟩ := q.get
  cases td with
  | int i =>
    cases te with
    | int j =>
      simp only [fdivD, kI] at hw
      split at hw
      · rename_i hs
        cases hw
        rw [Bool.and_eq_true, decide_eq_true_eq, leN_iff] at hs
        exact op_fdiv pins s σ H _ _ v u Q I rx ry ⟨i, j, rfl, rfl, ⟨hs.1, by omega⟩, q.int sm⟩
      · cases hw
    | _ => cases hw
  | _ => cases te <;> cases hw
theorem o_mod : OpR X (binaryOp .Mod) (rD X.K fa modD) := by
  intro pins s σ H x y v u Q I rx ry h
  obtain ⟨F, d, e, sm, td, te, q⟩ := h
  obtain ⟨w, hw, q⟩ := q.get
  cases td with
  | int i =>
    cases te with
    | int j =>
      simp only [modD, kI] at hw
      split at hw
      · rename_i hs
        cases hw
        exact op_mod pins s σ H _ _ v u Q I rx ry ⟨i, j, rfl, rfl, hs, q.int sm⟩
      · cases hw
    | _ => cases hw
  | _ => cases te <;> cases hw
theorem o_pow : OpR X (binaryOp .Pow) (rD X.K fa powD) := by
  intro pins s σ H x y v u Q I rx ry h
  obtain ⟨F, d, e, sm, td, te, q⟩ := h
  obtain ⟨w, hw, q⟩ := q.get
  cases td with
  | int i =>
    cases te with
    | int j =>
      simp only [powD, kI] at hw
      split at hw
      · rename_i hs
        cases hw
        rw [Bool.and_eq_true, Bool.and_eq_true, decide_eq_true_eq, leN_iff] at hs
        have h2 := smallI_ok hs.2
        exact op_pow pins s σ H _ _ v u Q I rx ry ⟨i, j, rfl, rfl, ⟨hs.1.1, by omega, by omega⟩, q.int sm⟩
      · cases hw
    | _ => cases hw
  | _ => cases te <;> cases hw
theorem o_le : OpR X (compareOp .LtE) (rD X.K fa leD) := by
  intro pins s σ H x y v u Q I rx ry h
  obtain ⟨F, d, e, sm, td, te, q⟩ := h
  obtain ⟨w, hw, q⟩ := q.get
  cases td with
  | int i =>
    cases te with
    | int j => simp only [leD, kB] at hw; cases hw; exact op_le pins s σ H _ _ v u Q I rx ry ⟨i, j, rfl, rfl, q.bl sm⟩
    | _ => cases hw
  | _ => cases te <;> cases hw
theorem o_gt : OpR X (compareOp .Gt) (rD X.K fa gtD) := by
  intro pins s σ H x y v u Q I rx ry h
  obtain ⟨F, d, e, sm, td, te, q⟩ := h
  obtain ⟨w, hw, q⟩ := q.get
  cases td with
  | int i =>
    cases te with
    | int j => simp only [gtD, kB] at hw; cases hw; exact op_gt pins s σ H _ _ v u Q I rx ry ⟨i, j, rfl, rfl, q.bl sm⟩
    | _ => cases hw
  | _ => cases te <;> cases hw
theorem o_ge : OpR X (compareOp .GtE) (rD X.K fa geD) := by
  intro pins s σ H x y v u Q I rx ry h
  obtain ⟨F, d, e, sm, td, te, q⟩ := h
  obtain ⟨w, hw, q⟩ := q.get
  cases td with
  | int i =>
    cases te with
    | int j => simp only [geD, kB] at hw; cases hw; exact op_ge pins s σ H _ _ v u Q I rx ry ⟨i, j, rfl, rfl, q.bl sm⟩
    | _ => cases hw
  | _ => cases te <;> cases hw
theorem map1_ok {α β : Type} {r : R α} {f : α → β} {b : β} (h : map1 r f = .ok b) : ∃ a, r = .ok a ∧ f a = b := by
  cases r with
  | ok a => cases h; exact ⟨a, rfl, rfl⟩
  | err x => cases h
  | bad => cases h
variable (hu : X.A.units + 200 < cLine)
include hu
theorem o_eq : OpR X (compareOp .Eq) (rD X.K fa fun d e => map1 (eqD d e) fun b => .fz (.bool b)) := by
  intro pins s σ H x y v u Q I rx ry h
  obtain ⟨F, d, e, sm, td, te, q⟩ := h
  obtain ⟨w, hw, q⟩ := q.get
  obtain ⟨b, hb, rfl⟩ := map1_ok hw
  unfold eqD at hb
  split at hb
  · rename_i hs
    cases hb
    unfold eqOk at hs
    simp only [Bool.and_eq_true, decide_eq_true_eq] at hs
    obtain ⟨as, r1⟩ := reads_of I sm td rx
    obtain ⟨bs, r2⟩ := reads_of I sm te ry
    exact SeqAt.compareEq_reads r1 r2 (td.all sm).lay (te.all sm).lay (by omega) ⟨.bl _, H, I, rfl, q.bl sm⟩
  · cases hb
theorem o_ne : OpR X (compareOp .NotEq) (rD X.K fa fun d e => map1 (eqD d e) fun b => .fz (.bool (!b))) := by
  intro pins s σ H x y v u Q I rx ry h
  obtain ⟨F, d, e, sm, td, te, q⟩ := h
  obtain ⟨w, hw, q⟩ := q.get
  obtain ⟨b, hb, rfl⟩ := map1_ok hw
  unfold eqD at hb
  split at hb
  · rename_i hs
    cases hb
    unfold eqOk at hs
    simp only [Bool.and_eq_true, decide_eq_true_eq] at hs
    obtain ⟨as, r1⟩ := reads_of I sm td rx
    obtain ⟨bs, r2⟩ := reads_of I sm te ry
    exact SeqAt.compareNe_reads r1 r2 (td.all sm).lay (te.all sm).lay (by omega) ⟨.bl _, H, I, rfl, q.bl sm⟩
  · cases hb
theorem o_lt : OpR X (compareOp .Lt) (rD X.K fa fun d e => map1 (ltD d e) fun b => .fz (.bool b)) := by
  intro pins s σ H x y v u Q I rx ry h
  obtain ⟨F, d, e, sm, td, te, q⟩ := h
  obtain ⟨w, hw, q⟩ := q.get
  obtain ⟨b, hb, rfl⟩ := map1_ok hw
  cases d with
  | int i =>
    cases e with
    | int j =>
      cases td; cases te
      cases hb
      exact op_lt pins s σ H _ _ v u Q I rx ry ⟨i, j, rfl, rfl, q.bl sm⟩
    | _ => cases hb
  | tuple xs =>
    cases e with
    | tuple ys =>
      simp only [ltD] at hb
      split at hb
      · rename_i hs
        cases hb
        unfold ltOk at hs
        simp only [Bool.and_eq_true, decide_eq_true_eq] at hs
        obtain ⟨as, r1⟩ := reads_of I sm td rx
        obtain ⟨bs, r2⟩ := reads_of I sm te ry
        cases td; cases te; cases rx; cases ry
        exact PySem.W.rcLt_alike _ _ X.A s _ _ as bs r1 r2 hs.1 (fun h => nomatch h) (by omega) _ _ _ _ ⟨.bl _, H, I, rfl, q.bl sm⟩
      · cases hb
    | _ => cases hb
  | _ => cases e <;> cases hb
theorem o_in : OpR X (compareOp .In) (rD X.K fa fun d e => map1 (isinD d e) fun b => .fz (.bool b)) := by
  intro pins s σ H x y v u Q I rx ry h
  obtain ⟨F, d, e, sm, td, te, q⟩ := h
  obtain ⟨w, hw, q⟩ := q.get
  obtain ⟨b, hb, rfl⟩ := map1_ok hw
  obtain ⟨as, r1⟩ := reads_of I sm td rx
  obtain ⟨bs, r2⟩ := reads_of I sm te ry
  cases e with
  | list ds =>
    simp only [isinD, inD] at hb
    split at hb
    · rename_i hs
      cases hb
      unfold inOk at hs
      simp only [Bool.and_eq_true, decide_eq_true_eq] at hs
      exact SeqAt.in_list_reads r2 r1 (by simpa only [PyData.canLay0] using (te.all sm).lay) (td.all sm).lay (by omega) ⟨.bl _, H, I, rfl, q.bl sm⟩
    · cases hb
  | tuple ds =>
    simp only [isinD, inD] at hb
    split at hb
    · rename_i hs
      cases hb
      unfold inOk at hs
      simp only [Bool.and_eq_true, decide_eq_true_eq] at hs
      exact SeqAt.in_tuple_reads r2 r1 (by simpa only [PyData.canLay0] using (te.all sm).lay) (td.all sm).lay (by omega) ⟨.bl _, H, I, rfl, q.bl sm⟩
    · cases hb
  | str b =>
    cases d with
    | str a =>
      cases td; cases te
      simp only [isinD] at hb
      cases hb
      exact op_in_str pins s σ H _ _ v u Q I rx ry ⟨a, b, rfl, rfl, q.bl sm⟩
    | _ => cases hb
  | _ => cases d <;> cases hb
theorem o_notin : OpR X (compareOp .NotIn) (rD X.K fa fun d e => map1 (isinD d e) fun b => .fz (.bool (!b))) := by
  intro pins s σ H x y v u Q I rx ry h
  obtain ⟨F, d, e, sm, td, te, q⟩ := h
  obtain ⟨w, hw, q⟩ := q.get
  obtain ⟨b, hb, rfl⟩ := map1_ok hw
  obtain ⟨as, r1⟩ := reads_of I sm td rx
  obtain ⟨bs, r2⟩ := reads_of I sm te ry
  cases e with
  | list ds =>
    simp only [isinD, inD] at hb
    split at hb
    · rename_i hs
      cases hb
      unfold inOk at hs
      simp only [Bool.and_eq_true, decide_eq_true_eq] at hs
      exact SeqAt.notIn_list_reads r2 r1 (by simpa only [PyData.canLay0] using (te.all sm).lay) (td.all sm).lay (by omega) ⟨.bl _, H, I, rfl, q.bl sm⟩
    · cases hb
  | tuple ds =>
    simp only [isinD, inD] at hb
    split at hb
    · rename_i hs
      cases hb
      unfold inOk at hs
      simp only [Bool.and_eq_true, decide_eq_true_eq] at hs
      exact SeqAt.notIn_tuple_reads r2 r1 (by simpa only [PyData.canLay0] using (te.all sm).lay) (td.all sm).lay (by omega) ⟨.bl _, H, I, rfl, q.bl sm⟩
    · cases hb
  | str b =>
    cases d with
    | str a =>
      cases td; cases te
      simp only [isinD] at hb
      cases hb
      exact L2.op_notin_str pins s σ H _ _ v u Q I rx ry ⟨a, b, rfl, rfl, q.bl sm⟩
    | _ => cases hb
  | _ => cases d <;> cases hb
omit hu
theorem tp_non {K : PySem.W.Frag} {F H : Hp} {x : V} {d : PyData} (t : Tp K F H x d) : decide (x = .non) = isNon d := by cases t <;> rfl
theorem o_is : OpR X (compareOp .Is) (rD X.K fa fun d e => op2D .is_ d e) := by
  intro pins s σ H x y v u Q I rx ry h
  obtain ⟨F, d, e, sm, td, te, q⟩ := h
  obtain ⟨w, hw, q⟩ := q.get
  cases te with
  | non => simp only [op2D, kB] at hw; cases hw; exact op_isN pins s σ H _ _ v u Q I rx ry ⟨rfl, by rw [tp_non td]; exact q.bl sm⟩
  | _ => cases hw
theorem o_isnot : OpR X (compareOp .IsNot) (rD X.K fa fun d e => op2D .isnot d e) := by
  intro pins s σ H x y v u Q I rx ry h
  obtain ⟨F, d, e, sm, td, te, q⟩ := h
  obtain ⟨w, hw, q⟩ := q.get
  cases te with
  | non => simp only [op2D, kB] at hw; cases hw; exact op_notN pins s σ H _ _ v u Q I rx ry ⟨rfl, by rw [tp_non td]; exact q.bl sm⟩
  | _ => cases hw
end
end Wv
namespace Wv
open PySem PySem.Spec PyProof.Rows L2
open LamX (Tabs TabS ExtN CodeO TabB)
variable [Tbs]
section
variable {X : Cx} {fa : Nat → Option Addr}
theorem tp_truth {K : PySem.W.Frag} {F H : Hp} {x : V} {d : PyData} {b : Bool} (sm : Fit F H) (t : Tp K F H x d) (h : truthD d = .ok b) : TruV K x H b := by
  cases t with
  | non => cases h; rfl
  | bl c => cases h; rfl
  | int i => cases h; rfl
  | str x z o => cases h
  | lst h1 z r =>
    cases h
    refine .inl ⟨_, h1, ?_⟩
    cases r <;> rfl
  | tup h1 z r =>
    cases h
    refine .inr (.inl ⟨_, Same.sqt sm h1, ?_⟩)
    cases r <;> rfl
inductive TpAll (K : PySem.W.Frag) (F H : Hp) : List V → List PyData → Prop
  | nil : TpAll K F H [] []
  | cons {v : V} {vs : List V} {d : PyData} {ds : List PyData} (h : Tp K F H v d) (t : TpAll K F H vs ds) : TpAll K F H (v :: vs) (d :: ds)
theorem TpAll.mono {K : PySem.W.Frag} {F F' H H' : Hp} (f : Same F F') (e : Ext H H') : ∀ {ds : List PyData} {vs : List V}, TpAll K F H vs ds → TpAll K F' H' vs ds
  | _, _, .nil => .nil
  | _, _, .cons h t => .cons (h.mono f e) (TpAll.mono f e t)
def rU1 (K : PySem.W.Frag) (fa : Nat → Option Addr) (f : PyData → R Vl) : V → Hp → VK → Prop := fun x H Q => ∃ F d, Fit F H ∧ Tp K F H x d ∧ PostR (f d) (Want K fa F H Q) fun _ => False
theorem o_neg : UnR X (unaryOp .USub) (rU1 X.K fa negD) := by
  intro pins s σ H x v Q I rx h
  obtain ⟨F, d, sm, td, q⟩ := h
  obtain ⟨w, hw, q⟩ := q.get
  cases td with
  | int i => simp only [negD, kI] at hw; cases hw; exact un_neg pins s σ H _ v Q I rx ⟨i, rfl, q.int sm⟩
  | _ => cases hw
/-! ### subscripts -/
theorem atI_map {K : PySem.W.Frag} {F : Hp} {vs : List V} {ds : List PyData} (r : RpAll K F vs ds) {i : Int} {d : PyData} (h : atI ds i = some d) : ∃ v, atI vs i = some v ∧ Rp K F v d := by
  unfold atI at h ⊢
  rw [← r.length] at h
  cases e : ixN vs.length i with
  | none => rw [e] at h; cases h
  | some j => rw [e] at h; exact r.get h
theorem strOk_one {z : Str} {c : Nat} {i : Int} (o : PyData.strOk z = true) (h : atI z.cps.toList i = some c) : PyData.strOk ⟨#[c]⟩ = true := by
  unfold atI at h
  cases e : ixN z.cps.toList.length i with
  | none => rw [e] at h; cases h
  | some j =>
    rw [e] at h
    have hm : c ∈ z.cps.toList := List.mem_of_getElem? h
    unfold PyData.strOk at o ⊢
    rw [Array.all_eq_true_iff_forall_mem] at o
    have := o c (by simpa using hm)
    simpa using this
theorem o_ix : IxR X (rD X.K fa ixD) := by
  intro value slice pins s σ H x y v u Q I rx ry h hs
  obtain ⟨F, d, e, sm, td, te, q⟩ := h
  obtain ⟨w, hw, q⟩ := q.get
  cases td with
  | lst h1 z r =>
    cases te with
    | int i =>
      simp only [ixD] at hw
      split at hw
      · rename_i d' hd'
        cases hw
        obtain ⟨v', e1, r1⟩ := atI_map r hd'
        exact ix_list value slice pins s σ H _ _ v u Q I rx ry ⟨_, _, i, v', rfl, rfl, h1, e1, q v' F H (.refl sm) r1.tp .fz⟩ hs
      · cases hw
    | _ => cases hw
  | tup h1 z r =>
    cases te with
    | int i =>
      simp only [ixD] at hw
      split at hw
      · rename_i d' hd'
        cases hw
        obtain ⟨v', e1, r1⟩ := atI_map r hd'
        exact ix_tup value slice pins s σ H _ _ v u Q I rx ry ⟨_, _, i, v', rfl, rfl, Same.sqt sm h1, e1, q v' F H (.refl sm) r1.tp .fz⟩ hs
      · cases hw
    | _ => cases hw
  | str z hz o =>
    cases te with
    | int i =>
      simp only [ixD] at hw
      split at hw
      · rename_i c hc
        cases hw
        exact ix_str value slice pins s σ H _ _ v u Q I rx ry ⟨z, i, c, rfl, rfl, hz, hc, q.str sm (by show 1 ≤ sizeLine; rw [sizeLine_eq]; decide) (strOk_one o hc)⟩ hs
      · cases hw
    | _ => cases hw
  | _ => cases te <;> cases hw
theorem rp_cut {K : PySem.W.Frag} {F : Hp} {vs : List V} {ds : List PyData} (r : RpAll K F vs ds) (lo hi : Option Int) : RpAll K F (cutV vs lo hi) (cut ds lo hi) := by
  unfold cutV cut
  rw [r.length]
  exact (r.drop _).take _
theorem mem_cut {α : Type} {xs : List α} {lo hi : Option Int} {a : α} (h : a ∈ cut xs lo hi) : a ∈ xs := List.mem_of_mem_drop (List.mem_of_mem_take h)
theorem strOk_cut {z : Str} (o : PyData.strOk z = true) (lo hi : Option Int) : PyData.strOk ⟨(cut z.cps.toList lo hi).toArray⟩ = true := by
  unfold PyData.strOk at o ⊢
  rw [Array.all_eq_true_iff_forall_mem] at o ⊢
  intro c hc
  exact o c (Array.mem_toList_iff.mp (mem_cut (List.mem_toArray.mp hc)))
theorem cut_len {α : Type} (xs : List α) (lo hi : Option Int) : (cut xs lo hi).length ≤ xs.length := by
  unfold cut
  rw [List.length_take, List.length_drop]
  omega
def rSl3 (K : PySem.W.Frag) (fa : Nat → Option Addr) : V → Option Int → Option Int → Hp → VK → Prop := fun x lo hi H Q => ∃ F d, Fit F H ∧ Tp K F H x d ∧ PostR (slD d lo hi) (Want K fa F H Q) fun _ => False
theorem o_sl : SlR X (rSl3 X.K fa) := by
  intro pins s σ H x v vl vu lo hi sl Q I rx hsl pl pu h
  obtain ⟨F, d, sm, td, q⟩ := h
  obtain ⟨w, hw, q⟩ := q.get
  cases td with
  | lst h1 z r =>
    cases hw
    exact sl_list pins s σ H _ v vl vu lo hi sl Q I rx hsl pl pu ⟨_, _, rfl, h1, q.lst sm (rp_cut r lo hi) (Nat.le_trans (cutV_length _ _ _) z)⟩
  | tup h1 z r =>
    cases hw
    refine sl_tupA pins s σ H _ v vl vu lo hi sl Q I rx hsl pl pu ⟨_, _, rfl, Same.sqt sm h1, fun e => ?_, fun _ => q.tup sm (rp_cut r lo hi) (Nat.le_trans (cutV_length _ _ _) z)⟩
    refine q _ F H (.refl sm) (.tup h1 z ?_) .fz
    have := rp_cut r lo hi
    unfold cutV at this
    rw [e.1, e.2, List.drop_zero, Nat.sub_zero, List.take_length] at this
    exact this
  | str x hz o =>
    cases hw
    have e : cutS x lo hi = ⟨(cut x.cps.toList lo hi).toArray⟩ := by
      unfold cutS cut
      rw [Array.length_toList]
      rfl
    refine sl_str pins s σ H _ v vl vu lo hi sl Q I rx hsl pl pu ⟨_, rfl, hz, ?_⟩
    rw [e]
    refine q.str sm ?_ (strOk_cut o lo hi)
    show (cut x.cps.toList lo hi).toArray.size ≤ _
    rw [List.size_toArray]
    exact Nat.le_trans (cut_len _ _ _) (by rw [Array.length_toList]; exact hz)
  | _ => cases hw
/-! ### isinstance -/
def tyN : PyData → String
  | .none => "NoneType"
  | .bool _ => "bool"
  | .int _ => "int"
  | .str _ => "str"
  | .list _ => "list"
  | .tuple _ => "tuple"
  | .dict _ => "dict"
def tyS : Ty → String
  | .int => "int"
  | .bool => "bool"
  | .str => "str"
  | .tuple => "tuple"
  | .list => "list"
theorem kit_all (t : Ty) (d : PyData) (h : isDict d = false) : kitB (tyN d) (tyS t) = some (tyB t d) := by
  cases d with
  | dict _ => cases h
  | _ => cases t <;> (simp only [tyN, tyS, tyB]; decide +kernel)
theorem tyX_of {K : PySem.W.Frag} {F H : Hp} {x : V} {d : PyData} (sm : Fit F H) (t : Tp K F H x d) : TyX K H x (.type (tyN d)) := by
  cases t with
  | non => exact .base .non
  | bl b => exact .base (.bl b)
  | int i => exact .base (.int i)
  | str x h o => exact .base (.str x)
  | lst h z r =>
    rcases h with (h | ⟨o, h⟩) | ⟨o, its, n, h, hc, _⟩
    · exact .base (.lst h)
    · exact .base (.frz h)
    · exact .kList h hc
  | tup h z r =>
    rcases Same.sqt sm.sm h with (h | ⟨o, h⟩) | ⟨o, its, n, h, hc, _⟩
    · exact .base (.tup h)
    · exact .fTuple h
    · exact .kTuple h hc
theorem kitAny_ty {K : PySem.W.Frag} (d : PyData) (h : isDict d = false) : ∀ ts : List Ty, PySem.W.kitAny K (.type (tyN d)) (ts.map fun t => Value.type (tyS t)) = some (ts.any fun t => tyB t d)
  | [] => kitAny_nil
  | t :: ts => by
    rw [List.map_cons]
    have h1 := kit_ty (K := K) (kit_all t d h)
    cases e : tyB t d with
    | true =>
      rw [e] at h1
      exact kitAny_cons h1 (fun z => nomatch z) fun _ => by rw [List.any_cons, e]; rfl
    | false =>
      rw [e] at h1
      refine kitAny_cons h1 (fun _ => ?_) fun z => nomatch z
      rw [List.any_cons, e, Bool.false_or]
      exact kitAny_ty d h ts
theorem paired_cls : ∀ ts : List Ty, Paired ClsV (ts.map fun t => V.ty (tyS t)) (ts.map fun t => Value.type (tyS t))
  | [] => .nil
  | t :: ts => .cons (.ty _) (paired_cls ts)
/-- one class, or a new tuple of classes -/
def rIsiD (K : PySem.W.Frag) (fa : Nat → Option Addr) (ts : List Ty) : List V → Hp → VK → Prop := fun vs H Q => ∃ F d x, Fit F H ∧ Tp K F H x d ∧ PostR (isiD ts d) (Want K fa F H Q) (fun _ => False) ∧
  ((∃ t, ts = [t] ∧ vs = [x, .ty (tyS t)]) ∨ ∃ p, vs = [x, .ref p] ∧ H p = some (.tup (ts.map fun t => V.ty (tyS t))))
theorem c_isi (ts : List Ty) : CallR X (.builtin "isinstance") (rIsiD X.K fa ts) := by
  intro pins s σ H vs us Q I r h
  obtain ⟨F, d, x, sm, td, q, h⟩ := h
  obtain ⟨w, hw, q⟩ := q.get
  unfold isiD at hw
  rw [td.nodict] at hw
  simp only [Bool.false_eq_true, if_false, kB] at hw
  cases hw
  rcases h with ⟨t, rfl, rfl⟩ | ⟨p, rfl, hp⟩
  · refine call_isi pins s σ H _ us Q I r ⟨x, _, _, _, tyB t d, rfl, .ty _, tyX_of sm td, kit_ty (kit_all t d td.nodict), ?_⟩
    have := q.bl sm
    simpa using this
  · exact call_isiT pins s σ H _ us Q I r ⟨x, p, _, _, _, _, rfl, hp, paired_cls ts, tyX_of sm td, kitAny_ty d td.nodict ts, q.bl sm⟩
/-! ### built-ins -/
def rBi (K : PySem.W.Frag) (fa : Nat → Option Addr) (f : Bi) : List V → Hp → VK → Prop := fun vs H Q => ∃ F ds, Fit F H ∧ TpAll K F H vs ds ∧ PostR (biD f ds) (Want K fa F H Q) fun _ => False
theorem tp1 {K : PySem.W.Frag} {F H : Hp} {vs : List V} {d : PyData} (t : TpAll K F H vs [d]) : ∃ v, vs = [v] ∧ Tp K F H v d := by
  cases t with
  | cons h t => cases t; exact ⟨_, rfl, h⟩
theorem bi_one {f : Bi} {ds : List PyData} {w : Vl} (h : biD f ds = .ok w) : ∃ d, ds = [d] := by
  match ds with
  | [] => cases h
  | [d] => exact ⟨d, rfl⟩
  | _ :: _ :: _ => cases h
theorem c_len : CallR X (.builtin "len") (rBi X.K fa .len) := by
  intro pins s σ H vs us Q I r h
  obtain ⟨F, ds, sm, td, q⟩ := h
  obtain ⟨w, hw, q⟩ := q.get
  obtain ⟨d, rfl⟩ := bi_one hw
  obtain ⟨x, rfl, tx⟩ := tp1 td
  change lenD _ = _ at hw
  cases tx with
  | lst h z rr => simp only [lenD, kI] at hw; cases hw; exact call_len pins s σ H _ us Q I r ⟨_, _, rfl, .inl ⟨_, h, rfl⟩, by rw [rr.length]; exact q.int sm⟩
  | tup h z rr => simp only [lenD, kI] at hw; cases hw; exact call_len pins s σ H _ us Q I r ⟨_, _, rfl, .inr ⟨_, Same.sqt sm h, rfl⟩, by rw [rr.length]; exact q.int sm⟩
  | str x hz o => simp only [lenD, kI] at hw; cases hw; exact call_len pins s σ H _ us Q I r ⟨_, _, rfl, ⟨hz, rfl⟩, q.int sm⟩
  | _ => cases hw
theorem maxI_spec : ∀ (n : Int) (ns : List Int), maxI (n :: ns) ∈ n :: ns ∧ ∀ y ∈ n :: ns, y ≤ maxI (n :: ns)
  | n, [] => ⟨by simp [maxI], fun y hy => by simp at hy; simp [maxI, hy]⟩
  | n, m :: r => by
    obtain ⟨h1, h2⟩ := maxI_spec m r
    have e : maxI (n :: m :: r) = max n (maxI (m :: r)) := rfl
    rw [e]
    constructor
    · by_cases h : n ≤ maxI (m :: r)
      · rw [Int.max_eq_right h]; exact List.mem_cons_of_mem _ h1
      · rw [Int.max_eq_left (by omega)]; exact List.mem_cons_self
    · intro y hy
      rcases List.mem_cons.mp hy with rfl | hy
      · omega
      · have := h2 y hy; omega
theorem minI_spec : ∀ (n : Int) (ns : List Int), minI (n :: ns) ∈ n :: ns ∧ ∀ y ∈ n :: ns, minI (n :: ns) ≤ y
  | n, [] => ⟨by simp [minI], fun y hy => by simp at hy; simp [minI, hy]⟩
  | n, m :: r => by
    obtain ⟨h1, h2⟩ := minI_spec m r
    have e : minI (n :: m :: r) = min n (minI (m :: r)) := rfl
    rw [e]
    constructor
    · by_cases h : n ≤ minI (m :: r)
      · rw [Int.min_eq_left h]; exact List.mem_cons_self
      · rw [Int.min_eq_right (by omega)]; exact List.mem_cons_of_mem _ h1
    · intro y hy
      rcases List.mem_cons.mp hy with rfl | hy
      · omega
      · have := h2 y hy; omega
theorem c_all (hc : X.calm = true) : CallR X (.builtin "all") (rBi X.K fa .all) := by
  intro pins s σ H vs us Q I r h
  obtain ⟨F, ds, sm, td, q⟩ := h
  obtain ⟨w, hw, q⟩ := q.get
  obtain ⟨d, rfl⟩ := bi_one hw
  obtain ⟨x, rfl, tx⟩ := tp1 td
  change allD _ = _ at hw
  cases tx with
  | lst h z rr =>
    simp only [allD] at hw
    split at hw
    · rename_i bs hb
      cases hw
      have e := rr.bools hb
      subst e
      exact cr_all hc pins s σ H _ us Q I r ⟨_, bs, rfl, h, q.bl sm⟩
    · cases hw
  | _ => cases hw
theorem c_any (hc : X.calm = true) : CallR X (.builtin "any") (rBi X.K fa .any) := by
  intro pins s σ H vs us Q I r h
  obtain ⟨F, ds, sm, td, q⟩ := h
  obtain ⟨w, hw, q⟩ := q.get
  obtain ⟨d, rfl⟩ := bi_one hw
  obtain ⟨x, rfl, tx⟩ := tp1 td
  change anyD _ = _ at hw
  cases tx with
  | lst h z rr =>
    simp only [anyD] at hw
    split at hw
    · rename_i bs hb
      cases hw
      have e := rr.bools hb
      subst e
      exact cr_any hc pins s σ H _ us Q I r ⟨_, bs, rfl, h, q.bl sm⟩
    · cases hw
  | _ => cases hw
theorem c_sum (hc : X.calm = true) : CallR X (.builtin "sum") (rBi X.K fa .sum) := by
  intro pins s σ H vs us Q I r h
  obtain ⟨F, ds, sm, td, q⟩ := h
  obtain ⟨w, hw, q⟩ := q.get
  obtain ⟨d, rfl⟩ := bi_one hw
  obtain ⟨x, rfl, tx⟩ := tp1 td
  change sumD _ = _ at hw
  cases tx with
  | lst h z rr =>
    simp only [sumD] at hw
    split at hw
    · rename_i bs hb
      cases hw
      have e := rr.ints hb
      subst e
      exact cr_sum hc pins s σ H _ us Q I r ⟨_, bs, rfl, h, q.int sm⟩
    · cases hw
  | _ => cases hw
theorem c_tuple : CallR X (.type "tuple") (rBi X.K fa .tuple) := by
  intro pins s σ H vs us Q I r h
  obtain ⟨F, ds, sm, td, q⟩ := h
  obtain ⟨w, hw, q⟩ := q.get
  obtain ⟨d, rfl⟩ := bi_one hw
  obtain ⟨x, rfl, tx⟩ := tp1 td
  change tupleD _ = _ at hw
  cases tx with
  | lst h z rr => cases hw; exact call_tuple_of pins s σ H _ us Q I r ⟨_, _, rfl, .inl ⟨h, q.tup sm rr z⟩⟩
  | tup h z rr => cases hw; exact call_tuple_of pins s σ H _ us Q I r ⟨_, _, rfl, .inr ⟨Same.sqt sm h, q _ F H (.refl sm) (.tup h z rr) .fz⟩⟩
  | _ => cases hw
theorem c_list : CallR X (.type "list") (rBi X.K fa .list) := by
  intro pins s σ H vs us Q I r h
  obtain ⟨F, ds, sm, td, q⟩ := h
  obtain ⟨w, hw, q⟩ := q.get
  obtain ⟨d, rfl⟩ := bi_one hw
  obtain ⟨x, rfl, tx⟩ := tp1 td
  change listD _ = _ at hw
  cases tx with
  | lst h z rr => cases hw; exact call_list_of pins s σ H _ us Q I r ⟨_, _, rfl, .inl h, q.lst sm rr z⟩
  | tup h z rr => cases hw; exact call_list_of pins s σ H _ us Q I r ⟨_, _, rfl, .inr (Same.sqt sm h), q.lst sm rr z⟩
  | _ => cases hw
theorem c_int : CallR X (.type "int") (rBi X.K fa .int) := by
  intro pins s σ H vs us Q I r h
  obtain ⟨F, ds, sm, td, q⟩ := h
  obtain ⟨w, hw, q⟩ := q.get
  obtain ⟨d, rfl⟩ := bi_one hw
  obtain ⟨x, rfl, tx⟩ := tp1 td
  change intD _ = _ at hw
  cases tx with
  | int i => simp only [intD, kI] at hw; cases hw; exact call_int1 pins s σ H _ us Q I r (.inl ⟨i, rfl, q.int sm⟩)
  | bl b => simp only [intD, kI] at hw; cases hw; exact call_int1 pins s σ H _ us Q I r (.inr ⟨b, rfl, q.int sm⟩)
  | _ => cases hw
theorem strT_len : strT.length ≤ sizeLine := by rw [sizeLine_eq]; decide +kernel
theorem strF_len : strF.length ≤ sizeLine := by rw [sizeLine_eq]; decide +kernel
theorem c_repr : CallR X (.builtin "repr") (rBi X.K fa .repr) := by
  intro pins s σ H vs us Q I r h
  obtain ⟨F, ds, sm, td, q⟩ := h
  obtain ⟨w, hw, q⟩ := q.get
  obtain ⟨d, rfl⟩ := bi_one hw
  obtain ⟨x, rfl, tx⟩ := tp1 td
  change reprD _ = _ at hw
  cases tx with
  | bl b =>
    cases hw
    obtain ⟨u, rfl, rx⟩ := vals1 r
    cases rx
    refine PySem.P.repr_of_bool ⟨.str (if b then strT else strF), H, I.tok _, ⟨s.toks, ?_⟩, ?_⟩
    · cases b <;> rfl
    · cases b
      · exact q.str sm strF_len (by decide +kernel)
      · exact q.str sm strT_len (by decide +kernel)
  | _ => cases hw
end
end Wv
namespace Wv
open PySem PySem.Spec PyProof.Rows L2
open LamX (Tabs TabS ExtN CodeO TabB)
variable [Tbs]
section
variable {X : Cx} {fa : Nat → Option Addr}
/-! ### sorted -/
abbrev Bears (K : PySem.W.Frag) (F : Hp) (u : Value) (d : PyData) : Prop := ∃ x, RelV x u ∧ Rp K F x d
theorem each_of {K : PySem.W.Frag} {F : Hp} : ∀ {xs : List V} {us : List Value} {ds : List PyData}, Vals xs us → RpAll K F xs ds → PySem.W.EachIs (Bears K F) us ds
  | _, _, _, .nil, .nil => .nil
  | _, _, _, .cons r t, .cons h k => .cons ⟨_, r, h⟩ (each_of t k)
theorem of_each {K : PySem.W.Frag} {F : Hp} : ∀ {us : List Value} {ds : List PyData}, PySem.W.EachIs (Bears K F) us ds → ∃ xs, Vals xs us ∧ RpAll K F xs ds
  | _, _, .nil => ⟨[], .nil, .nil⟩
  | _, _, .cons ⟨x, r, h⟩ t => by
    obtain ⟨xs, h1, h2⟩ := of_each t
    exact ⟨x :: xs, .cons r h1, .cons h h2⟩
theorem each_imp {α β : Type} {R S : α → β → Prop} (h : ∀ a b, R a b → S a b) : ∀ {as : List α} {bs : List β}, PySem.W.EachIs R as bs → PySem.W.EachIs S as bs
  | _, _, .nil => .nil
  | _, _, .cons r t => .cons (h _ _ r) (each_imp h t)
theorem alikeB_ok {ds : List PyData} (h : alikeB ds = true) : PySem.W.AllAlike ds := fun d hd d' hd' => by
  unfold alikeB at h
  rw [List.all_eq_true] at h
  have := h d hd
  rw [List.all_eq_true] at this
  exact this d' hd'
theorem sortable_ok {ds : List PyData} (h : (ds.all tupB || ds.all othB) = true) : PySem.W.Sortable ds := by
  rw [Bool.or_eq_true, List.all_eq_true, List.all_eq_true] at h
  refine h.imp (fun h d hd => ?_) fun h d hd => ?_
  · have := h d hd
    cases d with
    | tuple xs =>
      cases xs with
      | nil => cases this
      | cons x r => exact ⟨x, r, rfl⟩
    | _ => cases this
  · have := h d hd
    constructor
    · rintro rfl; cases this
    · rintro xs rfl; cases this
theorem readsAll_of {pins : List (Addr × Obj)} {σ : L2.St} {H : Hp} {s : Shared} (I : Inv X pins σ H s) : ∀ {xs : List V} {us : List Value} {ds : List PyData}, Vals xs us → RpAll X.K H xs ds → PySem.W.EachIs (fun v d => ∃ as, Reads s.heap v d as) us ds
  | _, _, _, .nil, .nil => .nil
  | _, _, _, .cons r t, .cons h k => .cons (Dp.reads I _ _ _ h.dp r) (readsAll_of I t k)
theorem c_sorted (hu : X.A.units + 200 < cLine) : CallR X (.builtin "sorted") (rBi X.K fa .sorted) := by
  intro pins s σ H vs us Q I r h
  obtain ⟨F, ds, sm, td, q⟩ := h
  obtain ⟨w, hw, q⟩ := q.get
  obtain ⟨d, rfl⟩ := bi_one hw
  obtain ⟨x, rfl, tx⟩ := tp1 td
  change sortD _ = _ at hw
  cases tx with
  | lst h z rr =>
    simp only [sortD] at hw
    split at hw
    · rename_i hs
      cases hw
      unfold sortOk at hs
      rw [Bool.and_eq_true, Bool.and_eq_true] at hs
      obtain ⟨⟨h1, h2⟩, h3⟩ := hs
      obtain ⟨u, rfl, rx⟩ := vals1 r
      cases rx
      obtain ⟨its, rv, pl, _⟩ := I.list h
      have hl := rv.length
      refine PySem.W.sorted_data (enc := id) (R := Bears X.K F) pl.isList (each_of rv rr) (readsAll_of I rv (rr.mono sm)) (by rw [List.map_id]; exact alikeB_ok h1) (by rw [List.map_id]; exact sortable_ok h2) (by rw [← rr.length]; exact z) (fun b hb => ?_) fun out ho he => ?_
      · rw [List.all_eq_true] at h3
        have := h3 b hb
        rw [decide_eq_true_eq] at this
        show _ + (id b).depth < _
        simp only [id_eq]
        omega
      · obtain ⟨xs', hv, hr⟩ := of_each he
        obtain ⟨e, he2⟩ := sortedAll_at s.heap its out.toArray
        have hn : H (s.heap.objs.size + 1) = none := I.hok.fresh (Nat.le_succ _)
        have hlen : xs'.length ≤ sizeLine := by rw [hv.length, ho, ← rr.length]; exact z
        refine ⟨.ref (s.heap.objs.size + 1), upd H (s.heap.objs.size + 1) (.lst xs'), I.laid (t' := s.toks) (fun b o hb => sortedAll_old hb) (Nat.le_succ _) ⟨hlen, out, e, hv, he2⟩, rfl, q.lst sm hr hlen _ hn⟩
    · cases hw
  | _ => cases hw
/-! ### min, max -/
theorem cmpOk_ok {xs : List PyData} (h : cmpOk xs = true) : PySem.W.AlikeAll xs ∧ PyData.plainAll xs = true ∧ PyData.depthAll xs ≤ 64 := by
  unfold cmpOk at h
  rw [Bool.and_eq_true, Bool.and_eq_true, decide_eq_true_eq] at h
  obtain ⟨⟨hs, hp⟩, hd⟩ := h
  unfold sortOk at hs
  rw [Bool.and_eq_true, Bool.and_eq_true] at hs
  obtain ⟨⟨h1, h2⟩, h3⟩ := hs
  refine ⟨⟨fun d hd e he => alikeB_ok h1 d hd e he, fun d hd => ?_⟩, hp, hd⟩
  intro he
  subst he
  rw [Bool.or_eq_true, List.all_eq_true, List.all_eq_true] at h2
  rcases h2 with h | h
  · cases h _ hd
  · cases h _ hd
theorem plain_at : ∀ {xs : List PyData} {i : Nat} {d : PyData}, PyData.plainAll xs = true → xs[i]? = some d → d.plain = true
  | [], _, _, _, h => by simp at h
  | x :: xs, 0, d, h, e => by
    simp only [PyData.plainAll, Bool.and_eq_true] at h
    have := Option.some.inj (show some x = some d from by simpa using e)
    subst this
    exact h.1
  | x :: xs, i + 1, d, h, e => by
    simp only [PyData.plainAll, Bool.and_eq_true] at h
    exact plain_at h.2 (by simpa using e)
theorem readsAll_all {pins : List (Addr × Obj)} {σ : L2.St} {H : Hp} {s : Shared} (I : Inv X pins σ H s) : ∀ {xs : List V} {us : List Value} {ds : List PyData}, Vals xs us → RpAll X.K H xs ds → ∃ as, PySem.ReadsAll s.heap us ds as
  | _, _, _, .nil, .nil => ⟨_, .nil⟩
  | _, _, _, .cons r t, .cons h k => by
    obtain ⟨as, h1⟩ := Dp.reads I _ _ _ h.dp r
    obtain ⟨bs, h2⟩ := readsAll_all I t k
    exact ⟨_, .cons h1 h2⟩
theorem vals_at : ∀ {xs : List V} {us : List Value} {i : Nat} {u : Value}, Vals xs us → us[i]? = some u → ∃ x, xs[i]? = some x ∧ RelV x u
  | _, _, _, _, .nil, h => by simp at h
  | _, _, 0, u, .cons r t, h => ⟨_, rfl, by simp at h; subst h; exact r⟩
  | _, _, i + 1, u, .cons r t, h => by
    obtain ⟨x, h1, h2⟩ := vals_at (i := i) t (by simpa using h)
    exact ⟨x, by simpa using h1, h2⟩
theorem c_max (hc : X.calm = true) (hu : X.A.units + 200 < cLine) : CallR X (.builtin "max") (rBi X.K fa .max) := by
  intro pins s σ H vs us Q I r h
  obtain ⟨F, ds, sm, td, q⟩ := h
  obtain ⟨w, hw, q⟩ := q.get
  obtain ⟨d, rfl⟩ := bi_one hw
  obtain ⟨x, rfl, tx⟩ := tp1 td
  change maxD _ = _ at hw
  cases tx with
  | @lst _ _ ys h z rr =>
    simp only [maxD] at hw
    split at hw
    · rename_i n ns hb
      cases hw
      have e := rr.ints hb
      subst e
      obtain ⟨m1, m2⟩ := maxI_spec n ns
      refine cr_max hc pins s σ H _ us Q I r ⟨_, n :: ns, rfl, h, Nat.zero_lt_succ _, fun m hm hle => ?_⟩
      have : m = maxI (n :: ns) := Int.le_antisymm (m2 m hm) (hle _ m1)
      rw [this]; exact q.int sm
    · cases hw
    · cases ys with
      | nil => cases hw
      | cons y ys =>
        simp only [maxL] at hw
        split at hw
        · rename_i hcm
          cases hw
          obtain ⟨ha, hp, hd⟩ := cmpOk_ok hcm
          obtain ⟨u, rfl, rx⟩ := vals1 r
          cases rx
          obtain ⟨its, rv, pl, _⟩ := I.list h
          obtain ⟨as, hr⟩ := readsAll_all I rv (rr.mono sm)
          refine PySem.W.max_list_data (as := as) (I.ok.hd hc) pl.isList (by simpa using hr) ha (by omega) fun i v h' tk bs hv hrd hk => ?_
          obtain ⟨x, hx, hxr⟩ := vals_at (us := its) rv (by simpa using hv)
          obtain ⟨d, hd1, hd2⟩ := rr.getV hx
          obtain ⟨cs, hc2⟩ := Dp.reads I _ _ _ (hd2.mono sm).dp hxr
          have e := PySem.SeqAt.plain_unique _ _ _ _ _ (plain_at hp hd1) (PySem.W.reads_keeps hk hc2) hrd
          subst e
          exact ⟨x, H, I.kept hk, hxr, q _ F H (.refl sm) hd2.tp .fz⟩
        · cases hw
  | _ => cases hw
theorem c_min (hc : X.calm = true) (hu : X.A.units + 200 < cLine) : CallR X (.builtin "min") (rBi X.K fa .min) := by
  intro pins s σ H vs us Q I r h
  obtain ⟨F, ds, sm, td, q⟩ := h
  obtain ⟨w, hw, q⟩ := q.get
  obtain ⟨d, rfl⟩ := bi_one hw
  obtain ⟨x, rfl, tx⟩ := tp1 td
  change minD _ = _ at hw
  cases tx with
  | @lst _ _ ys h z rr =>
    simp only [minD] at hw
    split at hw
    · rename_i n ns hb
      cases hw
      have e := rr.ints hb
      subst e
      obtain ⟨m1, m2⟩ := minI_spec n ns
      refine cr_min hc pins s σ H _ us Q I r ⟨_, n :: ns, rfl, h, Nat.zero_lt_succ _, fun m hm hle => ?_⟩
      have : m = minI (n :: ns) := Int.le_antisymm (hle _ m1) (m2 m hm)
      rw [this]; exact q.int sm
    · cases hw
    · cases ys with
      | nil => cases hw
      | cons y ys =>
        simp only [minL] at hw
        split at hw
        · rename_i hcm
          cases hw
          obtain ⟨ha, hp, hd⟩ := cmpOk_ok hcm
          obtain ⟨u, rfl, rx⟩ := vals1 r
          cases rx
          obtain ⟨its, rv, pl, _⟩ := I.list h
          obtain ⟨as, hr⟩ := readsAll_all I rv (rr.mono sm)
          refine PySem.W.min_list_data (as := as) (I.ok.hd hc) pl.isList (by simpa using hr) ha (by omega) fun i v h' tk bs hv hrd hk => ?_
          obtain ⟨x, hx, hxr⟩ := vals_at (us := its) rv (by simpa using hv)
          obtain ⟨d, hd1, hd2⟩ := rr.getV hx
          obtain ⟨cs, hc2⟩ := Dp.reads I _ _ _ (hd2.mono sm).dp hxr
          have e := PySem.SeqAt.plain_unique _ _ _ _ _ (plain_at hp hd1) (PySem.W.reads_keeps hk hc2) hrd
          subst e
          exact ⟨x, H, I.kept hk, hxr, q _ F H (.refl sm) hd2.tp .fz⟩
        · cases hw
  | _ => cases hw
/-! ### str of an int -/
theorem strOk_num (i : Int) : PyData.strOk (toString i : String) = true := by
  unfold PyData.strOk
  rw [Str.ofString_eq_toList]
  rw [Array.all_eq_true_iff_forall_mem]
  intro c hc
  simp only [List.mem_toArray, List.mem_map] at hc
  obtain ⟨a, _, rfl⟩ := hc
  have := a.valid
  simp only [UInt32.isValidChar, Nat.isValidChar] at this
  rw [decide_eq_true_eq]
  show a.val.toNat < _
  omega
end
end Wv
/-! Does a term read a piece of the text? -/
namespace Wv
open PySem PySem.Spec PyProof.Rows L2
open LamX (Tabs TabS ExtN CodeO TabB)
variable [Tbs]
/-! ### the pieces of a text -/
def asConst : Expr → Option Const
  | .Constant c _ _ => some c
  | _ => none
def asName : Expr → Option Str
  | .Name x _ => some x
  | _ => none
def asBin : Expr → Option (Expr × Operator × Expr)
  | .BinOp a o b _ => some (a, o, b)
  | _ => none
def asCmp : Expr → Option (Expr × List CmpOp × List Expr)
  | .Compare a os es _ => some (a, os, es)
  | _ => none
def asUn : Expr → Option (UnaryOp × Expr)
  | .UnaryOp o a _ => some (o, a)
  | _ => none
def asBool : Expr → Option (BoolOp × List Expr)
  | .BoolOp o es _ => some (o, es)
  | _ => none
def asIf : Expr → Option (Expr × Expr × Expr)
  | .IfExp c a b _ => some (c, a, b)
  | _ => none
def asTup : Expr → Option (List Expr)
  | .Tuple es _ _ => some es
  | _ => none
def asLst : Expr → Option (List Expr)
  | .List es _ => some es
  | _ => none
def asSub : Expr → Option (Expr × Expr)
  | .Subscript a b _ => some (a, b)
  | _ => none
def asSlice : Expr → Option (Option Expr × Option Expr)
  | .Slice l h none _ => some (l, h)
  | _ => none
def isRevSl : Expr → Bool
  | .Slice none none (some (.UnaryOp .USub (.Constant (.int i) _ _) _)) _ => decide (i = 1)
  | _ => false
def asCall : Expr → Option (Str × List Expr)
  | .Call (.Name f _) es [] _ => some (f, es)
  | _ => none
def oneLine {α : Type} (ap p : Pos) (a : α) : Option α := if ap.endLine == p.line then some a else none
def asMeth : Expr → Option (Expr × Str × List Expr)
  | .Call (.Attribute o m ap) es [] p => oneLine ap p (o, m, es)
  | _ => none
def asComp : Expr → Option (Expr × List Comprehension × Scope)
  | .ListComp e gs sc _ => some (e, gs, sc)
  | _ => none
theorem asConst_eq {e : Expr} {c : Const} (h : asConst e = some c) : ∃ k p, e = .Constant c k p := by
  cases e <;> first | (cases h; done) | (cases h; exact ⟨_, _, rfl⟩)
theorem asName_eq {e : Expr} {c : Str} (h : asName e = some c) : ∃ p, e = .Name c p := by
  cases e <;> first | (cases h; done) | (cases h; exact ⟨_, rfl⟩)
theorem asBin_eq {e : Expr} {a b : Expr} {o : Operator} (h : asBin e = some (a, o, b)) : ∃ p, e = .BinOp a o b p := by
  cases e <;> first | (cases h; done) | (cases h; exact ⟨_, rfl⟩)
theorem asCmp_eq {e : Expr} {a : Expr} {os : List CmpOp} {es : List Expr} (h : asCmp e = some (a, os, es)) : ∃ p, e = .Compare a os es p := by
  cases e <;> first | (cases h; done) | (cases h; exact ⟨_, rfl⟩)
theorem asUn_eq {e : Expr} {a : Expr} {o : UnaryOp} (h : asUn e = some (o, a)) : ∃ p, e = .UnaryOp o a p := by
  cases e <;> first | (cases h; done) | (cases h; exact ⟨_, rfl⟩)
theorem asBool_eq {e : Expr} {o : BoolOp} {es : List Expr} (h : asBool e = some (o, es)) : ∃ p, e = .BoolOp o es p := by
  cases e <;> first | (cases h; done) | (cases h; exact ⟨_, rfl⟩)
theorem asIf_eq {e c a b : Expr} (h : asIf e = some (c, a, b)) : ∃ p, e = .IfExp c a b p := by
  cases e <;> first | (cases h; done) | (cases h; exact ⟨_, rfl⟩)
theorem asTup_eq {e : Expr} {es : List Expr} (h : asTup e = some es) : ∃ k p, e = .Tuple es k p := by
  cases e <;> first | (cases h; done) | (cases h; exact ⟨_, _, rfl⟩)
theorem asLst_eq {e : Expr} {es : List Expr} (h : asLst e = some es) : ∃ p, e = .List es p := by
  cases e <;> first | (cases h; done) | (cases h; exact ⟨_, rfl⟩)
theorem asSub_eq {e a b : Expr} (h : asSub e = some (a, b)) : ∃ p, e = .Subscript a b p := by
  cases e <;> first | (cases h; done) | (cases h; exact ⟨_, rfl⟩)
theorem asSlice_eq {e : Expr} {l u : Option Expr} (h : asSlice e = some (l, u)) : ∃ p, e = .Slice l u none p := by
  cases e with
  | Slice a b c p =>
    cases c with
    | none => cases h; exact ⟨_, rfl⟩
    | some x => cases h
  | _ => cases h
/-- a display of texts to constants -/
def dispB : List (Str × Gc) → List (Option Expr) → List Expr → Bool
  | [], [], [] => true
  | (k, c) :: r, some x :: ks, y :: vs => decide (asConst x = some (.str k)) && decide (k.length ≤ 1000) && PyData.strOk k && (match c with
    | .int i => decide (asConst y = some (.int i))
    | .str z => decide (asConst y = some (.str z)) && decide (z.length ≤ 1000) && PyData.strOk z
    | _ => false) && !(r.any fun q => decide (q.1 = k)) && dispB r ks vs
  | _, _, _ => false
def asDict : Expr → Option (List (Option Expr) × List Expr)
  | .Dict ks vs _ => some (ks, vs)
  | _ => none
theorem asDict_eq {e : Expr} {ks : List (Option Expr)} {vs : List Expr} (h : asDict e = some (ks, vs)) : ∃ p, e = .Dict ks vs p := by
  cases e <;> first | (cases h; done) | (cases h; exact ⟨_, rfl⟩)
theorem isRevSl_eq {e : Expr} (h : isRevSl e = true) : ∃ k p1 p2 p3, e = .Slice none none (some (.UnaryOp .USub (.Constant (.int 1) k p1) p2)) p3 := by
  unfold isRevSl at h
  split at h
  · have := of_decide_eq_true h
    subst this
    exact ⟨_, _, _, _, rfl⟩
  · cases h
theorem asCall_eq {e : Expr} {f : Str} {es : List Expr} (h : asCall e = some (f, es)) : ∃ q p, e = .Call (.Name f q) es [] p := by
  cases e with
  | Call g as ks p =>
    cases g with
    | Name x q =>
      cases ks with
      | nil => cases h; exact ⟨_, _, rfl⟩
      | cons k r => cases h
    | _ => cases h
  | _ => cases h
theorem asMeth_eq {e o : Expr} {m : Str} {es : List Expr} (h : asMeth e = some (o, m, es)) : ∃ ap p, e = .Call (.Attribute o m ap) es [] p ∧ (ap.endLine == p.line) = true := by
  cases e with
  | Call g as ks p =>
    cases g with
    | Attribute x n q =>
      cases ks with
      | nil =>
        change oneLine _ _ _ = _ at h
        unfold oneLine at h
        split at h
        · rename_i hl; cases h; exact ⟨_, _, rfl, hl⟩
        · cases h
      | cons k r => exact nomatch h
    | _ => exact nomatch h
  | _ => exact nomatch h
theorem asComp_eq {e x : Expr} {gs : List Comprehension} {sc : Scope} (h : asComp e = some (x, gs, sc)) : ∃ p, e = .ListComp x gs sc p := by
  cases e <;> first | (cases h; done) | (cases h; exact ⟨_, rfl⟩)
def asDComp : Expr → Option (Expr × Expr × List Comprehension × Scope)
  | .DictComp k v gs sc _ => some (k, v, gs, sc)
  | _ => none
theorem asDComp_eq {e k v : Expr} {gs : List Comprehension} {sc : Scope} (h : asDComp e = some (k, v, gs, sc)) : ∃ p, e = .DictComp k v gs sc p := by
  cases e <;> first | (cases h; done) | (cases h; exact ⟨_, rfl⟩)
def notStar : Expr → Bool
  | .Starred .. => false
  | _ => true
def notSlice : Expr → Bool
  | .Slice .. => false
  | _ => true
def notSet : Expr → Bool
  | .Set .. => false
  | _ => true
def isNm : Expr → Bool
  | .Name .. => true
  | _ => false
theorem starEach_cons {e : Expr} (h : notStar e = true) (es : List Expr) (env : PySem.Env) : starEach (e :: es) env = (false, eval e env) :: starEach es env := by
  cases e <;> first | rfl | cases h
theorem star_any : ∀ (es : List Expr) (pos : Pos) (env : PySem.Env), es.all notStar = true → (backTo pos (starEach es env)).any (·.1) = false
  | [], _, _, _ => rfl
  | e :: es, pos, env, h => by
    rw [List.all_cons, Bool.and_eq_true] at h
    rw [starEach_cons h.1]
    have := star_any es pos env h.2
    unfold backTo at this ⊢
    rw [List.map_cons, List.any_cons, this]
    rfl
theorem plainIx {e : Expr} (h : notSlice e = true) : PlainIx e := fun o i => by
  cases e <;> first | rfl | cases h
theorem folded_pure {e : Expr} (h : notSet e = true) (env : PySem.Env) (x : Value) : foldedSetIterable e env x = pure x := by
  cases e <;> first | rfl | cases h
theorem behind_no {e : Expr} (h : notSet e = true) (op : CmpOp) : behindInMarks op e = false := by
  cases e <;> first | rfl | cases h
/-! ### the check -/
def visB (sc : Scope) (x : Str) : Bool := match sc.names.lookup x with
  | some .local => true
  | some .cell => true
  | some .free => true
  | _ => false
def locB (sc : Scope) (x : Str) : Bool := match sc.names.lookup x with
  | some .local => true
  | some .cell => true
  | _ => false
def glB (sc : Scope) (x : Str) : Bool := match sc.names.lookup x with
  | some .globalImplicit => true
  | _ => false
def okB (x : Str) : Bool := !(x == ("__debug__" : Str)) && !(x == ("__classdict__" : Str))
theorem visB_ok {sc : Scope} {x : Str} (h : visB sc x = true) : Vis sc x := by
  unfold visB at h
  unfold Vis
  split at h
  · rename_i e; exact .inl e
  · rename_i e; exact .inr (.inl e)
  · rename_i e; exact .inr (.inr e)
  · cases h
theorem locB_ok {sc : Scope} {x : Str} (h : locB sc x = true) : L2.Loc sc x := by
  unfold locB at h
  unfold L2.Loc
  split at h
  · rename_i e; exact .inl e
  · rename_i e; exact .inr e
  · cases h
theorem glB_ok {sc : Scope} {x : Str} (h : glB sc x = true) : sc.names.lookup x = some .globalImplicit := by
  unfold glB at h
  split at h
  · rename_i e; exact e
  · cases h
theorem okB_1 {x : Str} (h : okB x = true) : (x == ("__debug__" : Str)) = false := by
  unfold okB at h
  rw [Bool.and_eq_true] at h
  simpa using h.1
theorem okB_2 {x : Str} (h : okB x = true) : (x == ("__classdict__" : Str)) = false := by
  unfold okB at h
  rw [Bool.and_eq_true] at h
  simpa using h.2
def lenE (x : Str) : Expr → Bool
  | .Call (.Name l _) [.Name y _] [] _ => decide (l = "len") && decide (y = x)
  | _ => false
/-- (len(x), x), or (-len(x), x) -/
def keyE (neg : Bool) (x : Str) : Expr → Bool
  | .Tuple [.UnaryOp .USub e _, .Name y _] _ _ => neg && lenE x e && decide (y = x)
  | .Tuple [.Call f as ks p, .Name y _] _ _ => !neg && lenE x (.Call f as ks p) && decide (y = x)
  | _ => false
def lamArgs (x : Str) : Arguments → Bool
  | ⟨[], [⟨y, none, _⟩], none, [], [], none, []⟩ => decide (y = x)
  | _ => false
def lamScope (x : Str) (sc : Scope) : Bool := decide (sc.kind = .function) && !sc.isCoroutine && !sc.isGenerator && decide (sc.names.lookup x = some .local) && decide (sc.names.lookup ("len" : Str) = some .globalImplicit) && sc.names.all fun y => !decide (y.2 = .cell) && !decide (y.2 = .free)
/-- the names that such lambdas take here -/
def lamNms : List Str := ["knots", "lot", "row"]
/-- the names by which the text writes them -/
def lamB (neg : Bool) (params : Arguments) (body : Expr) (scope : Scope) : Bool := lamNms.any fun x => lamArgs x params && keyE neg x body && lamScope x scope
/-- the text's tables: the defs' names, the errors' names, the constants -/
structure Tx where
  fns : List Str
  exs : List Str
  cons : List (Str × Gc)
  dics : List (Str × List (Str × Gc)) := []
  lams : List (List Str) := []
def opB : Op2 → Option Operator
  | .add => some .Add
  | .sub => some .Sub
  | .mul => some .Mult
  | .fdiv => some .FloorDiv
  | .mod => some .Mod
  | .pow => some .Pow
  | _ => none
def opC : Op2 → Option CmpOp
  | .eq => some .Eq
  | .ne => some .NotEq
  | .lt => some .Lt
  | .le => some .LtE
  | .gt => some .Gt
  | .ge => some .GtE
  | .isin => some .In
  | .notin => some .NotIn
  | .is_ => some .Is
  | .isnot => some .IsNot
  | _ => none
def biN : Bi → Str
  | .len => "len"
  | .all => "all"
  | .any => "any"
  | .sum => "sum"
  | .max => "max"
  | .min => "min"
  | .sorted => "sorted"
  | .tuple => "tuple"
  | .list => "list"
  | .int => "int"
  | .str => "str"
  | .repr => "repr"
def mtN : Mt → Str
  | .index => "index"
def muN : Mu → Str
  | .append => "append"
  | .insert => "insert"
/-- a slot's name: x, seen in the scope -/
def slB (N : List Str) (sc : Scope) (i : Nat) (x : Str) : Bool := decide (N[i]? = some x) && visB sc x && okB x
/-- a target: a name, or a tuple of names (sc: the scope in which they are stored) -/
def tgNames (N : List Str) (sc : Scope) : List Nat → List Expr → Bool
  | [], [] => true
  | i :: is, e :: es => (match asName e with
    | some x => decide (N[i]? = some x) && locB sc x
    | none => false) && tgNames N sc is es
  | _, _ => false
def chkTg (N : List Str) (sc : Scope) (tg : List Nat) (tu : Bool) (e : Expr) : Bool :=
  if tu then (match asTup e with
    | some es => tgNames N sc tg es
    | none => false)
  else tgNames N sc tg [e]
def tyNm : Ty → Str
  | .int => "int"
  | .bool => "bool"
  | .str => "str"
  | .tuple => "tuple"
  | .list => "list"
def chkTy (sc : Scope) (t : Ty) (e : Expr) : Bool := match asName e with
  | some x => decide (x = tyNm t) && glB sc x
  | none => false
def chkTys (sc : Scope) : List Ty → List Expr → Bool
  | [], [] => true
  | t :: ts, e :: es => chkTy sc t e && chkTys sc ts es
  | _, _ => false
section
variable (T : Tx) (N : List Str)
mutual
def chkE (sc : Scope) : Tm → Expr → Bool
  | .non, e => decide (asConst e = some .none)
  | .bl b, e => decide (asConst e = some (.bool b))
  | .int i, e => decide (asConst e = some (.int i))
  | .str x, e => decide (asConst e = some (.str x)) && decide (x.length ≤ 1000) && PyData.strOk x
  | .loc i, e => match asName e with
    | some x => slB N sc i x
    | none => false
  | .glo x d, e => decide (asName e = some x) && glB sc x && okB x && decide (T.cons.lookup x = some d)
  | .op o a b, e => match asBin e with
    | some (l, p, r) => decide (opB o = some p) && chkE sc a l && chkE sc b r
    | none => match asCmp e with
      | some (l, [p], [r]) => decide (opC o = some p) && chkE sc a l && chkE sc b r && notSet r
      | _ => false
  | .chain o p a b c, e => match asCmp e with
    | some (l, [q, q'], [r, r']) => decide (opC o = some q) && decide (opC p = some q') && chkE sc a l && chkE sc b r && chkE sc c r' && notSet r && notSet r'
    | _ => false
  | .neg a, e => match asUn e with
    | some (.USub, x) => chkE sc a x
    | _ => false
  | .not a, e => match asUn e with
    | some (.Not, x) => chkE sc a x
    | _ => false
  | .and es, e => match asBool e with
    | some (.And, xs) => chkEs sc es xs
    | _ => false
  | .or es, e => match asBool e with
    | some (.Or, xs) => chkEs sc es xs
    | _ => false
  | .ite c a b, e => match asIf e with
    | some (x, y, z) => chkE sc c x && chkE sc a y && chkE sc b z
    | none => false
  | .tup es, e => match asTup e with
    | some xs => chkEs sc es xs && decide (xs.length ≤ 1000)
    | none => false
  | .lst es, e => match asLst e with
    | some xs => chkEs sc es xs && decide (xs.length ≤ 1000)
    | none => false
  | .ix a b, e => match asSub e with
    | some (x, y) => chkE sc a x && chkE sc b y && notSlice y
    | none => false
  | .sl a lo hi, e => match asSub e with
    | some (x, y) => (match asSlice y with
      | some (l, h) => chkE sc a x && chkEs sc lo l.toList && chkEs sc hi h.toList
      | none => false)
    | none => false
  | .isi a ts, e => match asCall e with
    | some (f, [x, y]) => decide (f = "isinstance") && glB sc f && notStar x && chkE sc a x && ((match ts with
      | [t] => chkTy sc t y
      | _ => false) || (match asTup y with
      | some ys => chkTys sc ts ys && decide (ys.length ≤ 1000)
      | none => false))
    | _ => false
  | .bi f es, e => match asCall e with
    | some (g, xs) => decide (g = biN f) && glB sc g && chkEs sc es xs && decide (xs.length = 1)
    | none => false
  | .lenset a, e => match asCall e with
    | some (f, [x]) => (match asCall x with
      | some (g, [y]) => decide (f = "len") && decide (g = "set") && glB sc f && glB sc g && chkE sc a y && notStar y
      | _ => false)
    | _ => false
  | .sortset a, e => match asCall e with
    | some (f, [x]) => (match asCall x with
      | some (g, [y]) => decide (f = "sorted") && decide (g = "set") && glB sc f && glB sc g && chkE sc a y && notStar y
      | _ => false)
    | _ => false
  | .rep a k, e => match asBin e with
    | some (l, .Mult, r) => (match asLst l with
      | some [x] => notStar x && chkE sc a x && chkE sc k r
      | _ => false)
    | _ => false
  | .dget kvs a d, e => match asMeth e with
    | some (o, nm, [x, y]) => (match asDict o with
      | some (ks, vs) => decide (nm = "get") && dispB kvs ks vs && !kvs.isEmpty && decide (kvs.length ≤ 15) && chkE sc a x && chkE sc d y && notStar x && notStar y
      | none => false)
    | _ => false
  | .rev a, e => match asSub e with
    | some (x, y) => chkE sc a x && isRevSl y
    | none => false
  | .lrng es, e => match asCall e with
    | some (f, [x]) => (match asCall x with
      | some (g, ys) => decide (f = "list") && decide (g = "range") && glB sc f && glB sc g && chkEs sc es ys && decide (ys.length = 1)
      | _ => false)
    | _ => false
  | .mt m a es, e => match asMeth e with
    | some (o, nm, xs) => decide (nm = mtN m) && isNm o && chkE sc a o && chkEs sc es xs && decide (xs.length = 1)
    | none => false
  | .call f es, e => match asCall e with
    | some (g, xs) => decide (T.fns[f]? = some g) && glB sc g && okB g && chkEs sc es xs
    | none => false
  | .comp x tg tu it c own, e => match asComp e with
    | some (y, [⟨t, i, fs, 0⟩], sc1) => chkIt sc it t i && notSet i && chkTg N sc1 tg tu t && tg.all (fun v => own.contains v) && blkC N sc sc1 (own.map fun v => (N.getD v ⟨#[]⟩, v)) && own.all (fun v => decide (v < N.length)) &&
        chkEs (relS sc1 sc) c fs && chkE (relS sc1 sc) x y && decide (fs.length ≤ 1)
    | _ => false
  | .comp2 x tg tu it c tg1 tu1 it1 c1 own, e => match asComp e with
    | some (y, [⟨t, i, fs, 0⟩, ⟨t1, i1, fs1, 0⟩], sc1) => chkIt sc it t i && notSet i && notSet i1 && chkTg N sc1 tg tu t && chkTg N sc1 tg1 tu1 t1 && tg.all (fun v => own.contains v) && tg1.all (fun v => own.contains v) && blkC N sc sc1 (own.map fun v => (N.getD v ⟨#[]⟩, v)) && own.all (fun v => decide (v < N.length)) &&
        chkEs (relS sc1 sc) c fs && chkIt (relS sc1 sc) it1 t1 i1 && chkEs (relS sc1 sc) c1 fs1 && chkE (relS sc1 sc) x y && decide (fs.length ≤ 1) && decide (fs1.length ≤ 1)
    | _ => false
  | .dkeys x tg tu it own, e => match asCall e with
    | some (f, [d]) => (match asDComp d with
      | some (y, z, [⟨t, i, [], 0⟩], sc1) => decide (f = "sorted") && glB sc f && decide (asConst z = some (.bool true)) && chkIt sc it t i && notSet i && chkTg N sc1 tg tu t && tg.all (fun v => own.contains v) && blkC N sc sc1 (own.map fun v => (N.getD v ⟨#[]⟩, v)) && own.all (fun v => decide (v < N.length)) && chkE (relS sc1 sc) x y
      | _ => false)
    | _ => false
  | .trng es, e => match asCall e with
    | some (f, [x]) => (match asCall x with
      | some (g, ys) => decide (f = "tuple") && decide (g = "range") && glB sc f && glB sc g && chkEs sc es ys && decide (ys.length = 1)
      | _ => false)
    | _ => false
  | .trng2 a b, e => match asCall e with
    | some (f, [x]) => (match asCall x with
      | some (g, [y, z]) => decide (f = "tuple") && decide (g = "range") && glB sc f && glB sc g && notStar y && notStar z && chkE sc a y && chkE sc b z
      | _ => false)
    | _ => false
  | .ptup es, e => match asTup e with
    | some xs => chkEs sc es xs && decide (xs.length ≤ 1000)
    | none => false
  | .ptl a, e => match asCall e with
    | some (f, [x]) => decide (f = "tuple") && glB sc f && notStar x && chkE sc a x
    | _ => false
  | .ptr a, e => match asCall e with
    | some (f, [x]) => (match asCall x with
      | some (g, [y]) => decide (f = "tuple") && decide (g = "range") && glB sc f && glB sc g && notStar y && chkE sc a y
      | _ => false)
    | _ => false
  | .ptr2 a b, e => match asCall e with
    | some (f, [x]) => (match asCall x with
      | some (g, [y, z]) => decide (f = "tuple") && decide (g = "range") && glB sc f && glB sc g && notStar y && notStar z && chkE sc a y && chkE sc b z
      | _ => false)
    | _ => false
  | .tix a b, e => match asMeth e with
    | some (o, nm, [y]) => decide (nm = "index") && isNm o && chkE sc a o && chkE sc b y && notStar y
    | _ => false
  | .dnew, e => match asDict e with
    | some ([], []) => true
    | _ => false
  | .disp kvs, e => match asDict e with
    | some (ks, vs) => dispB kvs ks vs && !kvs.isEmpty && decide (kvs.length ≤ 15)
    | none => false
  | .dix a b, e => match asSub e with
    | some (x, y) => chkE sc a x && chkE sc b y && notSlice y
    | none => false
  | .dgt a b c, e => match asMeth e with
    | some (o, nm, [x, y]) => decide (nm = "get") && isNm o && chkE sc a o && chkE sc b x && chkE sc c y && notStar x && notStar y
    | _ => false
  | .dcopy a, e => match asCall e with
    | some (f, [x]) => decide (f = "dict") && glB sc f && notStar x && chkE sc a x
    | _ => false
  | .gget x kvs a d, e => match asMeth e with
    | some (o, nm, [y, z]) => decide (nm = "get") && decide (asName o = some x) && glB sc x && okB x && decide (T.dics.lookup x = some kvs) && chkE sc a y && chkE sc d z && notStar y && notStar z
    | _ => false
  | .gix x kvs a, e => match asSub e with
    | some (o, y) => decide (asName o = some x) && glB sc x && okB x && decide (T.dics.lookup x = some kvs) && chkE sc a y && notSlice y
    | none => false
  | .no, e => match e with
    | .ListComp .. => false
    | .SetComp .. => false
    | .DictComp .. => false
    | .Starred .. => false
    | _ => true
def chkEs (sc : Scope) : Tms → List Expr → Bool
  | .nil, es => es.isEmpty
  | .cons a r, es => match es with
    | e :: es => notStar e && chkE sc a e && chkEs sc r es
    | [] => false
/-- what a for walks (t its target) -/
def chkIt (sc : Scope) : It → Expr → Expr → Bool
  | .tm a, _, e => chkE sc a e
  | .rng es, _, e => match asCall e with
    | some (f, xs) => decide (f = "range") && glB sc f && chkEs sc es xs && (decide (xs.length = 1) || decide (xs.length = 2))
    | none => false
  | .enum a, t, e => match asCall e with
    | some (f, [x]) => decide (f = "enumerate") && glB sc f && chkE sc a x && notStar x && (asTup t).isSome
    | _ => false
  | .zip a b, t, e => match asCall e with
    | some (f, [x, y]) => decide (f = "zip") && glB sc f && chkE sc a x && chkE sc b y && notStar x && notStar y && (asTup t).isSome
    | _ => false
end
end
end Wv
/-! Expressions: what the plain reading says is what the machine does. -/
namespace Wv
open PySem PySem.Spec PyProof.Rows L2
open LamX (Tabs TabS ExtN CodeO TabB)
variable [Tbs]
structure Sys where
  K : PySem.W.Frag
  fa : Nat → Option Addr
  cl : Nat → Value
  W : WX
  run : Nat → List Vl → R Vl
def EnvOk (S : Sys) (ρ : Env) (σ : L2.St) (F H : Hp) : Prop := ρ.length = σ.length ∧ ∀ (i : Nat) (u : Vl), ρ[i]? = some (some u) → ∃ v, σ[i]? = some (some v) ∧ VOk S.K S.fa F H v u
def errP (S : Sys) (σ : L2.St) (H : Hp) (x : Nat) : Prop := ∀ H', Ext H H' → S.W (S.cl x) none σ H'
def errS (S : Sys) (H : Hp) (x : Nat) : Prop := ∀ H', Ext H H' → ∀ σ', S.W (S.cl x) none σ' H'
inductive VAll (S : Sys) (F H : Hp) : List V → List Vl → Prop
  | nil : VAll S F H [] []
  | cons {v : V} {vs : List V} {u : Vl} {us : List Vl} (h : VOk S.K S.fa F H v u) (t : VAll S F H vs us) : VAll S F H (v :: vs) (u :: us)
/-- a def's promise: what the plain reading says of it -/
def spF (K : PySem.W.Frag) (fa : Nat → Option Addr) (cl : Nat → Value) (run : Nat → List Vl → R Vl) (f : Nat) : Sp := fun vs H Q E =>
  ∃ F us, Fit F H ∧ VAll ⟨K, fa, cl, fun _ _ _ _ => False, run⟩ F H vs us ∧ (∀ u ∈ us, ∀ d, u ≠ .ow d) ∧ PostR (run f us) (Want K fa F H Q) fun x => ∀ H', Ext H H' → E (cl x) none H'
/-- the names of built-ins that the reading knows -/
def bltN : List Str := ["len", "all", "any", "sum", "max", "min", "sorted", "tuple", "list", "int", "str", "repr", "bool", "isinstance", "set", "range", "enumerate", "zip", "dict"]
def Gc.v : Gc → V
  | .int i => .int i
  | .str x => .str x
  | .strs _ => .non
/-- a module's dict, texts to constants -/
def DicOk (K : PySem.W.Frag) (w : World) (mg : Str → Option Value) (x : Str) (kvs : List (Str × Gc)) : Prop :=
  ∃ a es m, mg x = some (.ref a) ∧ KDict K w a es m ∧ ∀ z, match kvs.lookup z with
    | some c => ∃ u, PySem.W.nsIn K a z = some (some u) ∧ RelV c.v u ∧ ∀ F, Rp K F c.v c.d
    | none => PySem.W.nsIn K a z = some none
structure Ctx (T : Tx) (n : Nat) (N : List Str) (sc : Scope) (S : Sys) (X : Cx) : Prop where
  hK : X.K = S.K
  hN : X.N = N
  hsc : X.env.scope = sc
  nd : N.Nodup
  calm : X.calm = true
  room : Room n X.A
  bl : ∀ x ∈ bltN, X.mg x = none
  cons : ∀ x c, T.cons.lookup x = some c → ∃ u v, X.mg x = some u ∧ RelV v u ∧ ∀ F, Rp S.K F v c.d
  dics : ∀ x kvs, T.dics.lookup x = some kvs → DicOk X.K X.w X.mg x kvs
  fns : ∀ f x, T.fns[f]? = some x → ∃ a fd ps, S.fa f = some a ∧ X.mg x = some (.ref a) ∧ PySem.W.keepIn X.K (.ref a) = true ∧
    FnOk X.prog X.w X.K X.mg X.base (L2.CX X.prog X.w) n a fd ps (spF S.K S.fa S.cl S.run f) ∧ Binds X.K fd ps [] ∧ ∀ vs H Q E, spF S.K S.fa S.cl S.run f vs H Q E → vs.length = ps.length
  tk : Takes X S.W
section
variable {S : Sys} {ρ : Env} {σ : L2.St} {F F' H H' : Hp}
theorem EnvOk.adv (e : EnvOk S ρ σ F H) (a : Adv F H F' H') : EnvOk S ρ σ F' H' := ⟨e.1, fun i u h => by
  obtain ⟨v, h1, h2⟩ := e.2 i u h
  exact ⟨v, h1, h2.adv a⟩⟩
theorem errP.mono {x : Nat} (h : errP S σ H x) (e : Ext H H') : errP S σ H' x := fun H2 e2 => h H2 (e.trans e2)
theorem errS.mono {x : Nat} (h : errS S H x) (e : Ext H H') : errS S H' x := fun H2 e2 => h H2 (e.trans e2)
theorem VAll.adv (a : Adv F H F' H') : ∀ {vs : List V} {us : List Vl}, VAll S F H vs us → VAll S F' H' vs us
  | _, _, .nil => .nil
  | _, _, .cons h t => .cons (h.adv a) (VAll.adv a t)
theorem VAll.length : ∀ {vs : List V} {us : List Vl}, VAll S F H vs us → vs.length = us.length
  | _, _, .nil => rfl
  | _, _, .cons _ t => congrArg (· + 1) (VAll.length t)
theorem FreshV.back {v : V} {u : Vl} (h : FreshV H' v u) (e : Ext H H') : FreshV H v u := fun d hd => by
  obtain ⟨a, h1, h2⟩ := h d hd
  exact ⟨a, h1, e.free h2⟩
theorem Want.of {K : PySem.W.Frag} {fa : Nat → Option Addr} {Q : VK} {u : Vl} {P : Prop} (a : Adv F H F' H')
    (q : ∀ v F2 H2, Adv F H F2 H2 → VOk K fa F2 H2 v u → (P → FreshV H v u) → Q v H2) : Want K fa F' H' Q u := fun v F2 H2 a2 vk fr => q v F2 H2 (a.trans a2) vk fun _ => fr.back a.hh
/-- an expression's reading -/
def tEv (S : Sys) (t : Tm) : TE := fun σ H Q => ∃ ρ F, EnvOk S ρ σ F H ∧ Fit F H ∧
  PostR (ev S.run t ρ) (fun u => ∀ v F' H', Adv F H F' H' → VOk S.K S.fa F' H' v u → (isLoc t = false → FreshV H v u) → Q v H') (errP S σ H)
theorem tEv.mk {t : Tm} {Q : VK} {k : Vl → Prop} (e : EnvOk S ρ σ F H) (sm : Fit F H) (h : PostR (ev S.run t ρ) k (errP S σ H))
    (hk : ∀ u v F' H', k u → Adv F H F' H' → VOk S.K S.fa F' H' v u → (isLoc t = false → FreshV H v u) → Q v H') : tEv S t σ H Q :=
  ⟨ρ, F, e, sm, h.mono (fun u _ q v F' H' a b c => hk u v F' H' q a b c) fun _ _ q => q⟩
theorem _root_.L2.PE.imp {X : Cx} {e : Expr} {t t' : TE} (h : PE X e t) (i : ∀ σ H Q, t' σ H Q → t σ H Q) : PE X e t' := ⟨fun pins s σ H Q I q => h.run pins s σ H Q I (i σ H Q q)⟩
theorem _root_.L2.PT.imp {X : Cx} {e : Expr} {t t' : TT} (h : PT X e t) (i : ∀ σ H Q, t' σ H Q → t σ H Q) : PT X e t' := ⟨fun pins s σ H Q I q => h.run pins s σ H Q I (i σ H Q q)⟩
theorem _root_.L2.PA.imp {X : Cx} {e : List Expr} {t t' : TA} (h : PA X e t) (i : ∀ σ H Q, t' σ H Q → t σ H Q) : PA X e t' := ⟨fun pos pins s σ H Q I q => h.run pos pins s σ H Q I (i σ H Q q)⟩
theorem _root_.L2.PI.imp {X : Cx} {tg e : Expr} {t t' : TI} (h : PI X tg e t) (i : ∀ σ H Q, t' σ H Q → t σ H Q) : PI X tg e t' := ⟨fun pins s σ H Q I q => h.run pins s σ H Q I (i σ H Q q)⟩
theorem _root_.L2.PS.imp {X : Cx} {e : Stmt} {t t' : TS} (h : PS X e t) (i : ∀ D σ H, t' D σ H → t D σ H) : PS X e t' := ⟨fun pins s σ H D I q => h.run pins s σ H D I (i D σ H q)⟩
theorem _root_.L2.PSs.imp {X : Cx} {e : List Stmt} {t t' : TS} (h : PSs X e t) (i : ∀ D σ H, t' D σ H → t D σ H) : PSs X e t' := ⟨fun pins s σ H D I q => h.run pins s σ H D I (i D σ H q)⟩
theorem _root_.L2.PG.imp {X : Cx} {e : Expr} {t t' : TG} (h : PG X e t) (i : ∀ v σ H Q, t' v σ H Q → t v σ H Q) : PG X e t' := ⟨fun pins s σ H v u Q I r q => h.run pins s σ H v u Q I r (i v σ H Q q)⟩
theorem _root_.L2.PI.or {X : Cx} {tg e : Expr} {t t' : TI} (h : PI X tg e t) (h' : PI X tg e t') : PI X tg e (fun σ H R => t σ H R ∨ t' σ H R) := ⟨fun pins s σ H R I q => q.elim (h.run pins s σ H R I) (h'.run pins s σ H R I)⟩
theorem PostR.dat {u : Vl} {k : PyData → Prop} {e : Nat → Prop} (h : PostR (dat u) k e) : ∃ d, Wv.dat u = .ok d ∧ k d := by
  cases u with
  | fz d => exact ⟨d, rfl, h⟩
  | ow d =>
    have h : PostR (Wv.plain d) k e := h
    cases hd : Wv.plain d with
    | ok x => rw [hd] at h; exact ⟨x, hd, h⟩
    | err x => unfold Wv.plain at hd; split at hd <;> cases hd
    | bad => rw [hd] at h; exact h.elim
  | fn f => exact h.elim
  | ex x => exact h.elim
  | pt ds => exact ⟨.tuple ds, rfl, h⟩
  | fd _ => exact h.elim
theorem PostR.plain {d : PyData} {k : PyData → Prop} {e : Nat → Prop} (h : PostR (plain d) k e) : k d := by
  unfold Wv.plain at h
  split at h
  · exact h.elim
  · exact h
theorem PostR.truth {d : PyData} {k : Bool → Prop} {e : Nat → Prop} (h : PostR (truthD d) k e) : ∃ b, truthD d = .ok b ∧ k b := by
  cases d <;> first | exact h.elim | exact ⟨_, rfl, h⟩
theorem postR_calm {α : Type} {r : R α} {k : α → Prop} {e : Nat → Prop} : PostR r.calm k e ↔ PostR r k fun _ => False := by
  cases r <;> exact Iff.rfl
theorem PostR.keep {l : Bool} {u : Vl} {k : Vl → Prop} {e : Nat → Prop} (h : PostR (keepV l u) k e) : k u ∧ (l = true → ∀ d, u ≠ .ow d) := by
  cases u with
  | fz d => exact ⟨h, fun _ _ z => nomatch z⟩
  | fn d => exact ⟨h, fun _ _ z => nomatch z⟩
  | ex d => exact ⟨h, fun _ _ z => nomatch z⟩
  | pt d => exact ⟨h, fun _ _ z => nomatch z⟩
  | fd d => exact ⟨h, fun _ _ z => nomatch z⟩
  | ow d =>
    cases l with
    | true => exact h.elim
    | false => exact ⟨h, fun z => nomatch z⟩
theorem fresh_kept {l : Bool} {v : V} {u : Vl} (h1 : l = false → FreshV H v u) (h2 : l = true → ∀ d, u ≠ .ow d) : FreshV H v u := by
  cases l with
  | false => exact h1 rfl
  | true => exact fun d e => absurd e (h2 rfl d)
theorem argV_no (u : Vl) (d : PyData) : argV u ≠ .ow d := by
  cases u with
  | ow e => cases e <;> exact fun z => nomatch z
  | _ => exact fun z => nomatch z
theorem dat_argV {u : Vl} {d : PyData} (h : Wv.dat u = .ok d) : Wv.dat (argV u) = .ok d := by
  cases u with
  | ow e => cases e <;> first | exact h | cases h
  | _ => exact h
/-- what is one's own and new stands still from now on -/
theorem settle {F0 H0 : Hp} {v : V} {u : Vl} (a : Adv F0 H0 F H) (vk : VOk S.K S.fa F H v u) (fr : FreshV H0 v u) : ∃ F2, Adv F0 H0 F2 H ∧ Same F F2 ∧ VOk S.K S.fa F2 H v (argV u) := by
  cases u with
  | ow d =>
    obtain ⟨p, rfl, n, o⟩ := vk
    obtain ⟨p', e, n0⟩ := fr d rfl
    cases e
    obtain ⟨x, hx, nx, t⟩ := o.still (fa := S.fa) n
    exact ⟨upd F p x, a.still n0 n hx nx, same_upd n, t⟩
  | fz d => exact ⟨F, a, Same.refl F, vk⟩
  | fn f => exact ⟨F, a, Same.refl F, vk⟩
  | ex x => exact ⟨F, a, Same.refl F, vk⟩
  | pt x => exact ⟨F, a, Same.refl F, vk⟩
  | fd x => exact ⟨F, a, Same.refl F, vk⟩
theorem VOk.rp {K : PySem.W.Frag} {fa : Nat → Option Addr} {v : V} {u : Vl} {d : PyData} (h : VOk K fa F H v (argV u)) (q : dat u = .ok d) : Rp K F v d := by
  cases u with
  | fz x => cases q; exact Tp.rp h
  | ow x =>
    have q : plain x = .ok d := q
    unfold plain at q
    split at q
    · cases q
    · rename_i hx
      cases q
      have h : VOk K fa F H v (frzV d) := h
      cases d <;> first | exact Tp.rp h | exact absurd rfl hx
  | fn f => cases q
  | ex x => cases q
  | pt ds => cases q; exact Tp.rp h.1
  | fd _ => cases q
end
end Wv
namespace Wv
open PySem PySem.Spec PyProof.Rows L2
open LamX (Tabs TabS ExtN CodeO TabB)
variable [Tbs]
/-! ### further readings -/
def tTv (S : Sys) (t : Tm) : TT := fun σ H Q => ∃ ρ F, EnvOk S ρ σ F H ∧ Fit F H ∧ PostR (evB S.run t ρ) (fun b => ∀ F' H', Adv F H F' H' → Q b H') (errP S σ H)
def tTs (S : Sys) (es : Tms) : TA := fun σ H Q => ∃ ρ F, EnvOk S ρ σ F H ∧ Fit F H ∧ PostR (evTs S.run es ρ) (fun ds => ∀ vs F' H', Adv F H F' H' → TpAll S.K F' H' vs ds → Q vs H') (errP S σ H)
def tDs (S : Sys) (es : Tms) : TA := fun σ H Q => ∃ ρ F, EnvOk S ρ σ F H ∧ Fit F H ∧ PostR (evDs S.run es ρ) (fun ds => ∀ vs F' H', Adv F H F' H' → RpAll S.K F' vs ds → Q vs H') (errP S σ H)
def tAs (S : Sys) (es : Tms) : TA := fun σ H Q => ∃ ρ F, EnvOk S ρ σ F H ∧ Fit F H ∧ PostR (evAs S.run es ρ) (fun us => ∀ vs F' H', Adv F H F' H' → VAll S F' H' vs us → Q vs H') (errP S σ H)
def tAndV (S : Sys) (es : Tms) : TE := fun σ H Q => ∃ ρ F, EnvOk S ρ σ F H ∧ Fit F H ∧ PostR (evAnd S.run es ρ) (fun u => ∀ v F' H', Adv F H F' H' → VOk S.K S.fa F' H' v u → FreshV H v u → Q v H') (errP S σ H)
def tOrV (S : Sys) (es : Tms) : TE := fun σ H Q => ∃ ρ F, EnvOk S ρ σ F H ∧ Fit F H ∧ PostR (evOr S.run es ρ) (fun u => ∀ v F' H', Adv F H F' H' → VOk S.K S.fa F' H' v u → FreshV H v u → Q v H') (errP S σ H)
def tAndT (S : Sys) (es : Tms) : TT := fun σ H Q => ∃ ρ F, EnvOk S ρ σ F H ∧ Fit F H ∧ PostR (((evAnd S.run es ρ).bind dat).bind truthD) (fun b => ∀ F' H', Adv F H F' H' → Q b H') (errP S σ H)
def tOrT (S : Sys) (es : Tms) : TT := fun σ H Q => ∃ ρ F, EnvOk S ρ σ F H ∧ Fit F H ∧ PostR (((evOr S.run es ρ).bind dat).bind truthD) (fun b => ∀ F' H', Adv F H F' H' → Q b H') (errP S σ H)
def tCond (S : Sys) (es : Tms) : TT := fun σ H Q => ∃ ρ F, EnvOk S ρ σ F H ∧ Fit F H ∧ PostR (evCond S.run es ρ) (fun b => ∀ F' H', Adv F H F' H' → Q b H') (errP S σ H)
/-- a walk's item i, brought to the heap -/
def Yld (K : PySem.W.Frag) (F : Hp) (ds : List PyData) : Nat → Hp → V → Hp → Prop := fun i H x H' => ∀ F1, Same F F1 → Fit F1 H → ∃ F2 d, Adv F1 H F2 H' ∧ ds[i]? = some d ∧ Rp K F2 x d
def tIt (S : Sys) (k : Bool) (it : It) : TI := fun σ H R => ∃ ρ F, EnvOk S ρ σ F H ∧ Fit F H ∧
  PostR (evIt S.run k it ρ) (fun ds => ∀ J G F' H', Adv F H F' H' → Walk J ds.length G (Yld S.K F' ds) → (∀ H2, Ext H' H2 → G H2) → (k = true → ∀ H2, Same F' H2 → G H2) → ds.length ≤ sizeLine → R J H') (errP S σ H)
section
variable {T : Tx} {n : Nat} {N : List Str}
def GoodE (T : Tx) (n : Nat) (N : List Str) (t : Tm) : Prop := ∀ (sc : Scope) (S : Sys) (X : Cx), Ctx T n N sc S X → ∀ e, chkE T N sc t e = true → PE X e (tEv S t) ∧ PT X e (tTv S t)
def GoodEs (T : Tx) (n : Nat) (N : List Str) (es : Tms) : Prop := ∀ (sc : Scope) (S : Sys) (X : Cx), Ctx T n N sc S X → ∀ xs, chkEs T N sc es xs = true →
  PA X xs (tTs S es) ∧ PA X xs (tDs S es) ∧ PA X xs (tAs S es) ∧ (xs ≠ [] → ∀ pos, (PE X (.BoolOp .And xs pos) (tAndV S es) ∧ PE X (.BoolOp .Or xs pos) (tOrV S es)) ∧ PW X (.BoolOp .And xs pos) (tAndT S es) ∧ PW X (.BoolOp .Or xs pos) (tOrT S es)) ∧ (xs.length ≤ 1 → PTs X xs (tCond S es)) ∧ xs.all notStar = true
def GoodIt (T : Tx) (n : Nat) (N : List Str) (it : It) : Prop := ∀ (sc : Scope) (S : Sys) (X : Cx), Ctx T n N sc S X → ∀ k tg e, chkIt T N sc it tg e = true → PI X tg e (tIt S k it)
theorem Ctx.hu {sc : Scope} {S : Sys} {X : Cx} (C : Ctx T n N sc S X) : X.A.units + 200 < cLine := by have := C.room.un; omega
/-! ### tests by truth -/
def plainTest : Expr → Bool
  | .UnaryOp .Not _ _ => false
  | .BoolOp .. => false
  | .IfExp .. => false
  | .Compare .. => false
  | _ => true
theorem plainTest_ok {e : Expr} (h : plainTest e = true) (env : PySem.Env) (whole : Sem Value) : isTrue e env whole = (do let v ← whole; standAt e.pos; holding [v] (truthy v)) := by
  cases e with
  | UnaryOp o a p => cases o <;> first | rfl | cases h
  | _ => first | rfl | cases h
theorem pt_of {S : Sys} {X : Cx} (hK : X.K = S.K) {t : Tm} {e : Expr} (h : PE X e (tEv S t)) (hp : plainTest e = true) : PT X e (tTv S t) := by
  refine (pt_truth h fun w => plainTest_ok hp _ w).imp fun σ H Q q => ?_
  obtain ⟨ρ, F, en, sm, q⟩ := q
  unfold evB at q
  rw [postR_bind, postR_bind] at q
  refine tEv.mk en sm q fun u v F' H' k a vk fr => ?_
  obtain ⟨d, hd, k⟩ := k.dat
  obtain ⟨b, hb, k⟩ := k.truth
  rw [hK]
  exact ⟨b, tp_truth a.fh (vk.tp a.fh hd) hb, k F' H' a⟩
/-- a value that is a bool, as a test -/
theorem evB_of_bool {S : Sys} {X : Cx} {t : Tm} {e : Expr} {te : TE} (h : PT X e (tB te)) (hv : ∀ ρ u, ev S.run t ρ = .ok u → ∃ b, u = .fz (.bool b))
    (hi : ∀ σ H Q, tEv S t σ H Q → te σ H Q) : PT X e (tTv S t) := by
  refine h.imp fun σ H Q q => hi _ _ _ ?_
  obtain ⟨ρ, F, en, sm, q⟩ := q
  unfold evB at q
  rw [postR_bind, postR_bind] at q
  refine ⟨ρ, F, en, sm, q.mono (fun u e k v F' H' a vk fr => ?_) fun _ _ q => q⟩
  obtain ⟨b, rfl⟩ := hv ρ u e
  cases vk
  exact ⟨b, rfl, k F' H' a⟩
/-! ### constants, names -/
theorem good_const {t : Tm} {d : PyData} {sc : Scope} {S : Sys} {X : Cx} {e : Expr} {v : V} (hK : X.K = S.K) (hp : PE X e (tC v)) (hv : ∀ ρ, ev S.run t ρ = .ok (.fz d)) (hl : isLoc t = false) (r : ∀ F, Rp S.K F v d) (pt : plainTest e = true) : PE X e (tEv S t) ∧ PT X e (tTv S t) := by
  have h1 : PE X e (tEv S t) := hp.imp fun σ H Q ⟨ρ, F, en, sm, q⟩ => by
    rw [hv] at q
    exact q v F H (.refl sm) (r F).tp fun _ => .fz
  exact ⟨h1, pt_of hK h1 pt⟩
theorem good_non : GoodE T n N .non := fun sc S X C e h => by
  simp only [chkE, decide_eq_true_eq] at h
  obtain ⟨k, p, rfl⟩ := asConst_eq h
  exact good_const (sc := sc) C.hK pe_non (fun _ => rfl) rfl (fun _ => .non) rfl
theorem good_bl (b : Bool) : GoodE T n N (.bl b) := fun sc S X C e h => by
  simp only [chkE, decide_eq_true_eq] at h
  obtain ⟨k, p, rfl⟩ := asConst_eq h
  exact good_const (sc := sc) C.hK pe_bl (fun _ => rfl) rfl (fun _ => .bl b) rfl
theorem good_int (b : Int) : GoodE T n N (.int b) := fun sc S X C e h => by
  simp only [chkE, decide_eq_true_eq] at h
  obtain ⟨k, p, rfl⟩ := asConst_eq h
  exact good_const (sc := sc) C.hK pe_int (fun _ => rfl) rfl (fun _ => .int b) rfl
theorem good_str (b : Str) : GoodE T n N (.str b) := fun sc S X C e h => by
  simp only [chkE, Bool.and_eq_true, decide_eq_true_eq] at h
  obtain ⟨⟨h, hl⟩, ho⟩ := h
  obtain ⟨k, p, rfl⟩ := asConst_eq h
  exact good_const (sc := sc) C.hK pe_str (fun _ => rfl) rfl (fun _ => .str b (Nat.le_trans hl (by rw [sizeLine_eq]; decide)) ho) rfl
theorem good_loc (i : Nat) : GoodE T n N (.loc i) := fun sc S X C e h => by
  simp only [chkE] at h
  split at h
  · rename_i x hx
    obtain ⟨p, rfl⟩ := asName_eq hx
    unfold slB at h
    simp only [Bool.and_eq_true, decide_eq_true_eq] at h
    obtain ⟨⟨h1, h2⟩, h3⟩ := h
    have hp : PE X (.Name x p) (tVar i) := pe_var (by rw [C.hN]; exact h1) (by rw [C.hsc]; exact visB_ok h2) (okB_1 h3) (okB_2 h3)
    have h4 : PE X (.Name x p) (tEv S (.loc i)) := hp.imp fun σ H Q ⟨ρ, F, en, sm, q⟩ => by
      simp only [ev] at q
      split at q
      · rename_i u hu
        obtain ⟨v, e1, e2⟩ := en.2 i u hu
        exact ⟨v, e1, q v F H (.refl sm) e2 fun z => nomatch z⟩
      · exact q.elim
    exact ⟨h4, pt_of C.hK h4 rfl⟩
  · cases h
theorem good_glo (x : Str) (d : Gc) : GoodE T n N (.glo x d) := fun sc S X C e h => by
  simp only [chkE, Bool.and_eq_true, decide_eq_true_eq] at h
  obtain ⟨⟨⟨h1, h2⟩, h3⟩, h4⟩ := h
  obtain ⟨p, rfl⟩ := asName_eq h1
  obtain ⟨u, v, e1, e2, e3⟩ := C.cons x d h4
  exact good_const (sc := sc) C.hK (pe_glob (by show X.env.scope.names.lookup x = _; rw [C.hsc]; exact glB_ok h2) e1 e2 (okB_1 h3)) (fun _ => rfl) rfl e3 rfl
/-! ### operators -/
theorem t_op2 {S : Sys} {o : Op2} {a b : Tm} {r : R2} (hr : ∀ x y H Q, rD S.K S.fa (op2D o) x y H Q → r x y H Q) (σ : L2.St) (H : Hp) (Q : VK) (q : tEv S (.op o a b) σ H Q) : tOp r (tEv S a) (tEv S b) σ H Q := by
  obtain ⟨ρ, F, en, sm, q⟩ := q
  simp only [ev, postR_bind, postR_calm] at q
  refine tEv.mk en sm q fun u v F1 H1 k a1 vk fr => ?_
  obtain ⟨x, hx, k⟩ := k.dat
  refine tEv.mk (en.adv a1) a1.fh (k.mono (fun _ _ q => q) fun _ _ q => errP.mono q a1.hh) fun u2 v2 F2 H2 k2 a2 vk2 fr2 => ?_
  obtain ⟨y, hy, k2⟩ := k2.dat
  exact hr _ _ _ _ ⟨F2, x, y, a2.fh, (vk.adv a2).tp a2.fh hx, vk2.tp a2.fh hy, k2.mono (fun u _ q => Want.of (a1.trans a2) q) fun _ _ q => q⟩
theorem opR_imp {X : Cx} {f : Value → Value → Sem Value} {r r' : R2} (h : OpR X f r) (i : ∀ x y H Q, r' x y H Q → r x y H Q) : OpR X f r' := fun pins s σ H x y v u Q I rx ry q => h pins s σ H x y v u Q I rx ry (i _ _ _ _ q)
end
end Wv
namespace Wv
open PySem PySem.Spec PyProof.Rows L2
open LamX (Tabs TabS ExtN CodeO TabB)
variable [Tbs]
section
variable {T : Tx} {n : Nat} {N : List Str}
theorem op_rule {X : Cx} {K : PySem.W.Frag} (hK : X.K = K) (hu : X.A.units + 200 < cLine) (fa : Nat → Option Addr) {o : Op2} {p : Operator} (h : opB o = some p) : OpR X (binaryOp p) (rD K fa (op2D o)) := by
  subst hK
  cases o <;> cases h
  · exact o_add
  · exact o_sub
  · exact o_mul
  · exact o_fdiv
  · exact o_mod
  · exact o_pow
theorem cmp_rule {X : Cx} {K : PySem.W.Frag} (hK : X.K = K) (hu : X.A.units + 200 < cLine) (fa : Nat → Option Addr) {o : Op2} {p : CmpOp} (h : opC o = some p) : OpR X (compareOp p) (rD K fa (op2D o)) := by
  subst hK
  cases o <;> cases h
  · exact o_eq hu
  · exact o_ne hu
  · exact o_lt hu
  · exact o_le
  · exact o_gt
  · exact o_ge
  · exact o_in hu
  · exact o_notin hu
  · exact o_is
  · exact o_isnot
theorem cmp_bool {o : Op2} {p : CmpOp} (h : opC o = some p) {d e : PyData} {u : Vl} (q : op2D o d e = .ok u) : ∃ b, u = .fz (.bool b) := by
  have m1 : ∀ {r : R Bool} {f : Bool → Bool}, map1 r (fun b => Vl.fz (.bool (f b))) = .ok u → ∃ b, u = .fz (.bool b) := fun h => by
    obtain ⟨a, _, rfl⟩ := map1_ok h
    exact ⟨_, rfl⟩
  cases o <;> cases h
  · exact m1 (f := id) q
  · exact m1 q
  · exact m1 (f := id) q
  · change leD d e = _ at q; cases d <;> cases e <;> first | (cases q; done) | (simp only [leD, kB] at q; cases q; exact ⟨_, rfl⟩)
  · change gtD d e = _ at q; cases d <;> cases e <;> first | (cases q; done) | (simp only [gtD, kB] at q; cases q; exact ⟨_, rfl⟩)
  · change geD d e = _ at q; cases d <;> cases e <;> first | (cases q; done) | (simp only [geD, kB] at q; cases q; exact ⟨_, rfl⟩)
  · exact m1 (f := id) q
  · exact m1 q
  · cases e <;> first | (cases q; done) | (simp only [op2D, kB] at q; cases q; exact ⟨_, rfl⟩)
  · cases e <;> first | (cases q; done) | (simp only [op2D, kB] at q; cases q; exact ⟨_, rfl⟩)
theorem bind_ok {α β : Type} {r : R α} {f : α → R β} {b : β} (h : r.bind f = .ok b) : ∃ a, r = .ok a ∧ f a = .ok b := by
  cases r with
  | ok a => exact ⟨a, rfl, h⟩
  | err x => cases h
  | bad => cases h
theorem calm_ok {α : Type} {r : R α} {b : α} (h : r.calm = .ok b) : r = .ok b := by
  cases r with
  | ok a => exact h
  | err x => cases h
  | bad => cases h
theorem good_op {o : Op2} {a b : Tm} (ga : GoodE T n N a) (gb : GoodE T n N b) : GoodE T n N (.op o a b) := fun sc S X C e h => by
  simp only [chkE] at h
  split at h
  · rename_i l p r he
    simp only [Bool.and_eq_true, decide_eq_true_eq] at h
    obtain ⟨⟨h1, h2⟩, h3⟩ := h
    obtain ⟨pos, rfl⟩ := asBin_eq he
    have h4 : PE X (.BinOp l p r pos) (tEv S (.op o a b)) := (pe_op (op_rule C.hK C.hu S.fa h1) (ga sc S X C l h2).1 (gb sc S X C r h3).1).imp (t_op2 fun _ _ _ _ q => q)
    exact ⟨h4, pt_of C.hK h4 rfl⟩
  · split at h
    · rename_i l p r he
      simp only [Bool.and_eq_true, decide_eq_true_eq] at h
      obtain ⟨⟨⟨h1, h2⟩, h3⟩, h4⟩ := h
      obtain ⟨pos, rfl⟩ := asCmp_eq he
      have rule := cmp_rule C.hK C.hu S.fa h1
      refine ⟨(pe_cmpR rule (ga sc S X C l h2).1 (gb sc S X C r h3).1 (behind_no h4 p)).imp (t_op2 fun _ _ _ _ q => q), ?_⟩
      refine evB_of_bool (pt_cmpR rule (ga sc S X C l h2).1 (gb sc S X C r h3).1 (behind_no h4 p)) (fun ρ u q => ?_) (t_op2 fun _ _ _ _ q => q)
      simp only [ev] at q
      obtain ⟨x, _, q⟩ := bind_ok q
      obtain ⟨y, _, q⟩ := bind_ok q
      exact cmp_bool h1 (calm_ok q)
    · cases h
theorem postR_bool {u : Vl} {k : Bool → Prop} {e : Nat → Prop} (h : PostR (boolV u) k e) : ∃ b, u = .fz (.bool b) ∧ k b := by
  cases u with
  | fz d => cases d <;> first | exact h.elim | exact ⟨_, rfl, h⟩
  | ow d => exact h.elim
  | fn d => exact h.elim
  | ex d => exact h.elim
  | pt d => exact h.elim
  | fd d => exact h.elim
theorem t_chain {S : Sys} {o p : Op2} {a b c : Tm} (σ : L2.St) (H : Hp) (Q : VK) (q : tEv S (.chain o p a b c) σ H Q) :
    tChain (rD S.K S.fa (op2D o)) (rD S.K S.fa (op2D p)) (tEv S a) (tEv S b) (tEv S c) σ H Q := by
  obtain ⟨ρ, F, en, sm, q⟩ := q
  simp only [ev, postR_bind, postR_calm] at q
  refine tEv.mk en sm q fun u v F1 H1 k a1 vk fr => ?_
  obtain ⟨x, hx, k⟩ := k.dat
  refine tEv.mk (en.adv a1) a1.fh (k.mono (fun _ _ q => q) fun _ _ q => errP.mono q a1.hh) fun u2 v2 F2 H2 k2 a2 vk2 fr2 => ?_
  obtain ⟨y, hy, k2⟩ := k2.dat
  refine ⟨F2, x, y, a2.fh, (vk.adv a2).tp a2.fh hx, vk2.tp a2.fh hy, k2.mono (fun u3 _ q v3 F3 H3 a3 vk3 fr3 => ?_) fun _ _ q => q⟩
  obtain ⟨t, rfl, qt⟩ := postR_bool q
  clear q
  cases vk3
  refine ⟨t, rfl, ?_⟩
  have A3 := (a1.trans a2).trans a3
  cases t with
  | false => exact iteF (qt _ F3 H3 A3 (.bl false) fun _ => .fz)
  | true =>
    refine iteT ?_
    simp only [↓reduceIte, postR_bind, postR_calm] at qt
    refine tEv.mk (en.adv A3) a3.fh (qt.mono (fun _ _ q => q) fun _ _ q => errP.mono q A3.hh) fun u4 v4 F4 H4 k4 a4 vk4 fr4 => ?_
    obtain ⟨z, hz, k4⟩ := k4.dat
    exact ⟨F4, y, z, a4.fh, ((vk2.adv a3).adv a4).tp a4.fh hy, vk4.tp a4.fh hz, k4.mono (fun u _ q => Want.of (A3.trans a4) q) fun _ _ q => q⟩
theorem good_chain {o p : Op2} {a b c : Tm} (ga : GoodE T n N a) (gb : GoodE T n N b) (gc : GoodE T n N c) : GoodE T n N (.chain o p a b c) := fun sc S X C e h => by
  simp only [chkE] at h
  split at h
  · rename_i l q q' r r' he
    simp only [Bool.and_eq_true, decide_eq_true_eq] at h
    obtain ⟨⟨⟨⟨⟨⟨h1, h1'⟩, h2⟩, h3⟩, h4⟩, h5⟩, h6⟩ := h
    obtain ⟨pos, rfl⟩ := asCmp_eq he
    have rule := cmp_rule C.hK C.hu S.fa h1
    have rule' := cmp_rule C.hK C.hu S.fa h1'
    have hh : lastMarks [q, q'] [r, r'] = false := behind_no h6 q'
    refine ⟨(pe_chain rule rule' (ga sc S X C l h2).1 (gb sc S X C r h3).1 (gc sc S X C r' h4).1 hh).imp t_chain, ?_⟩
    refine evB_of_bool (pt_chain rule rule' (ga sc S X C l h2).1 (gb sc S X C r h3).1 (gc sc S X C r' h4).1 hh) (fun ρ u q => ?_) t_chain
    simp only [ev] at q
    obtain ⟨x, _, q⟩ := bind_ok q
    obtain ⟨y, _, q⟩ := bind_ok q
    obtain ⟨v, q1, q⟩ := bind_ok q
    obtain ⟨t, _, q⟩ := bind_ok q
    cases t with
    | false => cases q; exact ⟨false, rfl⟩
    | true =>
      obtain ⟨z, _, q⟩ := bind_ok q
      exact cmp_bool h1' (calm_ok q)
  · cases h
theorem good_neg {a : Tm} (ga : GoodE T n N a) : GoodE T n N (.neg a) := fun sc S X C e h => by
  simp only [chkE] at h
  split at h
  · rename_i x he
    obtain ⟨pos, rfl⟩ := asUn_eq he
    have r : UnR X (unaryOp .USub) (rU1 S.K S.fa negD) := by rw [← C.hK]; exact o_neg
    have h4 : PE X (.UnaryOp .USub x pos) (tEv S (.neg a)) := (pe_un r (ga sc S X C x h).1).imp fun σ H Q q => by
      obtain ⟨ρ, F, en, sm, q⟩ := q
      simp only [ev, postR_bind, postR_calm] at q
      refine tEv.mk en sm q fun u v F1 H1 k a1 vk fr => ?_
      obtain ⟨x, hx, k⟩ := k.dat
      exact ⟨F1, x, a1.fh, vk.tp a1.fh hx, k.mono (fun u _ q => Want.of a1 q) fun _ _ q => q⟩
    exact ⟨h4, pt_of C.hK h4 rfl⟩
  · cases h
theorem good_not {a : Tm} (ga : GoodE T n N a) : GoodE T n N (.not a) := fun sc S X C e h => by
  simp only [chkE] at h
  split at h
  · rename_i x he
    obtain ⟨pos, rfl⟩ := asUn_eq he
    obtain ⟨g1, g2⟩ := ga sc S X C x h
    refine ⟨(pe_notT g1).imp fun σ H Q q => ?_, (pt_not g2).imp fun σ H Q q => ?_⟩
    · obtain ⟨ρ, F, en, sm, q⟩ := q
      simp only [ev, postR_bind] at q
      refine tEv.mk en sm q fun u v F1 H1 k a1 vk fr => ?_
      obtain ⟨x, hx, k⟩ := k.dat
      obtain ⟨b, hb, k⟩ := k.truth
      rw [C.hK]
      exact ⟨b, tp_truth a1.fh (vk.tp a1.fh hx) hb, k _ F1 H1 a1 (.bl _) fun _ => .fz⟩
    · obtain ⟨ρ, F, en, sm, q⟩ := q
      simp only [evB, ev, postR_bind] at q
      refine ⟨ρ, F, en, sm, ?_⟩
      simp only [evB, postR_bind]
      refine q.mono (fun u _ k => k.mono (fun d _ k => k.mono (fun b _ k => ?_) fun _ _ q => q) fun _ _ q => q) fun _ _ q => q
      exact k
  · cases h
end
end Wv
namespace Wv
open PySem PySem.Spec PyProof.Rows L2
open LamX (Tabs TabS ExtN CodeO TabB)
variable [Tbs]
section
variable {T : Tx} {n : Nat} {N : List Str}
theorem bind_pure {α : Type} (r : R α) : (r.bind fun v => .ok v) = r := by cases r <;> rfl
theorem evAnd_one (run : Nat → List Vl → R Vl) (a : Tm) (ρ : Env) : evAnd run (.cons a .nil) ρ = (ev run a ρ).bind (keepV (isLoc a)) := by
  unfold evAnd
  exact bind_pure _
theorem evOr_one (run : Nat → List Vl → R Vl) (a : Tm) (ρ : Env) : evOr run (.cons a .nil) ρ = (ev run a ρ).bind (keepV (isLoc a)) := by
  unfold evOr
  exact bind_pure _
/-- the list's part of a cons -/
theorem good_nil : GoodEs T n N .nil := fun sc S X C xs h => by
  simp only [chkEs, List.isEmpty_iff] at h
  subst h
  refine ⟨pa_nil.imp fun σ H Q q => ?_, pa_nil.imp fun σ H Q q => ?_, pa_nil.imp fun σ H Q q => ?_, fun z => absurd rfl z, fun _ => ⟨fun pins s σ H Q I q => ?_⟩, rfl⟩
  · obtain ⟨ρ, F, en, sm, q⟩ := q; exact q [] F H (.refl sm) .nil
  · obtain ⟨ρ, F, en, sm, q⟩ := q; exact q [] F H (.refl sm) .nil
  · obtain ⟨ρ, F, en, sm, q⟩ := q; exact q [] F H (.refl sm) .nil
  · obtain ⟨ρ, F, en, sm, q⟩ := q
    exact pts_nil.run pins s σ H Q I (q F H (.refl sm))
theorem tEv.kept {S : Sys} {ρ : Env} {σ : L2.St} {F H : Hp} {t : Tm} {Q : VK} {k : Vl → Prop} (e : EnvOk S ρ σ F H) (sm : Fit F H) (h : PostR ((ev S.run t ρ).bind (keepV (isLoc t))) k (errP S σ H))
    (hk : ∀ u v F' H', k u → Adv F H F' H' → VOk S.K S.fa F' H' v u → FreshV H v u → Q v H') : tEv S t σ H Q := by
  rw [postR_bind] at h
  refine tEv.mk e sm h fun u v F' H' q a vk fr => ?_
  obtain ⟨q, q2⟩ := q.keep
  exact hk u v F' H' q a vk (fresh_kept fr q2)
theorem evB_kept {S : Sys} {ρ : Env} {t : Tm} {k : Vl → Prop} {k' : Bool → Prop} {e : Nat → Prop} (h : PostR ((ev S.run t ρ).bind (keepV (isLoc t))) k e)
    (hk : ∀ u, k u → PostR ((dat u).bind truthD) k' e) : PostR (evB S.run t ρ) k' e := by
  unfold evB
  rw [postR_bind] at h
  rw [postR_bind, postR_bind]
  refine h.mono (fun u _ q => ?_) fun _ _ q => q
  have := hk u q.keep.1
  rw [postR_bind] at this
  exact this
theorem PW.imp' {X : Cx} {e : Expr} {t t' : TT} (h : PW X e t) (i : ∀ σ H Q, t' σ H Q → t σ H Q) : PW X e t' := ⟨fun wh pins s σ H Q I q => h.run wh pins s σ H Q I (i σ H Q q)⟩
theorem good_cons {a : Tm} {r : Tms} (ga : GoodE T n N a) (gr : GoodEs T n N r) : GoodEs T n N (.cons a r) := fun sc S X C xs h => by
  cases xs with
  | nil => simp [chkEs] at h
  | cons e es =>
    simp only [chkEs, Bool.and_eq_true] at h
    obtain ⟨⟨h1, h2⟩, h3⟩ := h
    obtain ⟨g1, g2⟩ := ga sc S X C e h2
    obtain ⟨r1, r2, r3, r4, r5, r6⟩ := gr sc S X C es h3
    have hs := starEach_cons h1 es X.env
    refine ⟨(pa_cons g1 r1 hs).imp fun σ H Q q => ?_, (pa_cons g1 r2 hs).imp fun σ H Q q => ?_, (pa_cons g1 r3 hs).imp fun σ H Q q => ?_, fun _ pos => ?_, fun hl => ?_, by rw [List.all_cons, h1, r6]; rfl⟩
    · obtain ⟨ρ, F, en, sm, q⟩ := q
      simp only [evTs, postR_bind, postR_map1] at q
      refine tEv.mk en sm q fun u v F1 H1 k a1 vk fr => ?_
      obtain ⟨d, hd, k⟩ := k.dat
      refine ⟨ρ, F1, en.adv a1, a1.fh, k.mono (fun ds _ q vs F2 H2 a2 tp => ?_) fun _ _ q => errP.mono q a1.hh⟩
      exact q (v :: vs) F2 H2 (a1.trans a2) (.cons ((vk.adv a2).tp a2.fh hd) tp)
    · obtain ⟨ρ, F, en, sm, q⟩ := q
      simp only [evDs] at q
      rw [postR_bind, postR_bind, postR_bind] at q
      refine tEv.kept en sm q fun u v F1 H1 k a1 vk fr => ?_
      obtain ⟨d, hd, k⟩ := k.dat
      have k := k.plain
      obtain ⟨F2, a2, f2, vk2⟩ := settle a1 vk fr
      rw [postR_map1] at k
      refine ⟨ρ, F2, en.adv a2, a2.fh, k.mono (fun ds _ q vs F3 H3 a3 tp => ?_) fun _ _ q => errP.mono q a1.hh⟩
      exact q (v :: vs) F3 H3 (a2.trans a3) (.cons ((VOk.rp vk2 hd).mono a3.ff) tp)
    · obtain ⟨ρ, F, en, sm, q⟩ := q
      simp only [evAs] at q
      rw [postR_bind] at q
      refine tEv.kept en sm q fun u v F1 H1 k a1 vk fr => ?_
      obtain ⟨F2, a2, f2, vk2⟩ := settle a1 vk fr
      rw [postR_map1] at k
      refine ⟨ρ, F2, en.adv a2, a2.fh, k.mono (fun ds _ q vs F3 H3 a3 tp => ?_) fun _ _ q => errP.mono q a1.hh⟩
      exact q (v :: vs) F3 H3 (a2.trans a3) (.cons (vk2.adv a3) tp)
    · cases r with
      | nil =>
        simp only [chkEs, List.isEmpty_iff] at h3
        subst h3
        refine ⟨⟨(L2.pe_one (pos := pos) (op := .And) g1).imp fun σ H Q q => ?_, (L2.pe_one (pos := pos) (op := .Or) g1).imp fun σ H Q q => ?_⟩, PW.imp' (pw_and1 (pos := pos) g2) fun σ H Q q => ?_, PW.imp' (pw_or1 (pos := pos) g2) fun σ H Q q => ?_⟩
        · obtain ⟨ρ, F, en, sm, q⟩ := q
          rw [evAnd_one] at q
          exact tEv.kept en sm q fun u v F1 H1 k a1 vk fr => k v F1 H1 a1 vk fr
        · obtain ⟨ρ, F, en, sm, q⟩ := q
          rw [evOr_one] at q
          exact tEv.kept en sm q fun u v F1 H1 k a1 vk fr => k v F1 H1 a1 vk fr
        · obtain ⟨ρ, F, en, sm, q⟩ := q
          rw [evAnd_one] at q
          rw [postR_bind, postR_bind] at q
          refine ⟨ρ, F, en, sm, evB_kept q fun u q => ?_⟩
          rw [postR_bind]; exact q
        · obtain ⟨ρ, F, en, sm, q⟩ := q
          rw [evOr_one] at q
          rw [postR_bind, postR_bind] at q
          refine ⟨ρ, F, en, sm, evB_kept q fun u q => ?_⟩
          rw [postR_bind]; exact q
      | cons b r =>
        cases es with
        | nil => simp [chkEs] at h3
        | cons e2 es =>
          obtain ⟨⟨q1, q2⟩, q3, q4⟩ := r4 (by simp) pos
          refine ⟨⟨(pe_andT g1 q1).imp fun σ H Q q => ?_, (pe_orT g1 q2).imp fun σ H Q q => ?_⟩, PW.imp' (pw_and g2 q3) fun σ H Q q => ?_, PW.imp' (pw_or g2 q4) fun σ H Q q => ?_⟩
          · obtain ⟨ρ, F, en, sm, q⟩ := q
            unfold evAnd at q
            rw [postR_bind] at q
            refine tEv.kept en sm q fun u v F1 H1 k a1 vk fr => ?_
            simp only [postR_bind] at k
            obtain ⟨d, hd, k⟩ := k.dat
            obtain ⟨t, ht, k⟩ := k.truth
            rw [C.hK]
            refine ⟨t, tp_truth a1.fh (vk.tp a1.fh hd) ht, ?_⟩
            cases t with
            | true =>
              refine iteT ⟨ρ, F1, en.adv a1, a1.fh, PostR.mono k (fun u _ q v F2 H2 a2 vk2 fr2 => ?_) fun _ _ q => errP.mono q a1.hh⟩
              exact q v F2 H2 (a1.trans a2) vk2 (fr2.back a1.hh)
            | false => exact iteF (k v F1 H1 a1 vk fr)
          · obtain ⟨ρ, F, en, sm, q⟩ := q
            unfold evOr at q
            rw [postR_bind] at q
            refine tEv.kept en sm q fun u v F1 H1 k a1 vk fr => ?_
            simp only [postR_bind] at k
            obtain ⟨d, hd, k⟩ := k.dat
            obtain ⟨t, ht, k⟩ := k.truth
            rw [C.hK]
            refine ⟨t, tp_truth a1.fh (vk.tp a1.fh hd) ht, ?_⟩
            cases t with
            | false =>
              refine iteF ⟨ρ, F1, en.adv a1, a1.fh, PostR.mono k (fun u _ q v F2 H2 a2 vk2 fr2 => ?_) fun _ _ q => errP.mono q a1.hh⟩
              exact q v F2 H2 (a1.trans a2) vk2 (fr2.back a1.hh)
            | true => exact iteT (k v F1 H1 a1 vk fr)
          · obtain ⟨ρ, F, en, sm, q⟩ := q
            unfold evAnd at q
            rw [postR_bind, postR_bind, postR_bind] at q
            refine ⟨ρ, F, en, sm, evB_kept q fun u q => ?_⟩
            simp only [postR_bind] at q ⊢
            refine PostR.mono q (fun d hd q => ?_) fun _ _ q => q
            refine PostR.mono q (fun t ht q F1 H1 a1 => ?_) fun _ _ q => q
            cases t with
            | true =>
              refine iteT ⟨ρ, F1, en.adv a1, a1.fh, ?_⟩
              rw [postR_bind, postR_bind]
              exact PostR.mono q (fun u _ q => PostR.mono q (fun d _ q => PostR.mono q (fun t _ q F2 H2 a2 => q F2 H2 (a1.trans a2)) fun _ _ q => errP.mono q a1.hh) fun _ _ q => errP.mono q a1.hh) fun _ _ q => errP.mono q a1.hh
            | false =>
              refine iteF ?_
              have q : PostR (dat u) (fun d => PostR (truthD d) (fun b => ∀ F' H', Adv F H F' H' → Q b H') (errP S σ H)) (errP S σ H) := q
              rw [hd] at q
              have q : PostR (truthD d) (fun b => ∀ F' H', Adv F H F' H' → Q b H') (errP S σ H) := q
              rw [ht] at q
              exact q F1 H1 a1
          · obtain ⟨ρ, F, en, sm, q⟩ := q
            unfold evOr at q
            rw [postR_bind, postR_bind, postR_bind] at q
            refine ⟨ρ, F, en, sm, evB_kept q fun u q => ?_⟩
            simp only [postR_bind] at q ⊢
            refine PostR.mono q (fun d hd q => ?_) fun _ _ q => q
            refine PostR.mono q (fun t ht q F1 H1 a1 => ?_) fun _ _ q => q
            cases t with
            | false =>
              refine iteF ⟨ρ, F1, en.adv a1, a1.fh, ?_⟩
              rw [postR_bind, postR_bind]
              exact PostR.mono q (fun u _ q => PostR.mono q (fun d _ q => PostR.mono q (fun t _ q F2 H2 a2 => q F2 H2 (a1.trans a2)) fun _ _ q => errP.mono q a1.hh) fun _ _ q => errP.mono q a1.hh) fun _ _ q => errP.mono q a1.hh
            | true =>
              refine iteT ?_
              have q : PostR (dat u) (fun d => PostR (truthD d) (fun b => ∀ F' H', Adv F H F' H' → Q b H') (errP S σ H)) (errP S σ H) := q
              rw [hd] at q
              have q : PostR (truthD d) (fun b => ∀ F' H', Adv F H F' H' → Q b H') (errP S σ H) := q
              rw [ht] at q
              exact q F1 H1 a1
    · cases r with
      | nil =>
        simp only [chkEs, List.isEmpty_iff] at h3
        subst h3
        exact ⟨fun pins s σ H Q I q => by
          obtain ⟨ρ, F, en, sm, q⟩ := q
          exact (pts_one g2).run pins s σ H Q I ⟨ρ, F, en, sm, q⟩⟩
      | cons b r =>
        cases es with
        | nil => simp [chkEs] at h3
        | cons e2 es => simp at hl
end
end Wv
namespace Wv
open PySem PySem.Spec PyProof.Rows L2
open LamX (Tabs TabS ExtN CodeO TabB)
variable [Tbs]
section
variable {T : Tx} {n : Nat} {N : List Str}
theorem chkEs_ne {sc : Scope} {es : Tms} {xs : List Expr} (h : chkEs T N sc es xs = true) (hx : xs = []) : es = .nil := by
  subst hx
  cases es with
  | nil => rfl
  | cons a r => simp [chkEs] at h
theorem evAnd_nil (run : Nat → List Vl → R Vl) (ρ : Env) : evAnd run .nil ρ = .bad := by unfold evAnd; rfl
theorem evOr_nil (run : Nat → List Vl → R Vl) (ρ : Env) : evOr run .nil ρ = .bad := by unfold evOr; rfl
theorem pe_false {X : Cx} {e : Expr} {t : TE} (h : ∀ σ H Q, ¬ t σ H Q) : PE X e t := ⟨fun pins s σ H Q I q => (h σ H Q q).elim⟩
theorem pt_false {X : Cx} {e : Expr} {t : TT} (h : ∀ σ H Q, ¬ t σ H Q) : PT X e t := ⟨fun pins s σ H Q I q => (h σ H Q q).elim⟩
theorem good_and {es : Tms} (g : GoodEs T n N es) : GoodE T n N (.and es) := fun sc S X C e h => by
  simp only [chkE] at h
  split at h
  · rename_i xs he
    obtain ⟨pos, rfl⟩ := asBool_eq he
    obtain ⟨_, _, _, g4, _⟩ := g sc S X C xs h
    by_cases hx : xs = []
    · have hn := chkEs_ne h hx
      subst hn
      refine ⟨pe_false fun σ H Q q => ?_, pt_false fun σ H Q q => ?_⟩
      · obtain ⟨ρ, F, en, sm, q⟩ := q
        simp only [ev, evAnd_nil] at q
        exact q
      · obtain ⟨ρ, F, en, sm, q⟩ := q
        simp only [evB, ev, evAnd_nil] at q
        exact q
    · obtain ⟨⟨q1, _⟩, q3, _⟩ := g4 hx pos
      refine ⟨q1.imp fun σ H Q q => ?_, q3.pt.imp fun σ H Q q => ?_⟩
      · obtain ⟨ρ, F, en, sm, q⟩ := q
        simp only [ev] at q
        exact ⟨ρ, F, en, sm, q.mono (fun u _ k v F' H' a vk fr => k v F' H' a vk fun _ => fr) fun _ _ q => q⟩
      · obtain ⟨ρ, F, en, sm, q⟩ := q
        simp only [evB, ev] at q
        exact ⟨ρ, F, en, sm, q⟩
  · cases h
theorem good_or {es : Tms} (g : GoodEs T n N es) : GoodE T n N (.or es) := fun sc S X C e h => by
  simp only [chkE] at h
  split at h
  · rename_i xs he
    obtain ⟨pos, rfl⟩ := asBool_eq he
    obtain ⟨_, _, _, g4, _⟩ := g sc S X C xs h
    by_cases hx : xs = []
    · have hn := chkEs_ne h hx
      subst hn
      refine ⟨pe_false fun σ H Q q => ?_, pt_false fun σ H Q q => ?_⟩
      · obtain ⟨ρ, F, en, sm, q⟩ := q
        simp only [ev, evOr_nil] at q
        exact q
      · obtain ⟨ρ, F, en, sm, q⟩ := q
        simp only [evB, ev, evOr_nil] at q
        exact q
    · obtain ⟨⟨_, q1⟩, _, q3⟩ := g4 hx pos
      refine ⟨q1.imp fun σ H Q q => ?_, q3.pt.imp fun σ H Q q => ?_⟩
      · obtain ⟨ρ, F, en, sm, q⟩ := q
        simp only [ev] at q
        exact ⟨ρ, F, en, sm, q.mono (fun u _ k v F' H' a vk fr => k v F' H' a vk fun _ => fr) fun _ _ q => q⟩
      · obtain ⟨ρ, F, en, sm, q⟩ := q
        simp only [evB, ev] at q
        exact ⟨ρ, F, en, sm, q⟩
  · cases h
theorem pt_ife {X : Cx} {c a b : Expr} {pos : Pos} {tc ta tb : TT} (hc : PT X c tc) (ha : PT X a ta) (hb : PT X b tb) : PT X (.IfExp c a b pos) (fun σ H Q => tc σ H fun k H1 => if k = true then ta σ H1 Q else tb σ H1 Q) := ⟨fun pins s σ H Q I q => by
  refine isTrue_IfExp (thn (hc.run pins s σ H _ I q) fun d s1 ⟨H1, I1, q1⟩ => ?_)
  cases d with
  | true => exact ha.run pins s1 σ H1 Q I1 q1
  | false => exact hb.run pins s1 σ H1 Q I1 q1⟩
theorem good_ite {c a b : Tm} (gc : GoodE T n N c) (ga : GoodE T n N a) (gb : GoodE T n N b) : GoodE T n N (.ite c a b) := fun sc S X C e h => by
  simp only [chkE] at h
  split at h
  · rename_i x y z he
    simp only [Bool.and_eq_true] at h
    obtain ⟨⟨h1, h2⟩, h3⟩ := h
    obtain ⟨pos, rfl⟩ := asIf_eq he
    obtain ⟨c1, c2⟩ := gc sc S X C x h1
    obtain ⟨a1, a2⟩ := ga sc S X C y h2
    obtain ⟨b1, b2⟩ := gb sc S X C z h3
    refine ⟨(pe_ifExp c2 a1 b1).imp fun σ H Q q => ?_, (pt_ife c2 a2 b2).imp fun σ H Q q => ?_⟩
    · obtain ⟨ρ, F, en, sm, q⟩ := q
      simp only [ev] at q
      rw [postR_bind] at q
      refine ⟨ρ, F, en, sm, PostR.mono q (fun t _ q F1 H1 ad => ?_) fun _ _ q => q⟩
      cases t with
      | true =>
        refine iteT (tEv.kept (en.adv ad) ad.fh (PostR.mono q (fun _ _ q => q) fun _ _ q => errP.mono q ad.hh) fun u v F2 H2 k a2 vk fr => ?_)
        exact k v F2 H2 (ad.trans a2) vk fun _ => fr.back ad.hh
      | false =>
        refine iteF (tEv.kept (en.adv ad) ad.fh (PostR.mono q (fun _ _ q => q) fun _ _ q => errP.mono q ad.hh) fun u v F2 H2 k a2 vk fr => ?_)
        exact k v F2 H2 (ad.trans a2) vk fun _ => fr.back ad.hh
    · obtain ⟨ρ, F, en, sm, q⟩ := q
      simp only [evB, ev] at q
      rw [postR_bind, postR_bind, postR_bind] at q
      refine ⟨ρ, F, en, sm, PostR.mono q (fun t _ q F1 H1 ad => ?_) fun _ _ q => q⟩
      cases t with
      | true =>
        refine iteT ⟨ρ, F1, en.adv ad, ad.fh, ?_⟩
        refine evB_kept (PostR.mono q (fun _ _ q => q) fun _ _ q => errP.mono q ad.hh) fun u q => ?_
        rw [postR_bind]
        exact PostR.mono q (fun d _ q => PostR.mono q (fun t _ q F2 H2 a2 => q F2 H2 (ad.trans a2)) fun _ _ q => errP.mono q ad.hh) fun _ _ q => errP.mono q ad.hh
      | false =>
        refine iteF ⟨ρ, F1, en.adv ad, ad.fh, ?_⟩
        refine evB_kept (PostR.mono q (fun _ _ q => q) fun _ _ q => errP.mono q ad.hh) fun u q => ?_
        rw [postR_bind]
        exact PostR.mono q (fun d _ q => PostR.mono q (fun t _ q F2 H2 a2 => q F2 H2 (ad.trans a2)) fun _ _ q => errP.mono q ad.hh) fun _ _ q => errP.mono q ad.hh
  · cases h
theorem evDs_len {S : Sys} : ∀ (es : Tms) (ρ : Env) (ds : List PyData), evDs S.run es ρ = .ok ds → ds.length = tmsLen es
  | .nil, ρ, ds, h => by unfold evDs at h; cases h; rfl
  | .cons a r, ρ, ds, h => by
    unfold evDs at h
    obtain ⟨x, _, h⟩ := bind_ok h
    obtain ⟨ys, h1, rfl⟩ := map1_ok h
    show ys.length + 1 = _
    rw [evDs_len r ρ ys h1]
    rfl
theorem chkEs_len {sc : Scope} : ∀ (es : Tms) (xs : List Expr), chkEs T N sc es xs = true → xs.length = tmsLen es
  | .nil, xs, h => by simp only [chkEs, List.isEmpty_iff] at h; subst h; rfl
  | .cons a r, xs, h => by
    cases xs with
    | nil => simp [chkEs] at h
    | cons e es =>
      simp only [chkEs, Bool.and_eq_true] at h
      show es.length + 1 = tmsLen r + 1
      rw [chkEs_len r es h.2]
theorem line1000 : 1000 ≤ sizeLine := by rw [sizeLine_eq]; decide
theorem good_tup {es : Tms} (g : GoodEs T n N es) : GoodE T n N (.tup es) := fun sc S X C e h => by
  simp only [chkE] at h
  split at h
  · rename_i xs he
    simp only [Bool.and_eq_true, decide_eq_true_eq] at h
    obtain ⟨k, pos, rfl⟩ := asTup_eq he
    obtain ⟨_, g2, _⟩ := g sc S X C xs h.1
    have hl := chkEs_len es xs h.1
    have h4 : PE X (.Tuple xs k pos) (tEv S (.tup es)) := (pe_tup g2).imp fun σ H Q q => by
      obtain ⟨ρ, F, en, sm, q⟩ := q
      simp only [ev, postR_bind] at q
      refine ⟨ρ, F, en, sm, PostR.mono q (fun ds hd q vs F1 H1 ad r => ?_) fun _ _ q => q⟩
      have e1 := evDs_len es ρ ds hd
      have e2 := r.length
      have hz : vs.length ≤ sizeLine := Nat.le_trans (by omega) line1000
      exact ⟨hz, fun p hp => q _ _ _ (ad.trans (Adv.lay ad.fh hp)) (.tup (SqT.of upd_same) hz (r.mono (Adv.lay ad.fh hp).ff)) fun _ => .fz⟩
    exact ⟨h4, pt_of C.hK h4 rfl⟩
  · cases h
theorem good_lst {es : Tms} (g : GoodEs T n N es) : GoodE T n N (.lst es) := fun sc S X C e h => by
  simp only [chkE] at h
  split at h
  · rename_i xs he
    simp only [Bool.and_eq_true, decide_eq_true_eq] at h
    obtain ⟨pos, rfl⟩ := asLst_eq he
    obtain ⟨_, g2, _⟩ := g sc S X C xs h.1
    have hl := chkEs_len es xs h.1
    have h4 : PE X (.List xs pos) (tEv S (.lst es)) := (pe_lst g2).imp fun σ H Q q => by
      obtain ⟨ρ, F, en, sm, q⟩ := q
      simp only [ev, postR_bind] at q
      refine ⟨ρ, F, en, sm, PostR.mono q (fun ds hd q vs F1 H1 ad r => ?_) fun _ _ q => q⟩
      have e1 := evDs_len es ρ ds hd
      have e2 := r.length
      have hz : vs.length ≤ sizeLine := Nat.le_trans (by omega) line1000
      have w : Want S.K S.fa F1 H1 Q (.ow (.list ds)) := Want.of ad q
      exact ⟨hz, w.lst ad.fh r hz⟩
    exact ⟨h4, pt_of C.hK h4 rfl⟩
  · cases h
theorem good_ix {a b : Tm} (ga : GoodE T n N a) (gb : GoodE T n N b) : GoodE T n N (.ix a b) := fun sc S X C e h => by
  simp only [chkE] at h
  split at h
  · rename_i x y he
    simp only [Bool.and_eq_true] at h
    obtain ⟨⟨h1, h2⟩, h3⟩ := h
    obtain ⟨pos, rfl⟩ := asSub_eq he
    have r : IxR X (rD S.K S.fa ixD) := by rw [← C.hK]; exact o_ix
    have h4 : PE X (.Subscript x y pos) (tEv S (.ix a b)) := (pe_ix r (ga sc S X C x h1).1 (gb sc S X C y h2).1 (plainIx h3)).imp fun σ H Q q => by
      obtain ⟨ρ, F, en, sm, q⟩ := q
      simp only [ev, postR_bind, postR_calm] at q
      refine tEv.mk en sm q fun u v F1 H1 k a1 vk fr => ?_
      obtain ⟨x, hx, k⟩ := k.dat
      refine tEv.mk (en.adv a1) a1.fh (k.mono (fun _ _ q => q) fun _ _ q => errP.mono q a1.hh) fun u2 v2 F2 H2 k2 a2 vk2 fr2 => ?_
      obtain ⟨y, hy, k2⟩ := k2.dat
      exact ⟨F2, x, y, a2.fh, (vk.adv a2).tp a2.fh hx, vk2.tp a2.fh hy, k2.mono (fun u _ q => Want.of (a1.trans a2) q) fun _ _ q => q⟩
    exact ⟨h4, pt_of C.hK h4 rfl⟩
  · cases h
/-- a slice's end -/
def tBnd (S : Sys) (es : Tms) : TO := fun σ H Q => ∃ ρ F, EnvOk S ρ σ F H ∧ Fit F H ∧ PostR ((evTs S.run es ρ).bind bndD) (fun o => ∀ F' H', Adv F H F' H' → Q o H') (errP S σ H)
theorem po_ok {es : Tms} (g : GoodEs T n N es) {sc : Scope} {S : Sys} {X : Cx} (C : Ctx T n N sc S X) {l : Option Expr} (h : chkEs T N sc es l.toList = true) (gt : ∀ e, l = some e → ∀ a r, es = .cons a r → PE X e (tEv S a)) : PO X l (tBnd S es) := by
  cases l with
  | none =>
    cases es with
    | cons a r => simp [chkEs] at h
    | nil =>
      refine ⟨fun pins s σ H Q I q => po_none.run pins s σ H Q I ?_⟩
      obtain ⟨ρ, F, en, sm, q⟩ := q
      unfold evTs at q
      exact q F H (.refl sm)
  | some e =>
    cases es with
    | nil => simp [chkEs] at h
    | cons a r =>
      cases r with
      | cons b r => simp [chkEs] at h
      | nil =>
        refine ⟨fun pins s σ H Q I q => (po_some (gt e rfl a .nil rfl)).run pins s σ H Q I ?_⟩
        obtain ⟨ρ, F, en, sm, q⟩ := q
        unfold evTs at q
        simp only [postR_bind, postR_map1] at q
        refine tEv.mk en sm q fun u v F1 H1 k a1 vk fr => ?_
        obtain ⟨d, hd, k⟩ := k.dat
        unfold evTs at k
        have t := vk.tp a1.fh hd
        cases t with
        | int i => exact ⟨i, rfl, k F1 H1 a1⟩
        | _ => exact k.elim
theorem good_sl {a : Tm} {lo hi : Tms} (ga : GoodE T n N a) (gl : GoodEs T n N lo) (gh : GoodEs T n N hi) (el : ∀ b r, lo = .cons b r → GoodE T n N b) (eh : ∀ b r, hi = .cons b r → GoodE T n N b) : GoodE T n N (.sl a lo hi) := fun sc S X C e h => by
  simp only [chkE] at h
  split at h
  · rename_i x y he
    split at h
    · rename_i l u hs
      simp only [Bool.and_eq_true] at h
      obtain ⟨⟨h1, h2⟩, h3⟩ := h
      obtain ⟨pos, rfl⟩ := asSub_eq he
      obtain ⟨pos2, rfl⟩ := asSlice_eq hs
      have p1 : PO X l (tBnd S lo) := po_ok gl C h2 fun e hl b r hr => by
        subst hl hr
        simp only [Option.toList, chkEs, Bool.and_eq_true] at h2
        exact (el b r rfl sc S X C e h2.1.2).1
      have p2 : PO X u (tBnd S hi) := po_ok gh C h3 fun e hl b r hr => by
        subst hl hr
        simp only [Option.toList, chkEs, Bool.and_eq_true] at h3
        exact (eh b r rfl sc S X C e h3.1.2).1
      have r : SlR X (rSl3 S.K S.fa) := by rw [← C.hK]; exact o_sl
      have h4 : PE X (.Subscript x (.Slice l u none pos2) pos) (tEv S (.sl a lo hi)) := (pe_slice r (ga sc S X C x h1).1 p1 p2).imp fun σ H Q q => by
        obtain ⟨ρ, F, en, sm, q⟩ := q
        simp only [ev] at q
        rw [postR_bind, postR_bind] at q
        refine tEv.mk en sm q fun u v F1 H1 k a1 vk fr => ?_
        obtain ⟨x, hx, k⟩ := k.dat
        rw [postR_bind] at k
        refine ⟨ρ, F1, en.adv a1, a1.fh, PostR.mono k (fun o _ k F2 H2 a2 => ?_) fun _ _ q => errP.mono q a1.hh⟩
        rw [postR_bind] at k
        refine ⟨ρ, F2, (en.adv a1).adv a2, a2.fh, PostR.mono k (fun o2 _ k F3 H3 a3 => ?_) fun _ _ q => errP.mono (errP.mono q a1.hh) a2.hh⟩
        rw [postR_calm] at k
        exact ⟨F3, x, a3.fh, ((vk.adv a2).adv a3).tp a3.fh hx, PostR.mono k (fun u _ q => Want.of ((a1.trans a2).trans a3) q) fun _ _ q => q⟩
      exact ⟨h4, pt_of C.hK h4 rfl⟩
    · cases h
  · cases h
end
end Wv
namespace Wv
open PySem PySem.Spec PyProof.Rows L2
open LamX (Tabs TabS ExtN CodeO TabB)
variable [Tbs]
section
variable {T : Tx} {n : Nat} {N : List Str}
theorem gl_of {sc : Scope} {S : Sys} {X : Cx} (C : Ctx T n N sc S X) {x : Str} (h : glB sc x = true) : Gl X x := by
  show X.env.scope.names.lookup x = _
  rw [C.hsc]; exact glB_ok h
theorem ty_boot (t : Ty) : bootBuiltins (tyNm t) = some (.type (tyS t)) := by cases t <;> decide +kernel
theorem ty_blt (t : Ty) : tyNm t ∈ bltN := by cases t <;> decide +kernel
theorem ty_name (t : Ty) : tyNm t ≠ "__name__" := by cases t <;> decide +kernel
theorem ty_dbg (t : Ty) : (tyNm t == ("__debug__" : Str)) = false := by cases t <;> decide +kernel
theorem pe_ty {sc : Scope} {S : Sys} {X : Cx} (C : Ctx T n N sc S X) {t : Ty} {e : Expr} (h : chkTy sc t e = true) : PE X e (tC (.ty (tyS t))) ∧ notStar e = true := by
  unfold chkTy at h
  split at h
  · rename_i x hx
    simp only [Bool.and_eq_true, decide_eq_true_eq] at h
    obtain ⟨rfl, h2⟩ := h
    obtain ⟨p, rfl⟩ := asName_eq hx
    exact ⟨pe_bltn (gl_of C h2) (C.bl _ (ty_blt t)) (ty_boot t) rfl (ty_name t) (ty_dbg t), rfl⟩
  · cases h
def tTysA (ts : List Ty) : TA := fun _ H Q => Q (ts.map fun t => V.ty (tyS t)) H
theorem pa_tys {sc : Scope} {S : Sys} {X : Cx} (C : Ctx T n N sc S X) : ∀ (ts : List Ty) (es : List Expr), chkTys sc ts es = true → PA X es (tTysA ts)
  | [], [], _ => pa_nil
  | [], _ :: _, h => by cases h
  | _ :: _, [], h => by cases h
  | t :: ts, e :: es, h => by
    simp only [chkTys, Bool.and_eq_true] at h
    obtain ⟨h1, h2⟩ := pe_ty C h.1
    exact (pa_cons h1 (pa_tys C ts es h.2) (starEach_cons h2 es X.env)).imp fun σ H Q q => q
theorem chkTys_len {sc : Scope} : ∀ (ts : List Ty) (es : List Expr), chkTys sc ts es = true → ts.length = es.length
  | [], [], _ => rfl
  | [], _ :: _, h => by cases h
  | _ :: _, [], h => by cases h
  | t :: ts, e :: es, h => by
    simp only [chkTys, Bool.and_eq_true] at h
    show ts.length + 1 = es.length + 1
    rw [chkTys_len ts es h.2]
theorem callR_imp {X : Cx} {f : Value} {r r' : List V → Hp → VK → Prop} (h : CallR X f r) (i : ∀ vs H Q, r' vs H Q → r vs H Q) : CallR X f r' := fun pins s σ H vs us Q I rs q => h pins s σ H vs us Q I rs (i _ _ _ q)
theorem notStar_tup {es : List Expr} {k : Nat} {p : Pos} : notStar (.Tuple es k p) = true := rfl
theorem good_isi {a : Tm} {ts : List Ty} (ga : GoodE T n N a) : GoodE T n N (.isi a ts) := fun sc S X C e h => by
  simp only [chkE] at h
  split at h
  · rename_i f x y he
    simp only [Bool.and_eq_true, decide_eq_true_eq, Bool.or_eq_true] at h
    obtain ⟨⟨⟨⟨rfl, h1⟩, h2⟩, h3⟩, h4⟩ := h
    obtain ⟨q, pos, rfl⟩ := asCall_eq he
    have g1 := (ga sc S X C x h3).1
    have hm : X.mg "isinstance" = none := C.bl _ (by decide +kernel)
    have rule : CallR X (.builtin "isinstance") (rIsiD S.K S.fa ts) := by rw [← C.hK]; exact c_isi ts
    have fin : ∀ {ty : TE}, PE X y ty → notStar y = true → (∀ σ H Q, (∃ F, Fit F H ∧ ∀ w F' H', Adv F H F' H' → ((∃ t, ts = [t] ∧ w = .ty (tyS t)) ∨ ∃ p, w = .ref p ∧ H' p = some (.tup (ts.map fun t => V.ty (tyS t)))) → Q w H') → ty σ H Q) →
        PE X (.Call (.Name "isinstance" q) [x, y] [] pos) (tEv S (.isi a ts)) := fun {ty} py ny hy => by
      refine (pe_callB rule (gl_of C h1) hm (by decide +kernel) (pa_cons g1 (pa_cons py pa_nil (starEach_cons ny [] X.env)) (starEach_cons h2 [y] X.env)) (by decide) (by decide) (starEach_cons h2 [y] X.env) (star_any [y] pos X.env (by simp [ny]))).imp fun σ H Q q => ?_
      obtain ⟨ρ, F, en, sm, q⟩ := q
      simp only [ev, postR_bind, postR_calm] at q
      refine tEv.mk en sm q fun u v F1 H1 k a1 vk fr => ?_
      obtain ⟨d, hd, k⟩ := k.dat
      refine hy _ _ _ ⟨F1, a1.fh, fun w F2 H2 a2 hw => ?_⟩
      refine ⟨F2, d, v, a2.fh, (vk.adv a2).tp a2.fh hd, PostR.mono k (fun u _ q => Want.of (a1.trans a2) q) fun _ _ q => q, ?_⟩
      rcases hw with ⟨t, e, rfl⟩ | ⟨p, rfl, hp⟩
      · exact .inl ⟨t, e, rfl⟩
      · exact .inr ⟨p, rfl, hp⟩
    have h4' : PE X (.Call (.Name "isinstance" q) [x, y] [] pos) (tEv S (.isi a ts)) := by
      rcases h4 with h4 | h4
      · split at h4
        · rename_i t
          obtain ⟨p1, p2⟩ := pe_ty C h4
          exact fin p1 p2 fun σ H Q ⟨F, sm, q⟩ => q _ F H (.refl sm) (.inl ⟨t, rfl, rfl⟩)
        · cases h4
      · split at h4
        · rename_i ys hy
          obtain ⟨k, p, rfl⟩ := asTup_eq hy
          simp only [Bool.and_eq_true, decide_eq_true_eq] at h4
          refine fin (pe_tup (pa_tys C ts ys h4.1)) rfl fun σ H Q ⟨F, sm, q⟩ => ⟨?_, fun p hp => ?_⟩
          · rw [List.length_map, chkTys_len ts ys h4.1]; exact Nat.le_trans h4.2 line1000
          · exact q _ _ _ (Adv.lay sm hp) (.inr ⟨p, rfl, upd_same⟩)
        · cases h4
    exact ⟨h4', pt_of C.hK h4' rfl⟩
  · cases h
/-! ### built-ins -/
theorem bi_blt (f : Bi) : biN f ∈ bltN := by cases f <;> decide +kernel
theorem bi_name (f : Bi) : biN f ≠ "__name__" := by cases f <;> decide +kernel
theorem bi_dbg (f : Bi) : (biN f == ("__debug__" : Str)) = false := by cases f <;> decide +kernel
theorem t_bi {S : Sys} {f : Bi} {es : Tms} (σ : L2.St) (H : Hp) (Q : VK) (q : tEv S (.bi f es) σ H Q) : tCB (rBi S.K S.fa f) (tTs S es) σ H Q := by
  obtain ⟨ρ, F, en, sm, q⟩ := q
  simp only [ev, postR_bind, postR_calm] at q
  exact ⟨ρ, F, en, sm, PostR.mono q (fun ds _ q vs F1 H1 a1 tp => ⟨F1, ds, a1.fh, tp, PostR.mono q (fun u _ q => Want.of a1 q) fun _ _ q => q⟩) fun _ _ q => q⟩
theorem c_bad {X : Cx} {K : PySem.W.Frag} {fa : Nat → Option Addr} {f : Bi} {v : Value} (h : ∀ d, bi1 f d = .bad) : CallR X v (rBi K fa f) := fun pins s σ H vs us Q I r q => by
  obtain ⟨F, ds, sm, td, q⟩ := q
  obtain ⟨w, hw, q⟩ := q.get
  obtain ⟨d, rfl⟩ := bi_one hw
  rw [show biD f [d] = bi1 f d from rfl, h] at hw
  cases hw
theorem c_str {X : Cx} {fa : Nat → Option Addr} : CallR X (.type "str") (rBi X.K fa .str) := by
  intro pins s σ H vs us Q I r h
  obtain ⟨F, ds, sm, td, q⟩ := h
  obtain ⟨w, hw, q⟩ := q.get
  obtain ⟨d, rfl⟩ := bi_one hw
  obtain ⟨x, rfl, tx⟩ := tp1 td
  change strD _ = _ at hw
  cases tx with
  | int i =>
    simp only [strD] at hw
    split at hw
    · rename_i hs'
      have hs'' := smallI_ok hs'
      have hs : i.natAbs < 2 ^ 64 := by omega
      cases hw
      have hl : i.natAbs.log2 < 1920 := by
        by_cases h0 : i.natAbs = 0
        · rw [h0]; decide
        · have := (Nat.log2_lt h0).mpr hs
          omega
      refine call_str_int pins s σ H _ us Q I r ⟨i, rfl, hl, q.str sm ?_ (strOk_num i)⟩
      exact int_text_fits10 (Nat.lt_of_lt_of_le hs (by decide +kernel))
    · cases hw
  | _ => cases hw
theorem good_bi {f : Bi} {es : Tms} (g : GoodEs T n N es) : GoodE T n N (.bi f es) := fun sc S X C e h => by
  simp only [chkE] at h
  split at h
  · rename_i nm xs he
    simp only [Bool.and_eq_true, decide_eq_true_eq] at h
    obtain ⟨⟨⟨rfl, h1⟩, h2⟩, h3⟩ := h
    obtain ⟨p, pos, rfl⟩ := asCall_eq he
    obtain ⟨g1, _, _, _, _, g6⟩ := g sc S X C xs h2
    obtain ⟨x, rfl⟩ : ∃ x, xs = [x] := by
      match xs, h3 with
      | [x], _ => exact ⟨x, rfl⟩
    have hs : notStar x = true := by simpa using g6
    have hm : X.mg (biN f) = none := C.bl _ (bi_blt f)
    have fB : ∀ {id : String}, bootBuiltins (biN f) = some (.builtin id) → CallR X (.builtin id) (rBi S.K S.fa f) → PE X (.Call (.Name (biN f) p) [x] [] pos) (tEv S (.bi f es)) := fun hb rule =>
      (pe_callB rule (gl_of C h1) hm hb g1 (bi_name f) (bi_dbg f) (starEach_cons hs [] X.env) rfl).imp t_bi
    have fT : ∀ {id : String}, bootBuiltins (biN f) = some (.type id) → CallR X (.type id) (rBi S.K S.fa f) → PE X (.Call (.Name (biN f) p) [x] [] pos) (tEv S (.bi f es)) := fun hb rule =>
      (pe_callTy rule (gl_of C h1) hm hb g1 (bi_name f) (bi_dbg f) (starEach_cons hs [] X.env) rfl).imp t_bi
    have h4 : PE X (.Call (.Name (biN f) p) [x] [] pos) (tEv S (.bi f es)) := by
      have hK := C.hK
      cases f with
      | len => exact fB (id := "len") (by decide +kernel) (by rw [← hK]; exact c_len)
      | all => exact fB (id := "all") (by decide +kernel) (by rw [← hK]; exact c_all C.calm)
      | any => exact fB (id := "any") (by decide +kernel) (by rw [← hK]; exact c_any C.calm)
      | sum => exact fB (id := "sum") (by decide +kernel) (by rw [← hK]; exact c_sum C.calm)
      | max => exact fB (id := "max") (by decide +kernel) (by rw [← hK]; exact c_max C.calm C.hu)
      | min => exact fB (id := "min") (by decide +kernel) (by rw [← hK]; exact c_min C.calm C.hu)
      | sorted => exact fB (id := "sorted") (by decide +kernel) (by rw [← hK]; exact c_sorted C.hu)
      | tuple => exact fT (id := "tuple") (by decide +kernel) (by rw [← hK]; exact c_tuple)
      | list => exact fT (id := "list") (by decide +kernel) (by rw [← hK]; exact c_list)
      | int => exact fT (id := "int") (by decide +kernel) (by rw [← hK]; exact c_int)
      | str => exact fT (id := "str") (by decide +kernel) (by rw [← hK]; exact c_str)
      | repr => exact fB (id := "repr") (by decide +kernel) (by rw [← hK]; exact c_repr)
    exact ⟨h4, pt_of C.hK h4 rfl⟩
  · cases h
/-! ### [x] * k -/
theorem rp_repl {K : PySem.W.Frag} {F : Hp} {v : V} {d : PyData} (h : Rp K F v d) : ∀ k, RpAll K F (List.replicate k v) (List.replicate k d)
  | 0 => .nil
  | k + 1 => .cons h (rp_repl h k)
theorem rep_one {α : Type} (x : α) : ∀ k, (List.replicate k [x]).flatten = List.replicate k x
  | 0 => rfl
  | k + 1 => by rw [List.replicate_succ, List.flatten_cons, rep_one x k]; rfl
theorem good_rep {a k : Tm} (ga : GoodE T n N a) (gk : GoodE T n N k) : GoodE T n N (.rep a k) := fun sc S X C e h => by
  simp only [chkE] at h
  split at h
  · rename_i l r he
    split at h
    · rename_i x hx
      simp only [Bool.and_eq_true] at h
      obtain ⟨⟨h1, h2⟩, h3⟩ := h
      obtain ⟨pos, rfl⟩ := asBin_eq he
      obtain ⟨pos2, rfl⟩ := asLst_eq hx
      have h4 : PE X (.BinOp (.List [x] pos2) .Mult r pos) (tEv S (.rep a k)) := (pe_op op_rep (pe_lst (pa_cons (ga sc S X C x h2).1 pa_nil (starEach_cons h1 [] X.env))) (gk sc S X C r h3).1).imp fun σ H Q q => by
        obtain ⟨ρ, F, en, sm, q⟩ := q
        simp only [ev] at q
        rw [postR_bind, postR_bind, postR_bind] at q
        refine tEv.kept en sm q fun u v F1 H1 k a1 vk fr => ?_
        obtain ⟨d, hd, k⟩ := k.dat
        have k := k.plain
        obtain ⟨F2, a2, f2, vk2⟩ := settle a1 vk fr
        rw [postR_bind, postR_bind] at k
        refine ⟨Nat.le_trans (by decide : 1 ≤ 1000) line1000, fun p hp => ?_⟩
        have a3 : Adv F2 H1 F2 (upd H1 p (.lst [v])) := Adv.own a2.fh hp
        refine tEv.mk ((en.adv a2).adv a3) a3.fh (PostR.mono k (fun _ _ q => q) fun _ _ q => errP.mono (errP.mono q a1.hh) a3.hh) fun u2 v2 F4 H4 k2 a4 vk4 fr4 => ?_
        obtain ⟨y, hy, k2⟩ := k2.dat
        rw [postR_calm] at k2
        obtain ⟨w, hw, k2⟩ := k2.get
        have t := vk4.tp a4.fh hy
        cases t with
        | int i =>
          simp only [repD] at hw
          split at hw
          · rename_i hi'
            have hi : i ≤ (lim : Int) ∧ -(lim : Int) ≤ i := ⟨(inN_iff.mp hi').2, (inN_iff.mp hi').1⟩
            cases hw
            have hl : i.toNat ≤ lim := by have := hi.1; omega
            have hz := Nat.le_trans hl lim_line
            have hlim : (lim : Int) = 1000000 := rfl
            have r4 : Rp S.K F4 v d := ((VOk.rp vk2 hd).mono a3.ff).mono a4.ff
            have w : Want S.K S.fa F4 H4 Q (.ow (.list (List.replicate i.toNat d))) := Want.of ((a2.trans a3).trans a4) k2
            refine ⟨p, i, [v], rfl, rfl, a4.hh.at_ upd_same, by omega, by omega, by simpa using hz, ?_⟩
            rw [rep_one]
            exact w.lst a4.fh (rp_repl r4 _) (by rw [List.length_replicate]; exact hz)
          · cases hw
        | _ => cases hw
      exact ⟨h4, pt_of C.hK h4 rfl⟩
    · cases h
  · cases h
/-! ### a def is called -/
theorem VAll.resys {S S' : Sys} {F H : Hp} (hK : S'.K = S.K) (hf : S'.fa = S.fa) : ∀ {vs : List V} {us : List Vl}, VAll S F H vs us → VAll S' F H vs us
  | _, _, .nil => .nil
  | _, _, .cons h t => .cons (by rw [hK, hf]; exact h) (VAll.resys hK hf t)
theorem evAs_no {S : Sys} : ∀ (es : Tms) (ρ : Env) (us : List Vl), evAs S.run es ρ = .ok us → ∀ u ∈ us, ∀ d, u ≠ .ow d
  | .nil, ρ, us, h => by unfold evAs at h; cases h; intro u hu; cases hu
  | .cons a r, ρ, us, h => by
    unfold evAs at h
    obtain ⟨x, _, h⟩ := bind_ok h
    obtain ⟨ys, h1, rfl⟩ := map1_ok h
    intro u hu d
    rcases List.mem_cons.mp hu with rfl | hu
    · exact argV_no x d
    · exact evAs_no r ρ ys h1 u hu d
theorem pe_call0S {X : Cx} {k : Nat} {f : Addr} {fd : FuncData} {ps : List Str} {sp : Sp} {E : L2.St → XK} {x : Str} {p pos : Pos} {CX : CXT} (F : FnOk X.prog X.w X.K X.mg X.base CX k f fd ps sp) (hr : Room k X.A) (hg : Gl X x) (hm : X.mg x = some (.ref f)) (hk : PySem.W.keepIn X.K (.ref f) = true)
    (hb : Binds X.K fd ps []) (hx : ∀ σ, PassesAt CX X σ (E σ)) (hdb : (x == ("__debug__" : Str)) = false := by decide) : PE X (.Call (.Name x p) [] [] pos) (fun σ H Q => sp [] H Q (E σ)) := ⟨fun pins s σ H Q I h =>
  wpAny_Call_Name_kw (ld_glob I hg hm (PySem.W.callWith_K0 I.kIn hk (run_fnS (us := []) F hr hb (hx σ) I .nil h)) hdb)⟩
theorem good_call {f : Nat} {es : Tms} (g : GoodEs T n N es) : GoodE T n N (.call f es) := fun sc S X C e h => by
  simp only [chkE] at h
  split at h
  · rename_i nm xs he
    simp only [Bool.and_eq_true, decide_eq_true_eq] at h
    obtain ⟨⟨⟨h1, h2⟩, h3⟩, h4⟩ := h
    obtain ⟨p, pos, rfl⟩ := asCall_eq he
    obtain ⟨_, _, g3, _, _, g6⟩ := g sc S X C xs h4
    obtain ⟨a, fd, ps, e1, e2, e3, e4, e5, e6⟩ := C.fns f nm h1
    have h5 : ∀ σ H Q, tEv S (.call f es) σ H Q → tCallSD (spF S.K S.fa S.cl S.run f) [] (WE S.W) (tAs S es) σ H Q := fun σ H Q q => by
      obtain ⟨ρ, F, en, sm, q⟩ := q
      simp only [ev, postR_bind] at q
      refine ⟨ρ, F, en, sm, PostR.mono q (fun us hus q vs F1 H1 a1 va => ?_) fun _ _ q => q⟩
      have va' : VAll ⟨S.K, S.fa, S.cl, fun _ _ _ _ => False, S.run⟩ F1 H1 vs us := VAll.resys (S := S) (S' := ⟨S.K, S.fa, S.cl, fun _ _ _ _ => False, S.run⟩) rfl rfl va
      show spF S.K S.fa S.cl S.run f (vs ++ []) H1 Q _
      rw [List.append_nil]
      exact ⟨F1, us, a1.fh, va', evAs_no es ρ us hus, PostR.mono q (fun u _ q => Want.of a1 q) fun x _ q H' e => q H' (a1.hh.trans e)⟩
    have h6 : PE X (.Call (.Name nm p) xs [] pos) (tEv S (.call f es)) := by
      cases xs with
      | nil =>
        have hn : es = .nil := chkEs_ne h4 rfl
        subst hn
        refine (pe_call0S e4 C.room (gl_of C h2) e2 e3 e5 (fun σ => passAt C.tk σ) (okB_1 h3)).imp fun σ H Q q => ?_
        obtain ⟨ρ, F, en, sm, q⟩ := h5 σ H Q q
        unfold evAs at q
        have q2 := q [] F H (.refl sm) .nil
        exact q2
      | cons x xs =>
        simp only [List.all_cons, Bool.and_eq_true] at g6
        exact (pe_callSD e4 C.room (gl_of C h2) e2 e3 e5 .nil (fun σ => passAt C.tk σ) g3 (okB_1 h3) (starEach_cons g6.1 xs X.env) (star_any xs pos X.env g6.2)).imp h5
    exact ⟨h6, pt_of C.hK h6 rfl⟩
  · cases h
end
end Wv
namespace Wv
open PySem PySem.Spec PyProof.Rows L2
open LamX (Tabs TabS ExtN CodeO TabB)
variable [Tbs]
section
variable {T : Tx} {n : Nat} {N : List Str}
/-! ### what is walked -/
theorem yld_at {K : PySem.W.Frag} {F : Hp} {xs : List V} {ds : List PyData} (r : RpAll K F xs ds) {i : Nat} {H H' : Hp} {x : V} (y : YAt xs i H x H') : Yld K F ds i H x H' := fun F1 f1 s1 => by
  obtain ⟨rfl, hx⟩ := y
  obtain ⟨d, h1, h2⟩ := r.getV hx
  exact ⟨F1, d, .refl s1, h1, h2.mono f1⟩
theorem yld_pair {K : PySem.W.Frag} {F : Hp} {xs ys : Nat → Option V} {ds : List PyData} {i : Nat} {H H' : Hp} {x : V} (y : YPair xs ys i H x H')
    (h : ∀ v w, xs i = some v → ys i = some w → ∃ d e, ds[i]? = some (.tuple [d, e]) ∧ Rp K F v d ∧ Rp K F w e) : Yld K F ds i H x H' := fun F1 f1 s1 => by
  obtain ⟨p, v, w, rfl, hp, rfl, h1, h2⟩ := y
  obtain ⟨d, e, h3, h4, h5⟩ := h v w h1 h2
  have a := Adv.lay (o := .tup [v, w]) s1 hp
  refine ⟨_, _, a, h3, .tup (SqT.of upd_same) (Nat.le_trans (by decide : 2 ≤ 1000) line1000) (.cons ((h4.mono f1).mono a.ff) (.cons ((h5.mono f1).mono a.ff) .nil))⟩
theorem walk_strW {K : PySem.W.Frag} {F : Hp} {z : Str} (o : PyData.strOk z = true) : Walk (Its z) (z.cps.toList.map fun c => PyData.str ⟨#[c]⟩).length (fun _ => True) (Yld K F (z.cps.toList.map fun c => PyData.str ⟨#[c]⟩)) := by
  have e : (z.cps.toList.map fun c => PyData.str ⟨#[c]⟩).length = z.cps.size := by rw [List.length_map, Array.length_toList]
  rw [e]
  refine (walk_str (z := z)).mono (fun _ h => h) fun i H x H' hi _ y F1 f1 s1 => ?_
  obtain ⟨rfl, c, hc, rfl⟩ := y
  have hc' : z.cps.toList[i]? = some c := by rw [Array.getElem?_toList]; exact hc
  refine ⟨F1, .str ⟨#[c]⟩, .refl s1, by rw [List.getElem?_map, hc']; rfl, .str _ (by show 1 ≤ sizeLine; exact Nat.le_trans (by decide : 1 ≤ 1000) line1000) ?_⟩
  unfold PyData.strOk at o ⊢
  rw [Array.all_eq_true_iff_forall_mem] at o
  have hm : c ∈ z.cps := by
    have := List.mem_of_getElem? hc'
    exact Array.mem_toList_iff.mp this
  have := o c hm
  simpa using this
theorem walk_rngW {K : PySem.W.Frag} {F : Hp} {lo : Int} {m : Nat} : Walk (Itr lo m) ((List.range m).map fun (i : Nat) => PyData.int (lo + i)).length (fun _ => True) (Yld K F ((List.range m).map fun (i : Nat) => PyData.int (lo + i))) := by
  have e : ((List.range m).map fun (i : Nat) => PyData.int (lo + i)).length = m := by rw [List.length_map, List.length_range]
  rw [e]
  refine (walk_range (lo := lo) (n := m)).mono (fun _ h => h) fun i H x H' hi _ y F1 f1 s1 => ?_
  obtain ⟨rfl, rfl⟩ := y
  exact ⟨F1, _, .refl s1, by rw [List.getElem?_map, List.getElem?_range hi]; rfl, .int _⟩
/-- where the looked-at list or tuple stands -/
theorem stand {S : Sys} {F F1 H H1 : Hp} {k : Bool} {t : Tm} {v : V} {u : Vl} (a1 : Adv F H F1 H1) (vk : VOk S.K S.fa F1 H1 v u) (fr : isLoc t = false → FreshV H v u) (kp : (k && isLoc t) = true → ∀ d, u ≠ .ow d) :
    ∃ F2, Adv F H F2 H1 ∧ Same F1 F2 ∧ VOk S.K S.fa F2 H1 v (if k = true then argV u else u) := by
  cases k with
  | false => exact ⟨F1, a1, Same.refl F1, by simpa using vk⟩
  | true =>
    obtain ⟨F2, a2, f2, vk2⟩ := settle a1 vk (fresh_kept fr (by simpa using kp))
    exact ⟨F2, a2, f2, by simpa using vk2⟩
theorem dat_if {k : Bool} {u : Vl} {d : PyData} (h : dat u = .ok d) : dat (if k = true then argV u else u) = .ok d := by
  cases k with
  | false => simpa using h
  | true => exact dat_argV h
theorem list_of {S : Sys} {F H : Hp} {k : Bool} {v : V} {u : Vl} {ds : List PyData} (vk : VOk S.K S.fa F H v (if k = true then argV u else u)) (sm : Fit F H) (h : dat u = .ok (.list ds)) :
    ∃ a xs, v = .ref a ∧ SqL S.K H a xs ∧ xs.length ≤ sizeLine ∧ RpAll S.K F xs ds ∧ (k = true → SqL S.K F a xs) := by
  have t := vk.tp sm (dat_if (k := k) h)
  cases k with
  | false =>
    cases t with
    | lst h z r => exact ⟨_, _, rfl, h, z, r, fun z => nomatch z⟩
  | true =>
    have t2 : Rp S.K F v (.list ds) := VOk.rp (by simpa using vk) h
    cases t2 with
    | lst h z r => exact ⟨_, _, rfl, Same.sql sm h, z, r, fun _ => h⟩
theorem tup_of {S : Sys} {F H : Hp} {v : V} {u : Vl} {ds : List PyData} {k : Bool} (vk : VOk S.K S.fa F H v (if k = true then argV u else u)) (sm : Fit F H) (h : dat u = .ok (.tuple ds)) :
    ∃ a xs, v = .ref a ∧ SqT S.K F a xs ∧ xs.length ≤ sizeLine ∧ RpAll S.K F xs ds := by
  have t := vk.tp sm (dat_if (k := k) h)
  cases t with
  | tup h z r => exact ⟨_, _, rfl, h, z, r⟩
theorem good_tm {t : Tm} (ga : GoodE T n N t) : GoodIt T n N (.tm t) := fun sc S X C k tg e h => by
  have h : chkE T N sc t e = true := by simpa only [chkIt] using h
  have g1 := (ga sc S X C e h).1
  refine (((pi_list g1).or (pi_tup g1)).or (pi_str g1)).imp fun σ H R q => ?_
  obtain ⟨ρ, F, en, sm, q⟩ := q
  simp only [evIt] at q
  rw [postR_bind, postR_bind, postR_bind] at q
  -- what it comes to
  cases he : ev S.run t ρ with
  | bad => rw [he] at q; exact q.elim
  | err x =>
    rw [he] at q
    exact .inl (.inl ⟨ρ, F, en, sm, by rw [he]; exact q⟩)
  | ok u =>
    rw [he] at q
    obtain ⟨q, kp⟩ := PostR.keep (e := errP S σ H) q
    obtain ⟨d, hd, q⟩ := q.dat
    rw [postR_calm] at q
    obtain ⟨ds, hds, q⟩ := q.get
    have post : ∀ {Q : VK}, (∀ v F1 H1, Adv F H F1 H1 → VOk S.K S.fa F1 H1 v u → (isLoc t = false → FreshV H v u) → Q v H1) → tEv S t σ H Q := fun {Q} f => ⟨ρ, F, en, sm, by rw [he]; exact f⟩
    cases d with
    | list xs =>
      cases hds
      refine .inl (.inl (post fun v F1 H1 a1 vk fr => ?_))
      obtain ⟨F2, a2, f2, vk2⟩ := stand (k := k) a1 vk fr kp
      obtain ⟨a, vs, rfl, h1, hz, r, h2⟩ := list_of vk2 a2.fh hd
      rw [C.hK]
      refine ⟨a, rfl, ⟨vs, h1⟩, q _ (fun H2 => SqL S.K H2 a vs) F2 H1 a2 ?_ (fun H2 e => e.sql h1) (fun hk H2 e => Same.sql e (h2 hk)) (by rw [← r.length]; exact hz)⟩
      rw [← r.length]
      exact (walk_list (K := S.K) (a := a) (xs := vs)).mono (fun _ h => h) fun i H x H' hi _ y => yld_at r y
    | tuple xs =>
      cases hds
      refine .inl (.inr (post fun v F1 H1 a1 vk fr => ?_))
      obtain ⟨F2, a2, f2, vk2⟩ := stand (k := k) a1 vk fr kp
      obtain ⟨a, vs, rfl, h1, hz, r⟩ := tup_of vk2 a2.fh hd
      rw [C.hK]
      refine ⟨a, rfl, ⟨vs, Same.sqt a2.fh.sm h1⟩, q _ (fun H2 => SqT S.K H2 a vs) F2 H1 a2 ?_ (fun H2 e => e.sqt (Same.sqt a2.fh.sm h1)) (fun hk H2 e => Same.sqt e h1) (by rw [← r.length]; exact hz)⟩
      rw [← r.length]
      exact (walk_tup (K := S.K) (a := a) (xs := vs)).mono (fun _ h => h) fun i H x H' hi _ y => yld_at r y
    | str z =>
      cases hds
      refine .inr (post fun v F1 H1 a1 vk fr => ?_)
      have t := vk.tp a1.fh hd
      cases t with
      | str z hz o =>
        refine ⟨z, rfl, q _ (fun _ => True) F1 H1 a1 (walk_strW o) (fun _ _ => trivial) (fun _ _ _ => trivial) ?_⟩
        rw [List.length_map, Array.length_toList]; exact hz
    | _ => cases hds
theorem evTs_len {S : Sys} : ∀ (es : Tms) (ρ : Env) (ds : List PyData), evTs S.run es ρ = .ok ds → ds.length = tmsLen es
  | .nil, ρ, ds, h => by unfold evTs at h; cases h; rfl
  | .cons a r, ρ, ds, h => by
    unfold evTs at h
    obtain ⟨x, _, h⟩ := bind_ok h
    obtain ⟨ys, h1, rfl⟩ := map1_ok h
    show ys.length + 1 = _
    rw [evTs_len r ρ ys h1]
    rfl
theorem good_rng {es : Tms} (g : GoodEs T n N es) : GoodIt T n N (.rng es) := fun sc S X C k tg e h => by
  simp only [chkIt] at h
  split at h
  · rename_i f xs he
    simp only [Bool.and_eq_true, decide_eq_true_eq, Bool.or_eq_true] at h
    obtain ⟨⟨⟨rfl, h1⟩, h2⟩, h3⟩ := h
    obtain ⟨p, pos, rfl⟩ := asCall_eq he
    obtain ⟨g1, _, _, _, _, g6⟩ := g sc S X C xs h2
    have hl := chkEs_len es xs h2
    have hm : X.mg "range" = none := C.bl _ (by decide +kernel)
    have hlim : (lim : Int) = 1000000 := rfl
    have hline : lim ≤ sizeLine := lim_line
    rcases h3 with h3 | h3
    · obtain ⟨x, rfl⟩ : ∃ x, xs = [x] := by
        match xs, h3 with
        | [x], _ => exact ⟨x, rfl⟩
      have hs : notStar x = true := by simpa using g6
      refine (pi_range1 (gl_of C h1) hm g1 (starEach_cons hs [] X.env)).imp fun σ H R q => ?_
      obtain ⟨ρ, F, en, sm, q⟩ := q
      simp only [evIt, postR_bind, postR_calm] at q
      refine ⟨ρ, F, en, sm, PostR.mono q (fun ds hd q vs F1 H1 a1 tp => ?_) fun _ _ q => q⟩
      have hd2 := evTs_len es ρ ds hd
      obtain ⟨d, rfl⟩ : ∃ d, ds = [d] := by
        have : ds.length = 1 := by rw [hd2, ← hl]; rfl
        match ds, this with
        | [d], _ => exact ⟨d, rfl⟩
      obtain ⟨v, rfl, tv⟩ := tp1 tp
      obtain ⟨items, hi, q⟩ := q.get
      cases tv with
      | int j =>
        simp only [rngD] at hi
        split at hi
        · rename_i hj'
          have hj := inN_iff.mp hj'
          cases hi
          refine ⟨j, rfl, by omega, by omega, q _ (fun _ => True) F1 H1 a1 ?_ (fun _ _ => trivial) (fun _ _ _ => trivial) ?_⟩
          · have w := walk_rngW (K := S.K) (F := F1) (lo := 0) (m := j.toNat)
            simpa using w
          · rw [List.length_map, List.length_range]; omega
        · cases hi
      | _ => cases hi
    · obtain ⟨x, y, rfl⟩ : ∃ x y, xs = [x, y] := by
        match xs, h3 with
        | [x, y], _ => exact ⟨x, y, rfl⟩
      simp only [List.all_cons, Bool.and_eq_true] at g6
      refine (pi_range2 (gl_of C h1) hm g1 (by rw [starEach_cons g6.1, starEach_cons g6.2.1]; rfl) (by rw [starEach_cons g6.2.1]; rfl)).imp fun σ H R q => ?_
      obtain ⟨ρ, F, en, sm, q⟩ := q
      simp only [evIt, postR_bind, postR_calm] at q
      refine ⟨ρ, F, en, sm, PostR.mono q (fun ds hd q vs F1 H1 a1 tp => ?_) fun _ _ q => q⟩
      have hd2 := evTs_len es ρ ds hd
      obtain ⟨d, d', rfl⟩ : ∃ d d', ds = [d, d'] := by
        have : ds.length = 2 := by rw [hd2, ← hl]; rfl
        match ds, this with
        | [d, d'], _ => exact ⟨d, d', rfl⟩
      obtain ⟨items, hi, q⟩ := q.get
      cases tp with
      | cons t1 t2 =>
        obtain ⟨v2, rfl, t3⟩ := tp1 t2
        cases t1 with
        | int i =>
          cases t3 with
          | int j =>
            simp only [rngD] at hi
            split at hi
            · rename_i hj
              cases hi
              rw [Bool.and_eq_true, inN_iff, inN_iff] at hj
              obtain ⟨⟨j1, j3⟩, j4, j2⟩ := hj
              refine ⟨i, j, rfl, ⟨by omega, by omega, by omega, by omega⟩, q _ (fun _ => True) F1 H1 a1 (walk_rngW (K := S.K) (F := F1) (lo := i) (m := (j - i).toNat)) (fun _ _ => trivial) (fun _ _ _ => trivial) ?_⟩
              rw [List.length_map, List.length_range]
              have : sizeLine = 16777216 := sizeLine_eq
              omega
            · cases hi
          | _ => cases hi
        | _ => cases t3 <;> cases hi
  · cases h
end
end Wv
/-! enumerate over a tuple. -/
namespace Wv
open PySem PySem.Spec PyProof.Rows L2
open LamX (Tabs TabS ExtN CodeO TabB)
variable [Tbs]
/-- the tuple at a as it stands at each turn, each item in a new pair -/
def IteT (K : PySem.W.Frag) (a : Addr) : L2.It :=
  ⟨fun i H => ∃ (xs : List V) (x : V), SqT K H a xs ∧ xs[i]? = some x, fun i H v H' => ∃ T x, v = .ref T ∧ H T = none ∧ H' = upd H T (.tup [.int (i : Nat), x]) ∧ ∀ xs, SqT K H a xs → xs[i]? = some x, fun i H => ∃ xs : List V, SqT K H a xs ∧ xs.length ≤ i⟩
theorem enumT_end {prog : Program} {w : World} {A : Around} {E : Value → Shared → Prop} {s : Shared} {e it l : Addr} {i : Nat} {items : Array Value} {old : Value} {Q : Option Value → Shared → Prop} (hh : A.handled = none)
    (he : IsEnum s.heap e it i old) (hit : s.heap.IsTupleIter it l i) (hl : s.heap.IsTuple l items) (hx : items[i]? = none)
    (hQ : ∀ h', Heap.ExtBut it s.heap h' → Q none { s with heap := h' }) : wpAny (model prog w) A (pyNext (.ref e)) Q E s := by
  have hT : s.TypeIs (.ref e) "enumerate" := ⟨_, he, rfl⟩
  unfold pyNext
  refine wpAny_bind (wpAny_attempt (wpAny_callSpecial?_slot (name := Str.ofString "__next__") hT F.slot_enumerate_next
    (wpAny_call_entry F.slot_enumerate_next hT F.entry_enumerate_next ?_ (F.args_enumerate_next_1 _))))
  show wpAny _ _ (field (.ref e) 2 >>= _) _ _ _
  refine wpAny_bind (wpAny_field he rfl (x := .ref it) rfl ?_)
  refine wpAny_bind (PySem.wpAny_nextOf_tuple_end (by simp [hh]) hit hl hx fun h' x he' hx' => ?_)
  obtain ⟨o, ho, hc⟩ := hx'
  refine wpAny_bind (wpAny_isInstance (T := "StopIteration") (b := true) ⟨o, ho, hc⟩ isSubtype_stop ?_)
  exact wpAny_pure (hQ _ he')
set_option maxHeartbeats 8000000 in
theorem meets_enumB1 {v : Value} {o : Obj} {H : Heap → Prop} (B : PySem.Begins v o H) :
    Meets (Builtin.«enumerate.__new__» ⟨[.type "enumerate", v], []⟩) (fun _ R s => H s.heap ∧
      R (.ok (.ret (.ref (s.heap.push o).objs.size))) { s with heap := (s.heap.push o).push { cls := .type "enumerate", data := .fields #[.none, .bool false, .ref s.heap.objs.size, rawInt 0, .none, .none] } }) :=
  .of_wp fun prog w A R s h => by
    obtain ⟨hp, g, d, tk, os⟩ := s; obtain ⟨h1, h⟩ := h
    have hsub := sub_enumerate
    have q1 : ∀ {A' : Around} {E : Value → Shared → Prop} {Q : Value → Shared → Prop}, Q (.ref hp.objs.size) ⟨hp.push o, g, d, tk, os⟩ → wpAny (model prog w) A' (pyIter v) Q E ⟨hp, g, d, tk, os⟩ :=
      fun q => B.iter prog w _ _ ⟨hp, g, d, tk, os⟩ _ h1 q
    wp_walk using q1
    refine wpAny_stack_any fun st => wpAny_pure ?_
    split
    · rename_i c _ _ _ _ _
      cases (c == Value.type "enumerate")
      · wp_walk using q1
        exact ⟨_, rfl, h⟩
      · wp_walk using q1
        exact ⟨_, rfl, h⟩
    · wp_walk using q1
      exact ⟨_, rfl, h⟩
theorem call_enumB1 {prog : Program} {w : World} {A : Around} {E : Value → Shared → Prop} {s : Shared} {v : Value} {o : Obj} {H : Heap → Prop} {Q : Value → Shared → Prop} (B : PySem.Begins v o H) (h1 : H s.heap)
    (h : ∀ h', IsEnum h' (s.heap.objs.size + 1) s.heap.objs.size 0 .none → h'.get? s.heap.objs.size = some o → h'.objs.size = s.heap.objs.size + 2 →
      (∀ b o, s.heap.get? b = some o → h'.get? b = some o) → Q (.ref (s.heap.objs.size + 1)) { s with heap := h' }) :
    wpAny (model prog w) A (call (.type "enumerate") [v]) Q E s := by
  refine callType_new F.called_enumerate (by decide) (F.typeCall_enumerate_1 _) (F.newCall_enumerate_1 _) (fun obj => F.args_object_init_2 obj _) F.entry_enumerate_new
    (meets_enumB1 B) ⟨h1, ?_⟩
  have hz : (s.heap.push o).objs.size = s.heap.objs.size + 1 := Heap.size_push ..
  show _ ∧ _
  rw [hz]
  have he : IsEnum ((s.heap.push o).push { cls := .type "enumerate", data := .fields #[.none, .bool false, .ref s.heap.objs.size, rawInt 0, .none, .none] }) (s.heap.objs.size + 1) s.heap.objs.size 0 .none := by
    have := Heap.get?_push_size (s.heap.push o) (o := { cls := .type "enumerate", data := .fields #[.none, .bool false, .ref s.heap.objs.size, rawInt 0, .none, .none] }) rfl
    rw [hz] at this; exact this
  refine ⟨⟨_, he, rfl⟩, h _ he (Heap.get?_push_of_some _ (Heap.get?_push_size _ B.free)) (by rw [Heap.size_push, hz]) fun b o x => Heap.get?_push_of_some _ (Heap.get?_push_of_some _ x)⟩
theorem turn_enumT {P : Program} {w : World} {K : PySem.W.Frag} {elts : List Expr} {kk : Nat} {tpos : Pos} (a e it : Addr) (hai : a ≠ it) :
    L2.Turn P w K (.Tuple elts kk tpos) (IteT K a) [e, it] e (fun i h => (∃ old, IsEnum h e it ((i : Nat) : Int) old) ∧ h.IsTupleIter it a i ∧ e ≠ it ∧ e ≠ a) where
  mem := by simp
  obj := fun i h st b hb => by
    obtain ⟨⟨old, he⟩, ⟨o, ho, hc, hd⟩, _⟩ := st
    have e' : b = e ∨ b = it := by simpa using hb
    rcases e' with z | z
    · rw [z]; exact ⟨_, he, fun v q => nomatch q⟩
    · rw [z]; exact ⟨o, ho, fun v q => by rw [hd] at q; cases q⟩
  keep := fun i h h' st k => let ⟨⟨old, he⟩, hi, hne⟩ := st; ⟨⟨old, k e (by simp) _ he⟩, hi.at fun o q => k it (by simp) o q, hne⟩
  item := by
    intro X hP hw hK hc i pins s σ H E I hf st hg
    subst hP hw hK
    obtain ⟨⟨old, he⟩, hit, hne, hea⟩ := st
    obtain ⟨xs, x, hq, hx⟩ := hg
    obtain ⟨its, rv, p, hz⟩ := I.tuple hq
    obtain ⟨u, hu, ru⟩ := rv.get hx
    have hel : e < s.heap.objs.size := Heap.lt_size he
    have hil : it < s.heap.objs.size := by obtain ⟨_, q, _⟩ := hit; exact Heap.lt_size q
    have hlt : i < its.toArray.size := by
      have := (List.getElem?_eq_some_iff.mp hu).1
      simpa using this
    refine wpAny_pyNext_enum_itemD (PySem.Draws.tuple (by simp [I.ok.hd hc]) it a hai its.toArray) he ⟨hit, p⟩ hlt hne (by simp [hne, hea]) fun u' h' tk hu' ho hst hT hsz hk => ?_
    have : u' = u := by
      have : its.toArray[i]? = some u := by simpa using hu
      rw [this] at hu'
      exact (Option.some.inj hu').symm
    subst this
    obtain ⟨hit', _⟩ := hst
    refine ⟨_, rfl, wpAny_letOwnedTupleGo_enum (s := { s with heap := h', toks := tk + 1 }) ho fun h'' he' sb => ?_⟩
    have hT2 : h''.get? s.heap.objs.size = some { cls := .type "tuple", data := .seq #[.int i tk, u'] } := (sb.2 _ (Nat.ne_of_gt hel)).trans hT
    have new : ObjOk X.prog X.w (upd H s.heap.objs.size (.tup [.int (i : Nat), x])) h'' s.heap.objs.size (.tup [.int (i : Nat), x]) :=
      ⟨by show 2 ≤ sizeLine; decide, [.int i tk, u'], .cons ⟨_, rfl⟩ (.cons ru .nil), ⟨_, hT2, rfl, _, rfl⟩⟩
    have I1 : Inv X pins σ (upd H s.heap.objs.size (.tup [.int (i : Nat), x])) { s with heap := h'', toks := tk + 1 } :=
      I.turnedNew (ch := [e, it]) (fun b ob hb q => (sb.2 b (fun z => hb (by simp [z]))).trans (hk b ob (fun z => hb (by simp [z])) (fun z => hb (by simp [z])) q)) hf (Nat.le_refl _) new
    refine ⟨.ref s.heap.objs.size, _, I1, rfl, ⟨_, x, rfl, I.hok.fresh (Nat.le_refl _), rfl, fun ys hy => by rw [I.tuple_inj hy hq]; exact hx⟩, ⟨⟨u', ?_⟩, hit'.at fun o q => (sb.2 it (Ne.symm hne)).trans q, hne, hea⟩, fun b hb => ?_⟩
    · have e1 : ((i + 1 : Nat) : Int) = (i : Int) + 1 := by omega
      rw [e1]; exact he'
    · have hb' : b < s.heap.objs.size := by
        have e' : b = e ∨ b = it := by simpa using hb
        rcases e' with z | z
        · rw [z]; exact hel
        · rw [z]; exact hil
      rw [upd_ne (Nat.ne_of_lt hb')]
      exact (hf b hb).1
  done := by
    intro X hP hw hK hc i pins s σ H E I hf st hg
    subst hP hw hK
    obtain ⟨⟨old, he⟩, hit, hne, hea⟩ := st
    obtain ⟨xs, hq, hx⟩ := hg
    obtain ⟨its, rv, p, hz⟩ := I.tuple hq
    obtain ⟨f0, f1, f2, f3, f4, f5⟩ := hf it (by simp)
    have hl := rv.length
    exact enumT_end (I.ok.hd hc) he hit p (by simp; omega) fun h' eb => ⟨rfl, I.turned (t' := s.toks) (fun b o hb q => eb b o hb q) f0 f1 f3 f4 f5⟩
  self := fun A i s Q E st h => let ⟨⟨_, he⟩, _⟩ := st; wpAny_pyIter_enum he h
def iEnumA (K : PySem.W.Frag) (ta : TA) : TI := fun σ H R => ta σ H fun vs H1 => ∃ a xs, vs = [.ref a] ∧ ((SqL K H1 a xs ∧ R (Ite K a) H1) ∨ (SqT K H1 a xs ∧ R (IteT K a) H1))
theorem pi_enumA {X : Cx} {e : Expr} {ta : TA} {p pos tpos : Pos} {elts : List Expr} {kk : Nat} (hg : Gl X "enumerate") (hm : X.mg "enumerate" = none) (ha : PA X [e] ta) (hs : starEach [e] X.env = [(false, eval e X.env)] := by rfl) :
    PI X (.Tuple elts kk tpos) (.Call (.Name "enumerate" p) [e] [] pos) (iEnumA X.K ta) := by
  refine ⟨fun pins s σ H R I h => ?_⟩
  refine Call_ (ld_blt I hg hm boot_enumerate (PyProof.Rows.callWith_type1 (thn (ha.run pos pins s σ H _ I h) fun us s1 ⟨vs, H1, I1, r1, q1⟩ => ?_) hs rfl))
  obtain ⟨a, xs, ex, q⟩ := q1
  subst ex
  cases r1 with
  | cons r rr =>
    cases rr
    cases r
    have fp : ∀ b ∈ [s1.heap.objs.size + 1, s1.heap.objs.size], FpOk X pins H1 b := fun b hb => by
      have e' : b = s1.heap.objs.size + 1 ∨ b = s1.heap.objs.size := by simpa using hb
      have hle : s1.heap.objs.size ≤ b := by
        rcases e' with z | z
        · rw [z]; exact Nat.le_add_right _ _
        · rw [z]; exact Nat.le_refl _
      exact I1.fpOk hle (I1.hok.fresh hle)
    rcases q with ⟨hq, q⟩ | ⟨hq, q⟩
    · obtain ⟨its, rv, p', hz⟩ := I1.list hq
      refine call_enumerate_list p'.isList fun h' he hit hsz hk => wpAny_pyIter_enum he ?_
      have I2 : Inv X pins σ H1 { s1 with heap := h' } := I1.kept (t' := s1.toks) hk
      exact ⟨s1.heap.objs.size + 1, [s1.heap.objs.size + 1, s1.heap.objs.size], _, _, H1, rfl, I2, turn_enum a (s1.heap.objs.size + 1) s1.heap.objs.size, ⟨⟨.none, he⟩, hit, Nat.succ_ne_self _⟩, fp, q⟩
    · obtain ⟨its, rv, p', hz⟩ := I1.tuple hq
      have hal : a < s1.heap.objs.size := by obtain ⟨o, ho, _⟩ := id p'; exact Heap.lt_size ho
      refine call_enumB1 (PySem.begins_tuple a its.toArray) p' fun h' he hit hsz hk => wpAny_pyIter_enum he ?_
      have I2 : Inv X pins σ H1 { s1 with heap := h' } := I1.kept (t' := s1.toks) hk
      exact ⟨s1.heap.objs.size + 1, [s1.heap.objs.size + 1, s1.heap.objs.size], _, _, H1, rfl, I2, turn_enumT a (s1.heap.objs.size + 1) s1.heap.objs.size (Nat.ne_of_lt hal), ⟨⟨.none, he⟩, ⟨_, hit, rfl, rfl⟩, Nat.succ_ne_self _, Nat.ne_of_gt (Nat.lt_succ_of_lt hal)⟩, fp, q⟩
theorem walk_enumT {K : PySem.W.Frag} {a : Addr} {xs : List V} : Walk (IteT K a) xs.length (fun H => SqT K H a xs) (YPair (fun i => some (.int (i : Nat))) (fun i => xs[i]?)) := by
  refine ⟨fun i _ hi q => ⟨xs, xs[i], q, by simp [hi]⟩, fun _ q => ⟨xs, q, Nat.le_refl _⟩, fun i H v H' _ q y => ?_⟩
  obtain ⟨T, x, h1, h2, h3, h4⟩ := y
  exact ⟨T, .int (i : Nat), x, h1, h2, h3, rfl, h4 xs q⟩
end Wv
namespace Wv
open PySem PySem.Spec PyProof.Rows L2
open LamX (Tabs TabS ExtN CodeO TabB)
variable [Tbs]
section
variable {T : Tx} {n : Nat} {N : List Str}
theorem enumL_len (xs : List PyData) : (enumL xs).length = xs.length := by unfold enumL; rw [List.length_map, List.length_zipIdx]
theorem enumL_get {xs : List PyData} {i : Nat} {d : PyData} (h : xs[i]? = some d) : (enumL xs)[i]? = some (.tuple [.int (i : Nat), d]) := by
  unfold enumL
  rw [List.getElem?_map, List.getElem?_zipIdx, h]
  simp
theorem zipL_len (xs ys : List PyData) : (zipL xs ys).length = min xs.length ys.length := by unfold zipL; rw [List.length_map, List.length_zip]
theorem zipL_get {xs ys : List PyData} {i : Nat} {d e : PyData} (h : xs[i]? = some d) (h2 : ys[i]? = some e) : (zipL xs ys)[i]? = some (.tuple [d, e]) := by
  unfold zipL
  rw [List.getElem?_map, List.getElem?_zip_eq_some (z := (d, e)) |>.mpr ⟨h, h2⟩]
  rfl
theorem good_enum {t : Tm} (ga : GoodE T n N t) : GoodIt T n N (.enum t) := fun sc S X C k tg e h => by
  simp only [chkIt] at h
  split at h
  · rename_i f x he
    simp only [Bool.and_eq_true, decide_eq_true_eq] at h
    obtain ⟨⟨⟨⟨rfl, h1⟩, h2⟩, h3⟩, h4⟩ := h
    obtain ⟨p, pos, rfl⟩ := asCall_eq he
    obtain ⟨els, h5⟩ := Option.isSome_iff_exists.mp h4
    obtain ⟨kk, tp, rfl⟩ := asTup_eq h5
    have g1 := (ga sc S X C x h2).1
    have hm : X.mg "enumerate" = none := C.bl _ (by decide +kernel)
    refine (pi_enumA (gl_of C h1) hm (pa_cons g1 pa_nil (starEach_cons h3 [] X.env)) (starEach_cons h3 [] X.env)).imp fun σ H R q => ?_
    obtain ⟨ρ, F, en, sm, q⟩ := q
    simp only [evIt] at q
    rw [postR_bind, postR_bind, postR_bind] at q
    refine tEv.mk en sm q fun u v F1 H1 q a1 vk fr => ?_
    obtain ⟨q, kp⟩ := q.keep
    obtain ⟨d, hd, q⟩ := q.dat
    rw [postR_calm] at q
    obtain ⟨ds, hds, q⟩ := q.get
    cases d with
    | list xs =>
      cases hds
      obtain ⟨F2, a2, f2, vk2⟩ := stand (k := k) a1 vk fr kp
      obtain ⟨a, vs, rfl, h1, hz, r, h2⟩ := list_of vk2 a2.fh hd
      rw [C.hK]
      refine ⟨a, vs, rfl, .inl ⟨h1, q _ (fun H2 => SqL S.K H2 a vs) F2 H1 a2 ?_ (fun H2 e => e.sql h1) (fun hk H2 e => Same.sql e (h2 hk)) (by rw [enumL_len, ← r.length]; exact hz)⟩⟩
      rw [enumL_len, ← r.length]
      refine (walk_enum (K := S.K) (a := a) (xs := vs)).mono (fun _ h => h) fun i H x H' hi _ y => yld_pair y fun v w e1 e2 => ?_
      cases e1
      obtain ⟨d, e3, e4⟩ := r.getV e2
      exact ⟨_, d, enumL_get e3, .int _, e4⟩
    | tuple xs =>
      cases hds
      obtain ⟨F2, a2, f2, vk2⟩ := stand (k := k) a1 vk fr kp
      obtain ⟨a, vs, rfl, h1, hz, r⟩ := tup_of vk2 a2.fh hd
      rw [C.hK]
      refine ⟨a, vs, rfl, .inr ⟨Same.sqt a2.fh.sm h1, q _ (fun H2 => SqT S.K H2 a vs) F2 H1 a2 ?_ (fun H2 e => e.sqt (Same.sqt a2.fh.sm h1)) (fun hk H2 e => Same.sqt e h1) (by rw [enumL_len, ← r.length]; exact hz)⟩⟩
      rw [enumL_len, ← r.length]
      refine (walk_enumT (K := S.K) (a := a) (xs := vs)).mono (fun _ h => h) fun i H x H' hi _ y => yld_pair y fun v w e1 e2 => ?_
      cases e1
      obtain ⟨d, e3, e4⟩ := r.getV e2
      exact ⟨_, d, enumL_get e3, .int _, e4⟩
    | _ => cases hds
  · cases h
/-- the tuples' zip -/
theorem walk_zipT {K : PySem.W.Frag} {a b : Addr} {xs ys : List V} : Walk (RZ.ItzT K a b) (min xs.length ys.length) (fun H => SqT K H a xs ∧ SqT K H b ys) (YPair (fun i => xs[i]?) (fun i => ys[i]?)) where
  goes := fun i H hi ⟨h1, h2⟩ => by
    have l1 : i < xs.length := by omega
    have l2 : i < ys.length := by omega
    exact ⟨xs, ys, xs[i], ys[i], h1, h2, List.getElem?_eq_getElem l1, List.getElem?_eq_getElem l2⟩
  stops := fun H ⟨h1, h2⟩ => ⟨xs, ys, h1, h2, by omega⟩
  yields := fun i H x H' hi ⟨h1, h2⟩ y => by
    obtain ⟨p, v, w, e1, e2, e3, e4, e5⟩ := y
    exact ⟨p, v, w, e1, e2, e3, e4 _ h1, e5 _ h2⟩
theorem good_zip {t t' : Tm} (ga : GoodE T n N t) (gb : GoodE T n N t') : GoodIt T n N (.zip t t') := fun sc S X C k tg e h => by
  simp only [chkIt] at h
  split at h
  · rename_i f x y he
    simp only [Bool.and_eq_true, decide_eq_true_eq] at h
    obtain ⟨⟨⟨⟨⟨⟨rfl, h1⟩, h2⟩, h2'⟩, h3⟩, h3'⟩, h4⟩ := h
    obtain ⟨p, pos, rfl⟩ := asCall_eq he
    obtain ⟨els, h5⟩ := Option.isSome_iff_exists.mp h4
    obtain ⟨kk, tp, rfl⟩ := asTup_eq h5
    have g1 := (ga sc S X C x h2).1
    have g2 := (gb sc S X C y h2').1
    have hm : X.mg "zip" = none := C.bl _ (by decide +kernel)
    refine (RZ.pi_zipA (gl_of C h1) hm (pa_cons g1 (pa_cons g2 pa_nil (starEach_cons h3' [] X.env)) (starEach_cons h3 [y] X.env)) (starEach_cons h3 [y] X.env) (star_any [y] pos X.env (by simp [h3']))).imp fun σ H R q => ?_
    obtain ⟨ρ, F, en, sm, q⟩ := q
    simp only [evIt] at q
    rw [postR_bind, postR_bind, postR_bind] at q
    refine tEv.mk en sm q fun u v F1 H1 q a1 vk fr => ?_
    obtain ⟨q, kp⟩ := q.keep
    obtain ⟨d, hd, q⟩ := q.dat
    rw [postR_bind, postR_bind, postR_bind] at q
    obtain ⟨F2, a2, f2, vk2⟩ := stand (k := k) a1 vk fr kp
    refine tEv.mk (en.adv a2) a2.fh (PostR.mono q (fun _ _ q => q) fun _ _ q => errP.mono q a1.hh) fun u' v' F3 H3 q a3 vk' fr' => ?_
    obtain ⟨q, kp'⟩ := q.keep
    obtain ⟨d', hd', q⟩ := q.dat
    rw [postR_calm] at q
    obtain ⟨ds, hds, q⟩ := q.get
    obtain ⟨F4, a4, f4, vk4⟩ := stand (k := k) a3 vk' fr' kp'
    have A := a2.trans a4
    have vk5 := vk2.adv a4
    cases d with
    | list xs =>
      cases d' with
      | list ys =>
        cases hds
        obtain ⟨a, vs, rfl, h1, hz, r, h2⟩ := list_of vk5 a4.fh hd
        obtain ⟨b, ws, rfl, h1', hz', r', h2'⟩ := list_of vk4 a4.fh hd'
        rw [C.hK]
        refine ⟨a, b, vs, ws, rfl, .inl ⟨h1, h1', q _ (fun H2 => SqL S.K H2 a vs ∧ SqL S.K H2 b ws) F4 H3 A ?_ (fun H2 e => ⟨e.sql h1, e.sql h1'⟩) (fun hk H2 e => ⟨Same.sql e (h2 hk), Same.sql e (h2' hk)⟩) ?_⟩⟩
        · refine (walk_zip (K := S.K) (a := a) (b := b) (xs := vs) (ys := ws) (n := (zipL xs ys).length) (by rw [zipL_len, r.length, r'.length])).mono (fun _ h => h) fun i H x H' hi _ y => yld_pair y fun v w e1 e2 => ?_
          obtain ⟨d, e3, e4⟩ := r.getV e1
          obtain ⟨d', e3', e4'⟩ := r'.getV e2
          exact ⟨d, d', zipL_get e3 e3', e4, e4'⟩
        · rw [zipL_len, ← r.length]; exact Nat.le_trans (Nat.min_le_left _ _) hz
      | _ => cases hds
    | tuple xs =>
      cases d' with
      | tuple ys =>
        cases hds
        obtain ⟨a, vs, rfl, h1, hz, r⟩ := tup_of vk5 a4.fh hd
        obtain ⟨b, ws, rfl, h1', hz', r'⟩ := tup_of vk4 a4.fh hd'
        rw [C.hK]
        refine ⟨a, b, vs, ws, rfl, .inr ⟨Same.sqt a4.fh.sm h1, Same.sqt a4.fh.sm h1', q _ (fun H2 => SqT S.K H2 a vs ∧ SqT S.K H2 b ws) F4 H3 A ?_ (fun H2 e => ⟨Same.sqt (a4.fh.ext e).sm h1, Same.sqt (a4.fh.ext e).sm h1'⟩) (fun hk H2 e => ⟨Same.sqt e h1, Same.sqt e h1'⟩) ?_⟩⟩
        · have w := walk_zipT (K := S.K) (a := a) (b := b) (xs := vs) (ys := ws)
          rw [zipL_len, ← r.length, ← r'.length]
          refine w.mono (fun _ h => h) fun i H x H' hi _ y => yld_pair y fun v w e1 e2 => ?_
          obtain ⟨d, e3, e4⟩ := r.getV e1
          obtain ⟨d', e3', e4'⟩ := r'.getV e2
          exact ⟨d, d', zipL_get e3 e3', e4, e4'⟩
        · rw [zipL_len, ← r.length]; exact Nat.le_trans (Nat.min_le_left _ _) hz
      | _ => cases hds
    | _ => cases d' <;> cases hds
  · cases h
end
end Wv
namespace Wv
open PySem PySem.Spec PyProof.Rows L2
open LamX (Tabs TabS ExtN CodeO TabB)
variable [Tbs]
section
variable {T : Tx} {n : Nat} {N : List Str}
/-! ### slots -/
theorem EnvOk.set {S : Sys} {ρ : Env} {σ : L2.St} {F H : Hp} (e : EnvOk S ρ σ F H) {v : V} {u : Vl} (h : VOk S.K S.fa F H v u) (i : Nat) : EnvOk S (ρ.set i (some u)) (σ.set i (some v)) F H := by
  refine ⟨by rw [List.length_set, List.length_set]; exact e.1, fun j w hj => ?_⟩
  by_cases hij : i = j
  · subst hij
    have hl : i < ρ.length := by
      have := (List.getElem?_eq_some_iff.mp hj).1
      simpa using this
    rw [List.getElem?_set_self hl] at hj
    cases hj
    exact ⟨v, by rw [List.getElem?_set_self (by rw [← e.1]; exact hl)], h⟩
  · rw [List.getElem?_set_ne hij] at hj
    obtain ⟨v', h1, h2⟩ := e.2 j w hj
    exact ⟨v', by rw [List.getElem?_set_ne hij]; exact h1, h2⟩
theorem EnvOk.unset {S : Sys} {ρ : Env} {σ : L2.St} {F H : Hp} (e : EnvOk S ρ σ F H) (i : Nat) : EnvOk S (ρ.set i none) (σ.set i none) F H := by
  refine ⟨by rw [List.length_set, List.length_set]; exact e.1, fun j w hj => ?_⟩
  by_cases hij : i = j
  · subst hij
    have hl : i < ρ.length := by
      have := (List.getElem?_eq_some_iff.mp hj).1
      simpa using this
    rw [List.getElem?_set_self hl] at hj
    cases hj
  · rw [List.getElem?_set_ne hij] at hj
    obtain ⟨v', h1, h2⟩ := e.2 j w hj
    exact ⟨v', by rw [List.getElem?_set_ne hij]; exact h1, h2⟩
theorem EnvOk.wipe {S : Sys} {ρ : Env} {σ : L2.St} {F H : Hp} (e : EnvOk S ρ σ F H) : ∀ vs : List Nat, EnvOk S (wipeE ρ vs) (L2.wipe σ vs) F H
  | [] => e
  | v :: vs => (EnvOk.wipe e vs).unset v
def setsS : List Nat → List V → L2.St → L2.St
  | i :: is, v :: vs, σ => setsS is vs (σ.set i (some v))
  | _, _, σ => σ
theorem EnvOk.sets {S : Sys} {F H : Hp} : ∀ (is : List Nat) (vs : List V) (ds : List PyData) (ρ : Env) (σ : L2.St), EnvOk S ρ σ F H → RpAll S.K F vs ds → EnvOk S (setAll is ds ρ) (setsS is vs σ) F H
  | [], _, _, _, _, e, _ => e
  | _ :: _, _, _, _, _, e, .nil => e
  | i :: is, v :: vs, d :: ds, ρ, σ, e, .cons h t => EnvOk.sets is vs ds (ρ.set i (some (.fz d))) (σ.set i (some v)) (e.set (u := .fz d) h.tp i) t
def eqOff (i : Nat) (σ σ' : L2.St) : Prop := σ.length = σ'.length ∧ ∀ j, j ≠ i → σ[j]? = σ'[j]?
theorem eqOff.set {i : Nat} {σ σ' : L2.St} (h : eqOff i σ σ') (v : Nat) (x : Option V) : eqOff i (σ.set v x) (σ'.set v x) := by
  refine ⟨by rw [List.length_set, List.length_set]; exact h.1, fun j hj => ?_⟩
  by_cases hv : v = j
  · subst hv
    by_cases hl : v < σ.length
    · rw [List.getElem?_set_self hl, List.getElem?_set_self (by rw [← h.1]; exact hl)]
    · rw [List.getElem?_eq_none (by simpa using hl), List.getElem?_eq_none (by rw [List.length_set, ← h.1]; simpa using hl)]
  · rw [List.getElem?_set_ne hv, List.getElem?_set_ne hv]; exact h.2 j hj
theorem eqOff.wipe {i : Nat} {σ σ' : L2.St} (h : eqOff i σ σ') : ∀ vs, eqOff i (L2.wipe σ vs) (L2.wipe σ' vs)
  | [] => h
  | v :: vs => (eqOff.wipe h vs).set v none
theorem eqOff.at {i : Nat} {σ σ' : L2.St} (h : eqOff i σ σ') (x : Option V) : σ.set i x = σ'.set i x := by
  refine List.ext_getElem? fun j => ?_
  by_cases hj : i = j
  · subst hj
    by_cases hl : i < σ.length
    · rw [List.getElem?_set_self hl, List.getElem?_set_self (by rw [← h.1]; exact hl)]
    · rw [List.getElem?_eq_none (by simpa using hl), List.getElem?_eq_none (by rw [List.length_set, ← h.1]; simpa using hl)]
  · rw [List.getElem?_set_ne hj, List.getElem?_set_ne hj]; exact h.2 j (Ne.symm hj)
theorem wipe_eq {i : Nat} {σ σ' : L2.St} (h : eqOff i σ σ') : ∀ {vs : List Nat}, i ∈ vs → L2.wipe σ vs = L2.wipe σ' vs
  | [], hi => by cases hi
  | v :: vs, hi => by
    rcases List.mem_cons.mp hi with rfl | hi
    · exact (h.wipe vs).at none
    · show (L2.wipe σ vs).set v none = _
      rw [wipe_eq h hi]
      rfl
theorem eqOff.of_set (i : Nat) (σ : L2.St) (x : Option V) : eqOff i (σ.set i x) σ := ⟨List.length_set .., fun j hj => List.getElem?_set_ne (Ne.symm hj)⟩
theorem wipe_sets : ∀ {is : List Nat} {us : List V} {σ : L2.St} {vs : List Nat}, (∀ i ∈ is, i ∈ vs) → L2.wipe (setsS is us σ) vs = L2.wipe σ vs
  | [], _, _, _, _ => rfl
  | _ :: _, [], _, _, _ => rfl
  | i :: is, u :: us, σ, vs, h => by
    show L2.wipe (setsS is us (σ.set i (some u))) vs = _
    rw [wipe_sets fun j hj => h j (List.mem_cons_of_mem _ hj)]
    exact wipe_eq (eqOff.of_set i σ _) (h i List.mem_cons_self)
theorem wipe_sub : ∀ {us : List Nat} {σ : L2.St} {vs : List Nat}, (∀ i ∈ us, i ∈ vs) → L2.wipe (L2.wipe σ us) vs = L2.wipe σ vs
  | [], _, _, _ => rfl
  | i :: us, σ, vs, h => by
    show L2.wipe ((L2.wipe σ us).set i none) vs = _
    rw [wipe_eq (eqOff.of_set i _ _) (h i List.mem_cons_self)]
    exact wipe_sub fun j hj => h j (List.mem_cons_of_mem _ hj)
/-! ### targets -/
def tG (S : Sys) (tg : List Nat) (tu : Bool) : TG := fun v σ H Q => ∃ F d ρ ρ1, Fit F H ∧ Rp S.K F v d ∧ EnvOk S ρ σ F H ∧ bindT tg tu d ρ = .ok ρ1 ∧
  ∀ σ1, EnvOk S ρ1 σ1 F H → (∀ vs, (∀ i ∈ tg, i ∈ vs) → L2.wipe σ1 vs = L2.wipe σ vs) → (∀ j, j ∉ tg → σ1[j]? = σ[j]?) → Q σ1 H
theorem sets_off : ∀ (is : List Nat) (us : List V) (σ : L2.St) (j : Nat), j ∉ is → (setsS is us σ)[j]? = σ[j]?
  | [], _, _, _, _ => rfl
  | _ :: _, [], _, _, _ => rfl
  | i :: is, u :: us, σ, j, h => by
    show (setsS is us (σ.set i (some u)))[j]? = _
    rw [sets_off is us _ j fun z => h (List.mem_cons_of_mem _ z), List.getElem?_set_ne fun z => h (by rw [z]; exact List.mem_cons_self)]
def gNms (is : List Nat) : TGs := fun vs σ H Q => vs.length = is.length ∧ Q (setsS is vs σ) H
/-- what may be stored in X -/
def Stores (sc0 : Scope) (X : Cx) : Prop := ∀ x, locB sc0 x = true → L2.Loc X.env.scope x ∧ (X.fn x = true ∨ X.env.scope.names.lookup x = some .local)
theorem pg_nm {sc0 : Scope} {X : Cx} (hN : X.N = N) (nd : N.Nodup) (st : Stores sc0 X) {i : Nat} {e : Expr} {x : Str} (hx : asName e = some x) (h1 : N[i]? = some x) (h2 : locB sc0 x = true) : PG X e (gName i) := by
  obtain ⟨p, rfl⟩ := asName_eq hx
  obtain ⟨s1, s2⟩ := st x h2
  exact pg_name (by rw [hN]; exact nd) (by rw [hN]; exact h1) s1 s2
theorem tgNames_len {sc0 : Scope} : ∀ {is : List Nat} {es : List Expr}, tgNames N sc0 is es = true → es.length = is.length
  | [], [], _ => rfl
  | [], _ :: _, h => by cases h
  | _ :: _, [], h => by cases h
  | i :: is, e :: es, h => by
    simp only [tgNames, Bool.and_eq_true] at h
    show es.length + 1 = is.length + 1
    rw [tgNames_len h.2]
theorem tgNames_cons {sc0 : Scope} {i : Nat} {is : List Nat} {e : Expr} {es : List Expr} (h : tgNames N sc0 (i :: is) (e :: es) = true) : ∃ x, asName e = some x ∧ N[i]? = some x ∧ locB sc0 x = true ∧ tgNames N sc0 is es = true := by
  simp only [tgNames, Bool.and_eq_true] at h
  obtain ⟨h1, h2⟩ := h
  split at h1
  · rename_i x hx
    simp only [Bool.and_eq_true, decide_eq_true_eq] at h1
    exact ⟨x, hx, h1.1, h1.2, h2⟩
  · cases h1
theorem pgs_nms {sc0 : Scope} {X : Cx} (hN : X.N = N) (nd : N.Nodup) (st : Stores sc0 X) : ∀ {is : List Nat} {es : List Expr}, tgNames N sc0 is es = true → PGs X es (gNms is)
  | [], [], _ => ⟨fun pins s σ H vs us Q I r q => pgs_nil.run pins s σ H vs us Q I r ⟨List.eq_nil_of_length_eq_zero q.1, by
      have := q.2
      obtain rfl := List.eq_nil_of_length_eq_zero q.1
      exact this⟩⟩
  | [], _ :: _, h => by cases h
  | _ :: _, [], h => by cases h
  | i :: is, e :: es, h => by
    obtain ⟨x, hx, h1, h2, h3⟩ := tgNames_cons h
    have g1 := pg_nm hN nd st hx h1 h2
    have g2 := pgs_nms hN nd st h3
    obtain ⟨p, rfl⟩ := asName_eq hx
    refine ⟨fun pins s σ H vs us Q I r q => (pgs_cons g1 g2).run pins s σ H vs us Q I r ?_⟩
    obtain ⟨hl, q⟩ := q
    cases vs with
    | nil => cases hl
    | cons v vs => exact ⟨v, vs, rfl, ⟨by simpa using hl, q⟩⟩
theorem assignEach_names {sc0 : Scope} {env : PySem.Env} : ∀ {is : List Nat} {es : List Expr}, tgNames N sc0 is es = true → (assignEach es env).length = is.length ∧ (assignEach es env).findIdx? (·.1) = none
  | [], [], _ => ⟨rfl, rfl⟩
  | [], _ :: _, h => by cases h
  | _ :: _, [], h => by cases h
  | i :: is, e :: es, h => by
    obtain ⟨x, hx, h1, h2, h3⟩ := tgNames_cons h
    obtain ⟨p, rfl⟩ := asName_eq hx
    obtain ⟨q1, q2⟩ := assignEach_names (env := env) h3
    constructor
    · show (assignEach es env).length + 1 = is.length + 1
      rw [q1]
    · show List.findIdx? (·.1) ((false, assign (.Name x p) env) :: assignEach es env) = none
      rw [List.findIdx?_cons]
      simp only [Bool.false_eq_true, if_false, q2, Option.map_none]
theorem pg_ok {sc0 : Scope} {S : Sys} {X : Cx} (hK : X.K = S.K) (hN : X.N = N) (nd : N.Nodup) (hc : X.calm = true) (st : Stores sc0 X) {tg : List Nat} {tu : Bool} {e : Expr} (h : chkTg N sc0 tg tu e = true) : PG X e (tG S tg tu) := by
  unfold chkTg at h
  split at h
  · rename_i htu
    subst htu
    split at h
    · rename_i es he
      obtain ⟨k, p, rfl⟩ := asTup_eq he
      obtain ⟨q1, q2⟩ := assignEach_names (env := X.env) h
      refine (pg_tup (n := tg.length) hc (pgs_nms hN nd st h) q1 q2).imp fun v σ H Q q => ?_
      obtain ⟨F, d, ρ, ρ1, sm, r, en, hb, q⟩ := q
      unfold bindT at hb
      simp only [↓reduceIte] at hb
      split at hb
      · rename_i ds
        split at hb
        · rename_i hl
          cases hb
          cases r with
          | @tup a xs _ h1 z r =>
            have hxl : xs.length = tg.length := by rw [r.length]; exact hl
            rw [hK]
            refine ⟨a, xs, rfl, Same.sqt sm h1, hxl, hxl, q _ (EnvOk.sets _ _ _ _ _ en r) (fun vs hvs => wipe_sets hvs) fun j hj => sets_off _ _ _ j hj⟩
        · cases hb
      · cases hb
    · cases h
  · rename_i htu
    have htu : tu = false := by simpa using htu
    subst htu
    match tg, h with
    | [], h => cases h
    | [i], h =>
      obtain ⟨x, hx, h1, h2, h3⟩ := tgNames_cons h
      refine (pg_nm hN nd st hx h1 h2).imp fun v σ H Q q => ?_
      obtain ⟨F, d, ρ, ρ1, sm, r, en, hb, q⟩ := q
      cases hb
      exact q _ (en.set (u := .fz d) r.tp i) (fun vs hvs => wipe_sets (is := [i]) (us := [v]) hvs) fun j hj => sets_off [i] [v] _ j hj
    | i :: j :: is, h => simp [tgNames] at h
/-! ### a comprehension's block -/
def Sys.noX (S : Sys) : Sys := { S with W := fun _ _ _ _ => False }
theorem Ctx.blk {sc : Scope} {S : Sys} {X : Cx} (C : Ctx T n N sc S X) (s : Shared) (H : Hp) (scope : Scope) (cl : List (Str × Addr)) (C' : Addr) (fp : List Addr) :
    Ctx T n N (relS scope sc) S.noX (X.blk s H scope (compEnvC scope cl C' X.env) fp) where
  hK := C.hK
  hN := C.hN
  hsc := by rw [← C.hsc]; rfl
  nd := C.nd
  calm := C.calm
  room := C.room
  bl := C.bl
  cons := C.cons
  dics := C.dics
  fns := C.fns
  tk := takes0
theorem Ctx.blkStores {sc : Scope} {S : Sys} {X : Cx} (C : Ctx T n N sc S X) (s : Shared) (H : Hp) (scope : Scope) (cl : List (Str × Addr)) (C' : Addr) (fp : List Addr) :
    Stores scope (X.blk s H scope (compEnvC scope cl C' X.env) fp) := fun x hx => by
  have key : ∀ k, k ≠ NameKind.free → scope.names.lookup x = some k → (compEnvC scope cl C' X.env).scope.names.lookup x = some k := fun k hk e => lookup_relS_keep (sc := X.env.scope) hk e
  rcases locB_ok hx with e | e
  · exact ⟨.inl (key _ (by decide) e), .inr (key _ (by decide) e)⟩
  · refine ⟨.inr (key _ (by decide) e), .inl ?_⟩
    show (scope.names.lookup x == some .cell) = true
    rw [e]; rfl
theorem blk_own {own : List Nat} {f : Nat → Str} : (own.map fun v => (f v, v)).map (·.2) = own := by
  rw [List.map_map]
  exact List.map_id own
end
end Wv
namespace Wv
open PySem PySem.Spec PyProof.Rows L2
open LamX (Tabs TabS ExtN CodeO TabB)
variable [Tbs]
section
variable {T : Tx} {n : Nat} {N : List Str}
theorem compL_cons {bnd : PyData → R Env} {cond : Env → R Bool} {elt : Env → R PyData} {d : PyData} {ds ys : List PyData} (h : compL bnd cond elt (d :: ds) = .ok ys) :
    ∃ ρ b, bnd d = .ok ρ ∧ cond ρ = .ok b ∧ ((b = true ∧ ∃ x zs, elt ρ = .ok x ∧ compL bnd cond elt ds = .ok zs ∧ ys = x :: zs) ∨ (b = false ∧ compL bnd cond elt ds = .ok ys)) := by
  unfold compL at h
  obtain ⟨ρ, h1, h⟩ := bind_ok h
  obtain ⟨b, h2, h⟩ := bind_ok h
  cases b with
  | true =>
    obtain ⟨x, h3, h⟩ := bind_ok h
    obtain ⟨zs, h4, rfl⟩ := map1_ok h
    exact ⟨ρ, true, h1, h2, .inl ⟨rfl, x, zs, h3, h4, rfl⟩⟩
  | false => exact ⟨ρ, false, h1, h2, .inr ⟨rfl, h⟩⟩
theorem plain_ok {d e : PyData} (h : plain d = .ok e) : e = d := by
  unfold plain at h
  split at h
  · cases h
  · cases h; rfl
/-- an element of a comprehension: kept data -/
theorem tEv.elt {S : Sys} {ρ : Env} {σ : L2.St} {F H : Hp} {t : Tm} {Q : VK} {d : PyData} (e : EnvOk S ρ σ F H) (sm : Fit F H)
    (h : (((ev S.run t ρ).bind (keepV (isLoc t))).calm.bind fun v => (dat v).bind plain) = .ok d)
    (hk : ∀ v F' H', Adv F H F' H' → Rp S.K F' v d → Q v H') : tEv S t σ H Q := by
  obtain ⟨u, h1, h⟩ := bind_ok h
  obtain ⟨d', h2, h⟩ := bind_ok h
  have := plain_ok h
  subst this
  have h1 := calm_ok h1
  refine tEv.kept (k := fun u' => u' = u) e sm (by rw [h1]; exact rfl) fun u' v F1 H1 eu a1 vk fr => ?_
  subst eu
  obtain ⟨F2, a2, f2, vk2⟩ := settle a1 vk fr
  exact hk v F2 H1 a2 (VOk.rp vk2 h2)
/-- the list that a comprehension fills, at D: zs so far -/
theorem own_step {F1 H1 F2 H2 F3 H3 : Hp} {D : Addr} (hD : H1 D = none) (a : Adv F1 H1 F2 H2) (fD : F2 D = none) (b : Adv F2 H2 F3 H3) (hd : ∃ o, H2 D = some o) : F3 D = none := by
  cases q : F3 D with
  | none => rfl
  | some o =>
    rcases b.nw D o q with r | r
    · rw [fD] at r; cases r
    · obtain ⟨o', h⟩ := hd; rw [h] at r; cases r
theorem own_write {F1 H1 F3 H3 : Hp} {D : Addr} {o : HO} {acc : List V} (hD : H1 D = none) (a : Adv F1 H1 F3 H3) (fD : F3 D = none) (h : H3 D = some (.lst acc)) : Adv F1 H1 F3 (upd H3 D o) := a.write hD fD h dull_lst
theorem wipe_idem (σ : L2.St) (vs : List Nat) : L2.wipe (L2.wipe σ vs) vs = L2.wipe σ vs := wipe_sub fun _ h => h
theorem t_comp {S : Sys} {X : Cx} {x : Tm} {tg : List Nat} {tu : Bool} {it : It} {c : Tms} {own : List Nat} (htg : ∀ i ∈ tg, i ∈ own) (σ : L2.St) (H : Hp) (Q : VK) (q : tEv S (.comp x tg tu it c own) σ H Q) :
    tLc (tIt S false it) (tG S.noX tg tu) (tCond S.noX c) (tEv S.noX x) own σ H Q := by
  obtain ⟨ρ, F, en, sm, q⟩ := q
  simp only [ev] at q
  rw [postR_bind] at q
  refine ⟨ρ, F, en, sm, PostR.mono q (fun ds _ q J G F1 H1 a1 w hG _ hz D hD => ?_) fun _ _ q => q⟩
  rw [postR_map1, postR_calm] at q
  obtain ⟨ys, hys, q⟩ := q.get
  have fD1 : F1 D = none := by
    cases e : F1 D with
    | none => rfl
    | some o => have := a1.fh D o e; rw [hD] at this; cases this
  refine lc_it w (fun i H2 => ∃ F2 acc zs rest, Adv F1 H1 F2 H2 ∧ F2 D = none ∧ H2 D = some (.lst acc) ∧ RpAll S.K F2 acc zs ∧ acc.length ≤ i ∧
      compL (fun d => bindT tg tu d (wipeE ρ own)) (fun ρ1 => (evCond S.run c ρ1).calm) (fun ρ1 => ((ev S.run x ρ1).bind (keepV (isLoc x))).calm.bind fun v => (dat v).bind plain) (ds.drop i) = .ok rest ∧ zs ++ rest = ys) ?_ ?_ ?_ ?_
  · exact ⟨F1, [], [], ys, .own a1.fh hD, fD1, upd_same, .nil, Nat.le_refl _, hys, rfl⟩
  · intro i H2 _ ⟨F2, acc, zs, rest, a2, _⟩
    exact hG H2 a2.hh
  · intro i y H2 H3 hi ⟨F2, acc, zs, rest, a2, fD, hacc, rz, hl, hc, hzs⟩ hy
    obtain ⟨F3, d, a3, hd, rd⟩ := hy F2 a2.ff a2.fh
    have hdr : ds.drop i = d :: ds.drop (i + 1) := by
      have hlt : i < ds.length := hi
      rw [List.drop_eq_getElem_cons hlt]
      congr 1
      exact Option.some.inj ((List.getElem?_eq_getElem hlt).symm.trans hd)
    rw [hdr] at hc
    obtain ⟨ρ1, b, hb, hcond, hrest⟩ := compL_cons hc
    have en3 : EnvOk S.noX (wipeE ρ own) (L2.wipe σ own) F3 H3 := (((en.adv a1).adv a2).adv a3).wipe own
    have fD3 := own_step hD a2 fD a3 ⟨_, hacc⟩
    refine ⟨F3, d, wipeE ρ own, ρ1, a3.fh, rd, en3, hb, fun σ1 en1 hw _ => ⟨by rw [hw own htg, wipe_idem], ?_⟩⟩
    have hcond := calm_ok hcond
    refine ⟨ρ1, F3, en1, a3.fh, ?_⟩
    show PostR (evCond S.run c ρ1) _ _
    rw [hcond]
    intro F4 H4 a4
    have A4 := a3.trans a4
    have fD4 := own_step hD a2 fD A4 ⟨_, hacc⟩
    have hD4 : H4 D = some (.lst acc) := A4.hh.at_ hacc
    rcases hrest with ⟨rfl, e, rs, he, hrs, hy2⟩ | ⟨rfl, hrs⟩
    · refine iteT (tEv.elt (en1.adv a4) a4.fh he fun v F5 H5 a5 rv => ?_)
      have A5 := A4.trans a5
      have fD5 := own_step hD a2 fD A5 ⟨_, hacc⟩
      have hD5 : H5 D = some (.lst acc) := A5.hh.at_ hacc
      have hi' : i < ds.length := hi
      refine ⟨acc, hD5, by omega, F5, acc ++ [v], zs ++ [e], rs, own_write hD (a2.trans A5) fD5 hD5, fD5, upd_same, (rz.mono A5.ff).append (.cons rv .nil), by rw [List.length_append]; simp; omega, hrs, ?_⟩
      rw [List.append_assoc, List.singleton_append, ← hy2]
      exact hzs
    · exact iteF ⟨F4, acc, zs, rest, a2.trans A4, fD4, hD4, rz.mono A4.ff, by omega, hrs, hzs⟩
  · intro H2 ⟨F2, acc, zs, rest, a2, fD, hacc, rz, hl, hc, hzs⟩
    rw [List.drop_length] at hc
    unfold compL at hc
    cases hc
    rw [List.append_nil] at hzs
    subst hzs
    refine q (.ref D) F2 H2 (a1.trans a2) ⟨D, rfl, fD, acc, hacc, by omega, rz⟩ fun _ d _ => ⟨D, rfl, a1.hh.free hD⟩
theorem good_comp {x : Tm} {tg : List Nat} {tu : Bool} {it : It} {c : Tms} {own : List Nat} (gi : GoodIt T n N it) (gx : GoodE T n N x) (gc : GoodEs T n N c) : GoodE T n N (.comp x tg tu it c own) := fun sc S X C e h => by
  simp only [chkE] at h
  split at h
  · rename_i y t i fs sc1 he
    simp only [Bool.and_eq_true, List.all_eq_true, decide_eq_true_eq] at h
    obtain ⟨⟨⟨⟨⟨⟨⟨⟨h1, h2⟩, h3⟩, h4⟩, h5⟩, h6⟩, h7⟩, h8⟩, h9⟩ := h
    obtain ⟨pos, rfl⟩ := asComp_eq he
    have htg : ∀ i ∈ tg, i ∈ own := fun i hi => by simpa using h4 i hi
    have hb : BlkOk X.N X.env.scope sc1 (own.map fun v => (N.getD v ⟨#[]⟩, v)) := blkOk_by (by rw [C.hN, C.hsc]; exact h5)
    have g1 := gi sc S X C false t i h1
    have p := pe_lc (pos := pos) C.calm (by rw [C.hN]; exact C.nd) g1 hb
      (fun s H C' cl fp => pg_ok (X := X.blk s H sc1 (compEnvC sc1 cl C' X.env) fp) (S := S.noX) C.hK C.hN C.nd C.calm (C.blkStores s H sc1 cl C' fp) h3)
      (fun s H C' cl fp => (gc _ _ _ (C.blk s H sc1 cl C' fp) fs h7).2.2.2.2.1 h9)
      (fun s H C' cl fp => (gx _ _ _ (C.blk s H sc1 cl C' fp) y h8).1)
      (fun v => folded_pure h2 X.env v)
    rw [blk_own] at p
    have h10 : PE X (.ListComp y [⟨t, i, fs, 0⟩] sc1 pos) (tEv S (.comp x tg tu it c own)) := p.imp (t_comp (X := X) htg)
    exact ⟨h10, pt_of C.hK h10 rfl⟩
  · cases h
end
end Wv
/-! Statements. -/
namespace Wv
open PySem PySem.Spec PyProof.Rows L2
open LamX (Tabs TabS ExtN CodeO TabB)
variable [Tbs]
structure StOk (S : Sys) (H0 F0 : Hp) (ρ : Env) (σ : L2.St) (F H : Hp) : Prop where
  adv : Adv F0 H0 F H
  env : EnvOk S ρ σ F H
  own : ∀ (i : Nat) (d : PyData) (a : Addr), ρ[i]? = some (some (.ow d)) → σ[i]? = some (some (.ref a)) → H0 a = none
  ap : ∀ (i j : Nat) (d e : PyData) (a : Addr), i ≠ j → ρ[i]? = some (some (.ow d)) → ρ[j]? = some (some (.ow e)) → σ[i]? = some (some (.ref a)) → σ[j]? ≠ some (some (.ref a))
def PostO (S : Sys) (H0 F0 : Hp) (D : Ends) (r : R Out) : Prop := PostR r (fun o => match o with
  | .nx ρ' => ∀ σ' F' H', StOk S H0 F0 ρ' σ' F' H' → D.nx σ' H'
  | .rt u => ∀ v F' H', Adv F0 H0 F' H' → VOk S.K S.fa F' H' v u → FreshV H0 v u → D.rt v H') (errS S H0)
def tSm (S : Sys) (s : Sm) : TS := fun D σ H => ∃ H0 F0 ρ F, StOk S H0 F0 ρ σ F H ∧ PostO S H0 F0 D (exS S.run s ρ)
def tSs (S : Sys) (s : Sms) : TS := fun D σ H => ∃ H0 F0 ρ F, StOk S H0 F0 ρ σ F H ∧ PostO S H0 F0 D (exs S.run s ρ)
section
variable {S : Sys} {H0 F0 F H F' H' : Hp} {ρ : Env} {σ : L2.St}
theorem StOk.sm (s : StOk S H0 F0 ρ σ F H) : Fit F H := s.adv.fh
theorem StOk.step (s : StOk S H0 F0 ρ σ F H) (a : Adv F H F' H') : StOk S H0 F0 ρ σ F' H' := ⟨s.adv.trans a, s.env.adv a, s.own, s.ap⟩
theorem errP.up {x : Nat} (h : errS S H0 x) (s : StOk S H0 F0 ρ σ F H) : errP S σ H x := fun H2 e => h H2 (s.adv.hh.trans e) σ
theorem set_get {α : Type} {l : List α} {i j : Nat} {x y : α} (h : (l.set i x)[j]? = some y) : (j = i ∧ y = x) ∨ (j ≠ i ∧ l[j]? = some y) := by
  by_cases hij : i = j
  · subst hij
    have hl : i < l.length := by
      have := (List.getElem?_eq_some_iff.mp h).1
      simpa using this
    rw [List.getElem?_set_self hl] at h
    cases h
    exact .inl ⟨rfl, rfl⟩
  · rw [List.getElem?_set_ne hij] at h
    exact .inr ⟨Ne.symm hij, h⟩
theorem get_set_self {α : Type} {l : List α} {i : Nat} {x y : α} (h : (l.set i x)[i]? = some y) : y = x := by
  rcases set_get h with ⟨_, e⟩ | ⟨e, _⟩
  · exact e
  · exact absurd rfl e
theorem EnvOk.owAt (e : EnvOk S ρ σ F H) {j : Nat} {d : PyData} (h : ρ[j]? = some (some (.ow d))) : ∃ b, σ[j]? = some (some (.ref b)) ∧ F b = none ∧ Ow S.K F H b d := by
  obtain ⟨v, h1, h2⟩ := e.2 j _ h
  obtain ⟨b, rfl, h3, h4⟩ := h2
  exact ⟨b, h1, h3, h4⟩
/-- a new value is stored: fresh against the heap H1 that stood before it came -/
theorem StOk.store {H1 F1 : Hp} (s : StOk S H0 F0 ρ σ F1 H1) (a : Adv F1 H1 F H) {v : V} {u : Vl} (vk : VOk S.K S.fa F H v u) (fr : FreshV H1 v u) (i : Nat) : StOk S H0 F0 (ρ.set i (some u)) (σ.set i (some v)) F H := by
  have s2 := s.step a
  refine ⟨s2.adv, s2.env.set vk i, fun j d b h1 h2 => ?_, fun j k d e b hjk h1 h2 h3 h4 => ?_⟩
  · rcases set_get h1 with ⟨rfl, hu⟩ | ⟨hj, h1⟩
    · have hu := Option.some.inj hu
      obtain ⟨p, e1, e2⟩ := fr d hu.symm
      have := get_set_self h2
      rw [e1] at this
      cases this
      exact s.adv.hh.free e2
    · rw [List.getElem?_set_ne (Ne.symm hj)] at h2
      exact s.own j d b h1 h2
  · have key : ∀ {k : Nat} {e : PyData}, ρ[k]? = some (some (.ow e)) → σ[k]? = some (some (.ref b)) → ∀ d, u = .ow d → v = .ref b → False := fun {k e} h1 h2 d hu hv => by
      obtain ⟨p, e1, e2⟩ := fr d hu
      rw [hv] at e1
      cases e1
      obtain ⟨q, e3, e4, e5⟩ := s.env.owAt h1
      rw [h2] at e3
      cases e3
      obtain ⟨o, ho⟩ := e5.there
      rw [e2] at ho
      cases ho
    rcases set_get h1 with ⟨e1, hu⟩ | ⟨hj, g1⟩
    · have hu := Option.some.inj hu
      rw [e1] at h3
      have hv := get_set_self h3
      rcases set_get h2 with ⟨e2, _⟩ | ⟨hk, g2⟩
      · exact hjk (e1.trans e2.symm)
      · rw [List.getElem?_set_ne (Ne.symm hk)] at h4
        exact key g2 h4 d hu.symm (Option.some.inj hv).symm
    · rw [List.getElem?_set_ne (Ne.symm hj)] at h3
      rcases set_get h2 with ⟨e2, hu⟩ | ⟨hk, g2⟩
      · have hu := Option.some.inj hu
        rw [e2] at h4
        have hv := get_set_self h4
        exact key g1 h3 e hu.symm (Option.some.inj hv).symm
      · rw [List.getElem?_set_ne (Ne.symm hk)] at h4
        exact s.ap j k d e b hjk g1 g2 h3 h4
/-- one's own is written -/
theorem StOk.write (s : StOk S H0 F0 ρ σ F H) {i : Nat} {d d' : PyData} {b : Addr} {o : HO} (h1 : ρ[i]? = some (some (.ow d))) (h2 : σ[i]? = some (some (.ref b))) (hF : F b = none) (ho : Ow S.K F (upd H b o) b d') : StOk S H0 F0 (ρ.set i (some (.ow d'))) σ F (upd H b o) := by
  have hn := s.own i d b h1 h2
  obtain ⟨b1, e1, _, ow1⟩ := s.env.owAt h1
  rw [h2] at e1
  cases e1
  obtain ⟨o0, e0, d0⟩ := ow1.dull
  refine ⟨s.adv.write hn hF e0 d0, ⟨by rw [List.length_set]; exact s.env.1, fun j u q => ?_⟩, fun j e a q1 q2 => ?_, fun j k e f a hjk q1 q2 q3 q4 => ?_⟩
  · rcases set_get q with ⟨rfl, hu⟩ | ⟨hj, q⟩
    · cases hu
      exact ⟨.ref b, h2, b, rfl, hF, ho⟩
    · obtain ⟨v, e1, e2⟩ := s.env.2 j u q
      refine ⟨v, e1, ?_⟩
      cases u with
      | fz x => exact e2
      | ow x =>
        obtain ⟨p, rfl, n1, o1⟩ := e2
        have hpb : p ≠ b := by
          rintro rfl
          exact s.ap j i x d p hj q h1 e1 h2
        refine ⟨p, rfl, n1, ?_⟩
        cases x with
        | list ds =>
          obtain ⟨vs, g1, g2, g3⟩ := o1
          exact ⟨vs, by rw [upd_ne hpb]; exact g1, g2, g3⟩
        | dict kvs =>
          obtain ⟨xs, g1, g3⟩ := o1
          exact ⟨xs, by rw [upd_ne hpb]; exact g1, g3⟩
        | _ => exact o1.elim
      | fn f => exact e2
      | ex f => exact e2
      | pt f => exact e2
      | fd f => exact e2
  · rcases set_get q1 with ⟨rfl, hu⟩ | ⟨hj, q1⟩
    · rw [h2] at q2
      cases q2
      exact hn
    · exact s.own j e a q1 q2
  · have lift : ∀ {j : Nat} {e : PyData}, (ρ.set i (some (.ow d')))[j]? = some (some (.ow e)) → ∃ e', ρ[j]? = some (some (.ow e')) := fun {j e} q => by
      rcases set_get q with ⟨rfl, _⟩ | ⟨_, q⟩
      · exact ⟨d, h1⟩
      · exact ⟨e, q⟩
    obtain ⟨e', q1⟩ := lift q1
    obtain ⟨f', q2⟩ := lift q2
    exact s.ap j k e' f' a hjk q1 q2 q3 q4
/-- names take frozen data -/
theorem StOk.over (s : StOk S H0 F0 ρ σ F H) {ρ1 : Env} {σ1 : L2.St} {tg : List Nat} (en : EnvOk S ρ1 σ1 F H) (h1 : ∀ j, j ∉ tg → σ1[j]? = σ[j]?) (h2 : ∀ (j : Nat) (d : PyData), ρ1[j]? = some (some (.ow d)) → j ∉ tg ∧ ρ[j]? = some (some (.ow d))) : StOk S H0 F0 ρ1 σ1 F H := by
  refine ⟨s.adv, en, fun i d a q1 q2 => ?_, fun i j d e a hij q1 q2 q3 q4 => ?_⟩
  · obtain ⟨n1, q1⟩ := h2 i d q1
    rw [h1 i n1] at q2
    exact s.own i d a q1 q2
  · obtain ⟨n1, q1⟩ := h2 i d q1
    obtain ⟨n2, q2⟩ := h2 j e q2
    rw [h1 i n1] at q3
    rw [h1 j n2] at q4
    exact s.ap i j d e a hij q1 q2 q3 q4
theorem setAll_ow : ∀ (is : List Nat) (ds : List PyData) (ρ : Env) (j : Nat) (d : PyData), is.length = ds.length → (setAll is ds ρ)[j]? = some (some (.ow d)) → j ∉ is ∧ ρ[j]? = some (some (.ow d))
  | [], _, _, j, d, _, h => ⟨by simp, h⟩
  | _ :: _, [], _, j, d, hl, h => by cases hl
  | i :: is, e :: ds, ρ, j, d, hl, h => by
    obtain ⟨h1, h2⟩ := setAll_ow is ds _ j d (by simpa using hl) h
    rcases set_get h2 with ⟨rfl, hu⟩ | ⟨hj, h3⟩
    · cases hu
    · exact ⟨fun z => (List.mem_cons.mp z).elim hj h1, h3⟩
theorem bindT_ow {tg : List Nat} {tu : Bool} {d : PyData} {ρ ρ1 : Env} (h : bindT tg tu d ρ = .ok ρ1) {j : Nat} {e : PyData} (q : ρ1[j]? = some (some (.ow e))) : j ∉ tg ∧ ρ[j]? = some (some (.ow e)) := by
  unfold bindT at h
  split at h
  · split at h
    · split at h
      · rename_i hl
        cases h
        exact setAll_ow _ _ _ _ _ hl.symm q
      · cases h
    · cases h
  · split at h
    · cases h
      rcases set_get q with ⟨rfl, hu⟩ | ⟨hj, h3⟩
      · cases hu
      · exact ⟨by simpa using hj, h3⟩
    · cases h
/-- one's own in slot i stands still from now on -/
theorem StOk.frz1 (s : StOk S H0 F0 ρ σ F H) (i : Nat) : ∃ F', StOk S H0 F0 (match ρ[i]? with
    | some (some (.ow d)) => ρ.set i (some (frzV d))
    | _ => ρ) σ F' H := by
  split
  · rename_i d hd
    obtain ⟨b, h1, h2, h3⟩ := s.env.owAt hd
    obtain ⟨o, ho, no, t⟩ := h3.still (fa := S.fa) h2
    have hn := s.own i d b hd h1
    have a2 := s.adv.still hn h2 ho no
    have hσ : σ.set i (some (.ref b)) = σ := by
      refine List.ext_getElem? fun j => ?_
      by_cases hij : i = j
      · subst hij
        rw [List.getElem?_set_self (List.getElem?_eq_some_iff.mp h1).1, h1]
      · rw [List.getElem?_set_ne hij]
    refine ⟨upd F b o, a2, ⟨by rw [List.length_set]; exact s.env.1, fun j u hj => ?_⟩, fun j e p q1 q2 => ?_, fun j k d' e p hjk q1 q2 q3 q4 => ?_⟩
    · rcases set_get hj with ⟨rfl, hu⟩ | ⟨hne, hj⟩
      · cases hu
        exact ⟨.ref b, h1, t⟩
      · obtain ⟨v, e1, e2⟩ := s.env.2 j u hj
        refine ⟨v, e1, ?_⟩
        cases u with
        | fz x => exact Tp.monoS (same_upd h2) (same_upd h2) e2
        | ow x =>
          obtain ⟨p, rfl, n1, o1⟩ := e2
          have hpb : p ≠ b := by
            rintro rfl
            exact s.ap j i x d p hne hj hd e1 h1
          exact ⟨p, rfl, by rw [upd_ne hpb]; exact n1, o1.mono (same_upd h2) (Ext.refl H)⟩
        | fn f => exact e2
        | ex f => exact e2
        | pt f => exact ⟨Tp.monoS (same_upd h2) (same_upd h2) e2.1, e2.2.mono (same_upd h2)⟩
        | fd f =>
          obtain ⟨p, xs, g1, g2, g3⟩ := e2
          exact ⟨p, xs, g1, same_upd h2 _ _ g2, g3.mono (same_upd h2)⟩
    · rcases set_get q1 with ⟨rfl, hu⟩ | ⟨hne, q1⟩
      · exact absurd (Option.some.inj hu).symm (argV_no (.ow d) _)
      · exact s.own j e p q1 q2
    · rcases set_get q1 with ⟨rfl, hu⟩ | ⟨hne, q1⟩
      · exact absurd (Option.some.inj hu).symm (argV_no (.ow d) _)
      · rcases set_get q2 with ⟨rfl, hu⟩ | ⟨hne2, q2⟩
        · exact absurd (Option.some.inj hu).symm (argV_no (.ow d) _)
        · exact s.ap j k d' e p hjk q1 q2 q3 q4
  · exact ⟨F, s⟩
theorem StOk.frz : ∀ (is : List Nat) {ρ : Env} {F : Hp}, StOk S H0 F0 ρ σ F H → ∃ F', StOk S H0 F0 (Wv.frz ρ is) σ F' H
  | [], ρ, F, s => ⟨F, s⟩
  | i :: is, ρ, F, s => by
    obtain ⟨F1, s1⟩ := s.frz1 i
    exact StOk.frz is s1
/-- a loop's base: what stands still now -/
theorem StOk.base (s : StOk S H0 F0 ρ σ F H) : ∃ H1, Ext H0 H1 ∧ Fit F H1 ∧ StOk S H1 F ρ σ F H ∧ (∀ {ρ' : Env} {σ' : L2.St} {F' H' : Hp}, StOk S H1 F ρ' σ' F' H' → StOk S H0 F0 ρ' σ' F' H' ∧ Same F F') ∧ ∀ {F' H' : Hp}, Adv F H1 F' H' → Adv F0 H0 F' H' := by
  -- what the entry tracked, and what stands still
  let H1 : Hp := fun a => match H0 a with
    | some o => some o
    | none => F a
  have s01 : Same H0 H1 := fun a o h => by show (match H0 a with | some o => some o | none => F a) = _; rw [h]
  have h01 : Ext H0 H1 := Ext.of s01
  have hF1 : Fit F H1 := ⟨fun a o h => by
    show (match H0 a with | some o => some o | none => F a) = _
    cases e : H0 a with
    | none => exact h
    | some u =>
      have q2 := s.adv.fh a o h
      by_cases ht : ∃ ps, u = .tbl ps
      · obtain ⟨ps, rfl⟩ := ht
        obtain ⟨ps', q1⟩ := s.adv.hh.tt a ps e
        rw [q1] at q2
        exact absurd (by rw [h, ← q2]) (s.adv.fh.nt a ps')
      · have q1 := s.adv.hh.ex a u e fun ps z => ht ⟨ps, z⟩
        rw [q1] at q2
        exact q2, s.adv.fh.nt, s.adv.f0.tb.ext s01⟩
  have h1H : Ext H1 H := ⟨fun a o h n => by
    have h : (match H0 a with | some o => some o | none => F a) = some o := h
    cases e : H0 a with
    | none => rw [e] at h; exact s.adv.fh a o h
    | some u => rw [e] at h; cases h; exact s.adv.hh.ex a o e n, fun {a} h => by
    show (match H0 a with | some o => some o | none => F a) = none
    rw [s.adv.hh.free h]
    exact s.adv.fh.none h, fun _ => s.adv.fh.tb, fun a ps h => by
    have h : (match H0 a with | some o => some o | none => F a) = some (.tbl ps) := h
    cases e : H0 a with
    | none => rw [e] at h; exact absurd h (s.adv.fh.nt a ps)
    | some u => rw [e] at h; cases h; exact s.adv.hh.tt a ps e⟩
  have h1n : ∀ a, H1 a = none → H0 a = none := fun a h => by
    have h : (match H0 a with | some o => some o | none => F a) = none := h
    cases e : H0 a with
    | none => rfl
    | some u => rw [e] at h; cases h
  have up : ∀ {F' H' : Hp}, Adv F H1 F' H' → Adv F0 H0 F' H' := fun {F' H'} b => ⟨h01.trans b.hh, s.adv.ff.trans b.ff, b.fh, fun a o h => by
    rcases b.nw a o h with q | q
    · exact s.adv.nw a o q
    · exact .inr (h1n a q), s.adv.f0⟩
  refine ⟨H1, h01, hF1, ⟨⟨h1H, Same.refl F, s.adv.fh, fun a o h => .inl h, hF1⟩, s.env, fun i d a q1 q2 => ?_, s.ap⟩, fun {ρ' σ' F' H'} s' => ⟨⟨up s'.adv, s'.env, fun i d a q1 q2 => h1n a (s'.own i d a q1 q2), s'.ap⟩, s'.adv.ff⟩, up⟩
  · show (match H0 a with | some o => some o | none => F a) = none
    rw [s.own i d a q1 q2]
    obtain ⟨b, e1, e2, _⟩ := s.env.owAt q1
    rw [q2] at e1
    cases e1
    exact e2
end
end Wv
namespace Wv
open PySem PySem.Spec PyProof.Rows L2
open LamX (Tabs TabS ExtN CodeO TabB)
variable [Tbs]
def notComp : Expr → Bool
  | .ListComp .. => false
  | .SetComp .. => false
  | .DictComp .. => false
  | _ => true
def augB : Op2 → Operator → Bool
  | .add, .Add => true
  | .sub, .Sub => true
  | .mul, .Mult => true
  | _, _ => false
def notTup : Expr → Bool
  | .Tuple .. => false
  | _ => true
theorem swaps_no {e : Expr} (h : notComp e = true) (t : Option Expr) (l : Nat) (env : PySem.Env) : swapsWith e t l env = pure false := by
  cases e <;> first | rfl | cases h
/-- a tuple of constants -/
def foldT : Expr → Bool
  | .Tuple vs _ _ => vs.all (foldedForSure 8)
  | _ => false
theorem swap_folded {env : PySem.Env} {es vs : List Expr} {k k2 : Nat} {p p2 : Pos} (h : vs.all (foldedForSure 8) = true) : swappedStores [.Tuple es k p] (.Tuple vs k2 p2) env = pure none := by
  unfold swappedStores
  simp only [h]
  split
  · rfl
  · split
    · rfl
    · split
      · rfl
      · rfl
theorem swap_none {env : PySem.Env} {es : List Expr} {k : Nat} {p : Pos} {e : Expr} (h : (notTup e || foldT e) = true) : swappedStores [.Tuple es k p] e env = pure none := by
  cases e with
  | Tuple vs k2 p2 => exact swap_folded h
  | _ => rfl
/-- two plain names are stored at once -/
def swapB (sc : Scope) (x y : Str) (px py : Pos) (ea eb : Expr) : Bool :=
  (sc.kind == .function) && (sc.names.lookup x == some .local) && (sc.names.lookup y == some .local) && (py.line == px.line) && !(x == y) && notStar ea && notStar eb && !(foldedForSure 8 ea && foldedForSure 8 eb) && !(constantsAlone 8 ea && constantsAlone 8 eb)
/-- two names of which one at least is a cell -/
def cellsB (sc : Scope) (x y : Str) (ea eb : Expr) : Bool :=
  locB sc x && locB sc y && ((sc.names.lookup x == some .cell) || (sc.names.lookup y == some .cell)) && notStar ea && notStar eb
theorem swap_cells {env : PySem.Env} {x y : Str} {px py pt pt2 : Pos} {kt k2 : Nat} {ea eb : Expr} (h : cellsB env.scope x y ea eb = true) :
    swappedStores [.Tuple [.Name x px, .Name y py] kt pt] (.Tuple [ea, eb] k2 pt2) env = pure none := by
  unfold cellsB at h
  simp only [Bool.and_eq_true, Bool.or_eq_true, beq_iff_eq] at h
  obtain ⟨⟨⟨⟨h1, h2⟩, h3⟩, h4⟩, h5⟩ := h
  have n1 : (([Expr.Name x px, Expr.Name y py].filterMap fun e => match e with
    | .Name id pos => if (env.kindOf id == some .local && pos.line == px.line) = true then some id else none
    | _ => none).length != 2) = true := by
    have c0 : (some NameKind.cell == some NameKind.local) = false := rfl
    rcases h3 with h3 | h3
    · simp only [List.filterMap_cons, List.filterMap_nil, show env.kindOf _ = some NameKind.cell from h3, c0, Bool.false_and, Bool.false_eq_true, if_false]
      by_cases hq : (env.kindOf y == some NameKind.local && py.line == px.line) = true
      · rw [if_pos hq]; rfl
      · rw [if_neg hq]; rfl
    · simp only [List.filterMap_cons, List.filterMap_nil, show env.kindOf _ = some NameKind.cell from h3, c0, Bool.false_and, Bool.false_eq_true, if_false]
      by_cases hq : (env.kindOf x == some NameKind.local && px.line == px.line) = true
      · rw [if_pos hq]; rfl
      · rw [if_neg hq]; rfl
  unfold swappedStores
  simp only
  split
  · rfl
  · split
    · rfl
    · refine (if_pos ?_).trans rfl
      rw [Bool.or_eq_true]
      exact .inl n1
theorem swap_two {env : PySem.Env} {x y : Str} {px py pt pt2 : Pos} {kt k2 : Nat} {ea eb : Expr} (h : swapB env.scope x y px py ea eb = true) :
    swappedStores [.Tuple [.Name x px, .Name y py] kt pt] (.Tuple [ea, eb] k2 pt2) env = pure (some [x, y]) ∧ env.scope.names.lookup x = some .local ∧ env.scope.names.lookup y = some .local := by
  unfold swapB at h
  simp only [Bool.and_eq_true, beq_iff_eq, Bool.not_eq_true'] at h
  obtain ⟨⟨⟨⟨⟨⟨⟨⟨h1, h2⟩, h3⟩, h4⟩, h5⟩, h6⟩, h7⟩, h8⟩, h9⟩ := h
  refine ⟨?_, h2, h3⟩
  have k1 : env.blockKind = .function := by
    unfold Env.blockKind
    rw [h1]
    rfl
  have s1 : ∀ e : Expr, notStar e = true → (match e with
    | .Starred .. => true
    | _ => false) = false := fun e he => by cases e <;> first | rfl | cases he
  unfold swappedStores
  have n1 : ([Expr.Name x px, Expr.Name y py].filterMap fun e => match e with
    | .Name id pos => if (env.kindOf id == some .local && pos.line == px.line) = true then some id else none
    | _ => none) = [x, y] := by
    simp only [List.filterMap_cons, List.filterMap_nil, Env.kindOf, h2, h3, h4, beq_self_eq_true, Bool.and_self, if_true]
  have n2 : [x, y].eraseDups.length = 2 := by
    have h5' : (y == x) = false := by rw [Bool.eq_false_iff] at h5 ⊢; intro z; exact h5 (by rw [beq_iff_eq] at z ⊢; exact z.symm)
    simp [List.eraseDups_cons, h5']
  simp only [k1, List.length_cons, List.length_nil, List.any_cons, List.any_nil, List.all_cons, List.all_nil, h8, h9, Bool.and_true, Bool.or_false]
  refine (if_neg (by decide)).trans ?_
  refine (if_neg fun z => ?_).trans ?_
  · rw [Bool.or_eq_true] at z
    rcases z with z | z
    · exact absurd ((s1 ea h6).symm.trans z) (by decide)
    · exact absurd ((s1 eb h7).symm.trans z) (by decide)
  have n3 : (Option.map (fun (e : Expr) => e.pos.line) [Expr.Name x px, Expr.Name y py].head?).getD 0 = px.line := rfl
  simp only [n3, List.filterMap_cons, List.filterMap_nil, Env.kindOf, h2, h3, h4, beq_self_eq_true, Bool.and_self, if_true, n2, List.length_cons, List.length_nil]
  rfl
section
variable (T : Tx) (N : List Str)
mutual
def chkS (sc : Scope) : Sm → Stmt → Bool
  | .asg i t, st => match st with
    | .Assign [.Name x _] e _ => decide (N[i]? = some x) && locB sc x && chkE T N sc t e && (notComp e || (asComp e).isSome)
    | _ => false
  | .asgT is t, st => match st with
    | .Assign [.Tuple es _ _] e _ => tgNames N sc is es && chkE T N sc t e && (notTup e || foldT e) && notComp e
    | _ => false
  | .par i j a b, st => match st with
    | .Assign [.Tuple [.Name x px, .Name y py] _ _] (.Tuple [ea, eb] _ _) _ => decide (N[i]? = some x) && decide (N[j]? = some y) && decide (i ≠ j) && (swapB sc x y px py ea eb || cellsB sc x y ea eb) && chkE T N sc a ea && chkE T N sc b eb
    | _ => false
  | .aug i o t, st => match st with
    | .AugAssign (.Name x _) p e _ => slB N sc i x && augB o p && chkE T N sc t e && locB sc x
    | _ => false
  | .setix i k t, st => match st with
    | .Assign [.Subscript (.Name x _) ke _] e _ => slB N sc i x && chkE T N sc k ke && chkE T N sc t e && notSlice ke && notComp e
    | _ => false
  | .mut m i es, st => match st with
    | .Expr (.Call (.Attribute (.Name x _) nm ap) xs [] p) _ => slB N sc i x && decide (nm = muN m) && chkEs T N sc es xs && (ap.endLine == p.line) && (match m with
      | .append => decide (xs.length = 1)
      | .insert => decide (xs.length = 2))
    | _ => false
  | .if_ c a b, st => match st with
    | .If e xs ys _ => chkE T N sc c e && chkSs sc a xs && chkSs sc b ys
    | _ => false
  | .for_ tg tu it b, st => match st with
    | .For t i xs [] _ => chkIt T N sc it t i && notSet i && chkTg N sc tg tu t && chkSs sc b xs
    | _ => false
  | .while_ c b, st => match st with
    | .While e xs [] _ => chkE T N sc c e && chkSs sc b xs
    | _ => false
  | .ret t, st => match st with
    | .Return (some e) _ => chkE T N sc t e
    | _ => false
  | .retN, st => match st with
    | .Return none _ => true
    | _ => false
  | .exp t, st => match st with
    | .Expr e _ => chkE T N sc t e && notComp e
    | _ => false
  | .raise _, _ => false
  | .pass, st => match st with
    | .Pass _ => true
    | _ => false
  | .star i j t, st => match st with
    | .Assign [.Tuple [.Name x _, .Starred (.Name y _) _] _ _] e _ => decide (N[i]? = some x) && decide (N[j]? = some y) && decide (i ≠ j) && locB sc x && locB sc y && chkE T N sc t e && notComp e && notTup e
    | _ => false
  | .dput i k t, st => match st with
    | .Assign [.Subscript (.Name x _) ke _] e _ => slB N sc i x && chkE T N sc k ke && chkE T N sc t e && notSlice ke && notComp e
    | _ => false
  | .retK mn neg t, st => match st with
    | .Return (some (.Call (.Name f _) [y] [⟨some k, .Lambda params body scope _, _⟩] _)) _ => decide (f = if mn then ("min" : Str) else "sorted") && glB sc f && notStar y && decide (k = "key") && chkE T N sc t y && lamB neg params body scope && decide (N ∈ T.lams)
    | _ => false
  | .asgK i mn neg t, st => match st with
    | .Assign [.Name x _] (.Call (.Name f _) [y] [⟨some k, .Lambda params body scope _, _⟩] _) _ => decide (N[i]? = some x) && locB sc x && (decide (f = if mn then ("min" : Str) else "sorted") && glB sc f && notStar y && decide (k = "key") && chkE T N sc t y && lamB neg params body scope && decide (N ∈ T.lams))
    | _ => false
  | .no, _ => true
def chkSs (sc : Scope) : Sms → List Stmt → Bool
  | .nil, xs => xs.isEmpty
  | .cons s r, xs => match xs with
    | x :: xs => chkS sc s x && chkSs sc r xs
    | [] => false
  | .fz _ r, xs => chkSs sc r xs
end
end
structure CtxS (T : Tx) (n : Nat) (N : List Str) (sc : Scope) (S : Sys) (X : Cx) : Prop extends Ctx T n N sc S X where
  st : Stores sc X
  po : PassesOwn (model X.prog X.w) X.A X.env X.xe
  tab : N ∈ T.lams → ∃ c P, X.env.code = .ref c ∧ TabB X.base X.mg c P ∧ (P, X.env.qual ++ "<lambda>") ∈ Tbs.T ∧ ∀ p ∈ Tbs.T, p.1 = P → p.2 = X.env.qual ++ "<lambda>"
section
variable {T : Tx} {n : Nat} {N : List Str}
def GoodS (T : Tx) (n : Nat) (N : List Str) (s : Sm) : Prop := ∀ (sc : Scope) (S : Sys) (X : Cx), CtxS T n N sc S X → ∀ st, chkS T N sc s st = true → PS X st (tSm S s)
def GoodSs (T : Tx) (n : Nat) (N : List Str) (s : Sms) : Prop := ∀ (sc : Scope) (S : Sys) (X : Cx), CtxS T n N sc S X → ∀ st, chkSs T N sc s st = true → PSs X st (tSs S s)
theorem PostO.bind {S : Sys} {H0 F0 : Hp} {D : Ends} {α : Type} {r : R α} {f : α → R Out} (h : PostO S H0 F0 D (r.bind f)) : PostR r (fun a => PostO S H0 F0 D (f a)) (errS S H0) := by
  unfold PostO at h
  rw [postR_bind] at h
  exact h
/-! ### x = e -/
theorem asg_rule {t : Tm} (ht : ∀ sc S X, Ctx T n N sc S X → ∀ e, chkE T N sc t e = true → PE X e (tEv S t)) (hc : ∀ sc S X, Ctx T n N sc S X → ∀ y gs sc1 pos, chkE T N sc t (.ListComp y gs sc1 pos) = true → ∀ (i : Nat) (x : Str) (px spos : Pos), N[i]? = some x →
      X.env.scope.names.lookup x = some .local → swapsWith (.ListComp y gs sc1 pos) (some (.Name x px)) spos.line X.env = pure true → ∃ te, PS X (.Assign [.Name x px] (.ListComp y gs sc1 pos) spos) (tAsg te (gName i)) ∧ ∀ σ H Q, tEv S t σ H Q → te σ H Q)
    {sc : Scope} {S : Sys} {X : Cx} (C : CtxS T n N sc S X) {i : Nat} {x : Str} {px pos : Pos} {e : Expr} (h1 : N[i]? = some x) (h2 : locB sc x = true) (h3 : chkE T N sc t e = true) (h4 : notComp e = true ∨ (asComp e).isSome = true) :
    ∃ te, PS X (.Assign [.Name x px] e pos) (tAsg te (gName i)) ∧ ∀ σ H Q, tEv S t σ H Q → te σ H Q := by
  have he := ht sc S X C.toCtx e h3
  obtain ⟨s1, s2⟩ := C.st x h2
  have pg : PG X (.Name x px) (gName i) := pg_name (by rw [C.hN]; exact C.nd) (by rw [C.hN]; exact h1) s1 s2
  have plain : swapsWith e (some (.Name x px)) pos.line X.env = pure false → ∃ te, PS X (.Assign [.Name x px] e pos) (tAsg te (gName i)) ∧ ∀ σ H Q, tEv S t σ H Q → te σ H Q := fun hs =>
    ⟨tEv S t, ps_asg he pg hs, fun _ _ _ q => q⟩
  rcases h4 with h4 | h4
  · exact plain (swaps_no h4 _ _ _)
  · obtain ⟨⟨y, gs, sc1⟩, h5⟩ := Option.isSome_iff_exists.mp h4
    obtain ⟨p, rfl⟩ := asComp_eq h5
    have hsw : swapsWith (.ListComp y gs sc1 p) (some (.Name x px)) pos.line X.env = pure (X.env.blockKind == .function && X.env.kindOf x == some .local && px.line == p.line && !(sc1.names.any fun (n, k) => n == x && (k == .local || k == .cell))) := rfl
    cases hb : (X.env.blockKind == .function && X.env.kindOf x == some .local && px.line == p.line && !(sc1.names.any fun (n, k) => n == x && (k == .local || k == .cell))) with
    | false => rw [hb] at hsw; exact plain hsw
    | true =>
      rw [hb] at hsw
      simp only [Bool.and_eq_true, beq_iff_eq] at hb
      exact hc sc S X C.toCtx y gs sc1 p h3 i x px pos h1 hb.1.1.2 hsw
theorem good_asg {i : Nat} {t : Tm} (ht : ∀ sc S X, Ctx T n N sc S X → ∀ e, chkE T N sc t e = true → PE X e (tEv S t)) (hc : ∀ sc S X, Ctx T n N sc S X → ∀ y gs sc1 pos, chkE T N sc t (.ListComp y gs sc1 pos) = true → ∀ (i : Nat) (x : Str) (px spos : Pos), N[i]? = some x →
      X.env.scope.names.lookup x = some .local → swapsWith (.ListComp y gs sc1 pos) (some (.Name x px)) spos.line X.env = pure true → ∃ te, PS X (.Assign [.Name x px] (.ListComp y gs sc1 pos) spos) (tAsg te (gName i)) ∧ ∀ σ H Q, tEv S t σ H Q → te σ H Q) :
    GoodS T n N (.asg i t) := fun sc S X C st h => by
  simp only [chkS] at h
  split at h
  · rename_i x px e pos
    simp only [Bool.and_eq_true, decide_eq_true_eq, Bool.or_eq_true] at h
    obtain ⟨⟨⟨h1, h2⟩, h3⟩, h4⟩ := h
    obtain ⟨te, p, i⟩ := asg_rule ht hc C h1 h2 h3 h4
    refine p.imp fun D σ H q => i σ H _ ?_
    obtain ⟨H0, F0, ρ, F, s, q⟩ := q
    simp only [exS] at q
    refine tEv.kept s.env s.sm (PostR.mono q.bind (fun _ _ q => q) fun _ _ q => errP.up q s) fun u v F1 H1 k a1 vk fr => ?_
    exact k _ F1 H1 (s.store a1 vk fr _)
  · cases h
/-- what the comprehension's swap wants, of a comprehension -/
theorem swap_comp {x : Tm} {tg : List Nat} {tu : Bool} {it : It} {c : Tms} {own : List Nat} (gi : GoodIt T n N it) (gx : GoodE T n N x) (gc : GoodEs T n N c) :
    ∀ sc S X, Ctx T n N sc S X → ∀ y gs sc1 pos, chkE T N sc (.comp x tg tu it c own) (.ListComp y gs sc1 pos) = true → ∀ (i : Nat) (nm : Str) (px spos : Pos), N[i]? = some nm →
      X.env.scope.names.lookup nm = some .local → swapsWith (.ListComp y gs sc1 pos) (some (.Name nm px)) spos.line X.env = pure true → ∃ te, PS X (.Assign [.Name nm px] (.ListComp y gs sc1 pos) spos) (tAsg te (gName i)) ∧ ∀ σ H Q, tEv S (.comp x tg tu it c own) σ H Q → te σ H Q := fun sc S X C y gs sc1 pos h i nm px spos hi hl hsw => by
  simp only [chkE] at h
  split at h
  · rename_i y' t i' fs sc1' he
    cases he
    simp only [Bool.and_eq_true, List.all_eq_true, decide_eq_true_eq] at h
    obtain ⟨⟨⟨⟨⟨⟨⟨⟨h1, h2⟩, h3⟩, h4⟩, h5⟩, h6⟩, h7⟩, h8⟩, h9⟩ := h
    have htg : ∀ i ∈ tg, i ∈ own := fun i hi => by simpa using h4 i hi
    have hb : BlkOk X.N X.env.scope sc1 (own.map fun v => (N.getD v ⟨#[]⟩, v)) := blkOk_by (by rw [C.hN, C.hsc]; exact h5)
    have g1 := gi sc S X C false t i' h1
    have p := ps_setLc (pos := pos) (spos := spos) (py := px) C.calm (by rw [C.hN]; exact C.nd) (by rw [C.hN]; exact hi) hl hsw g1 hb
      (fun s H C' cl fp => pg_ok (X := X.blk s H sc1 (compEnvC sc1 cl C' X.env) fp) (S := S.noX) C.hK C.hN C.nd C.calm (C.blkStores s H sc1 cl C' fp) h3)
      (fun s H C' cl fp => (gc _ _ _ (C.blk s H sc1 cl C' fp) fs h7).2.2.2.2.1 h9)
      (fun s H C' cl fp => (gx _ _ _ (C.blk s H sc1 cl C' fp) y h8).1)
      (fun v => folded_pure h2 X.env v)
    rw [blk_own] at p
    exact ⟨_, p, t_comp (X := X) htg⟩
  · cases h
/-! ### a, b = e -/
theorem bindT_noerr {tg : List Nat} {tu : Bool} {d : PyData} {ρ : Env} {k : Env → Prop} {e : Nat → Prop} (h : PostR (bindT tg tu d ρ) k e) : ∃ ρ1, bindT tg tu d ρ = .ok ρ1 ∧ k ρ1 := by
  cases hb : bindT tg tu d ρ with
  | ok ρ1 => rw [hb] at h; exact ⟨ρ1, rfl, h⟩
  | bad => rw [hb] at h; exact h.elim
  | err x =>
    exfalso
    unfold bindT at hb
    split at hb
    · split at hb
      · split at hb <;> cases hb
      · cases hb
    · split at hb <;> cases hb
theorem good_asgT {is : List Nat} {t : Tm} (ga : GoodE T n N t) : GoodS T n N (.asgT is t) := fun sc S X C st h => by
  simp only [chkS] at h
  split at h
  · rename_i es k p e pos
    simp only [Bool.and_eq_true] at h
    obtain ⟨⟨⟨h1, h2⟩, h3⟩, h4⟩ := h
    have g1 := (ga sc S X C.toCtx e h2).1
    have pg : PG X (.Tuple es k p) (tG S is true) := pg_ok C.hK C.hN C.nd C.calm C.st (by unfold chkTg; exact h1)
    have hs : swapsWithSole [.Tuple es k p] e pos.line X.env = pure false := swaps_no h4 (some (.Tuple es k p)) pos.line X.env
    have hw : swappedStores [.Tuple es k p] e X.env = pure none := swap_none h3
    refine (ps_asg g1 pg hs hw rfl).imp fun D σ H q => ?_
    obtain ⟨H0, F0, ρ, F, s, q⟩ := q
    simp only [exS, evD, evK] at q
    have q := q.bind
    rw [postR_bind, postR_bind] at q
    refine tEv.kept s.env s.sm (PostR.mono q (fun _ _ q => q) fun _ _ q => errP.up q s) fun u v F1 H1 k a1 vk fr => ?_
    obtain ⟨d, hd, k⟩ := k.dat
    have k := k.plain
    unfold PostO at k
    rw [postR_map1] at k
    obtain ⟨F2, a2, f2, vk2⟩ := settle a1 vk fr
    obtain ⟨ρ1, hb, k⟩ := bindT_noerr k
    have s2 := s.step a2
    exact ⟨F2, d, ρ, ρ1, a2.fh, VOk.rp vk2 hd, s2.env, hb, fun σ1 en1 _ off => k σ1 F2 H1 (s2.over en1 off fun j e q => bindT_ow hb q)⟩
  · cases h
/-! ### x[k] = e -/
theorem getO_post {ρ : Env} {i : Nat} {k : PyData → Prop} {e : Nat → Prop} (h : PostR (getO ρ i) k e) : ∃ d, ρ[i]? = some (some (.ow d)) ∧ isDict d = false ∧ k d := by
  unfold getO at h
  split at h
  · rename_i d hd
    unfold plain at h
    split at h
    · exact h.elim
    · rename_i hx
      exact ⟨d, hd, by simpa using hx, h⟩
  · exact h.elim
theorem good_setix {i : Nat} {k t : Tm} (gk : GoodE T n N k) (ga : GoodE T n N t) : GoodS T n N (.setix i k t) := fun sc S X C st h => by
  simp only [chkS] at h
  split at h
  · rename_i x px ke sp e pos
    simp only [Bool.and_eq_true] at h
    obtain ⟨⟨⟨⟨h1, h2⟩, h3⟩, h4⟩, h5⟩ := h
    unfold slB at h1
    simp only [Bool.and_eq_true, decide_eq_true_eq] at h1
    obtain ⟨⟨n1, n2⟩, n3⟩ := h1
    have g1 := (ga sc S X C.toCtx e h3).1
    have g2 := (gk sc S X C.toCtx ke h2).1
    have pv : PE X (.Name x px) (tVar i) := pe_var (by rw [C.hN]; exact n1) (by rw [C.hsc]; exact visB_ok n2) (okB_1 n3) (okB_2 n3)
    have pg : PG X (.Subscript (.Name x px) ke sp) (gSub (tVar i) (tEv S k) rSetL) := pg_sub pv g2 set_list (fun v => by cases ke <;> first | rfl | cases h4)
    have hs : swapsWithSole [.Subscript (.Name x px) ke sp] e pos.line X.env = pure false := swaps_no h5 (some (.Subscript (.Name x px) ke sp)) pos.line X.env
    refine (ps_asg g1 pg hs rfl rfl).imp fun D σ H q => ?_
    obtain ⟨H0, F0, ρ, F, s, q⟩ := q
    simp only [exS, evD, evK] at q
    have q := q.bind
    rw [postR_bind, postR_bind] at q
    refine tEv.kept s.env s.sm (PostR.mono q (fun _ _ q => q) fun _ _ q => errP.up q s) fun u v F1 H1 k1 a1 vk fr => ?_
    obtain ⟨d, hd, k1⟩ := k1.dat
    have k1 := k1.plain
    obtain ⟨F2, a2, f2, vk2⟩ := settle a1 vk fr
    have rv := VOk.rp vk2 hd
    have s2 := s.step a2
    have k1 := PostO.bind k1
    obtain ⟨xs, hxs, _, k1⟩ := getO_post k1
    have k1 := PostO.bind k1
    unfold evT at k1
    rw [postR_bind] at k1
    obtain ⟨b, hb, _, _⟩ := s2.env.owAt hxs
    refine ⟨.ref b, hb, tEv.mk s2.env s2.sm (PostR.mono k1 (fun _ _ q => q) fun _ _ q => errP.up q s2) fun u3 v3 F3 H3 k3 a3 vk3 fr3 => ?_⟩
    obtain ⟨kd, hkd, k3⟩ := k3.dat
    have s3 := s2.step a3
    obtain ⟨b', hb', hF, ow⟩ := s3.env.owAt hxs
    rw [hb] at hb'
    cases hb'
    have tk := vk3.tp a3.fh hkd
    have k3 := PostO.bind k3
    cases xs with
    | list ds =>
      obtain ⟨vs, hv, hz, rr⟩ := ow
      cases tk with
      | int j =>
        simp only [setD] at k3
        split at k3
        · rename_i m hm
          have k3 : PostO S H0 F0 D (.ok (.nx (ρ.set i (some (.ow (.list (ds.set m d))))))) := k3
          refine ⟨b, vs, j, m, rfl, rfl, hv, by rw [rr.length]; exact hm, k3 σ F3 _ (s3.write hxs hb hF ⟨vs.set m v, upd_same, by rw [List.length_set]; exact hz, rr.set (rv.mono a3.ff) m⟩)⟩
        · exact k3.elim
      | _ => exact k3.elim
    | dict kvs => exact k3.elim
    | _ => exact ow.elim
  · cases h
end
end Wv
namespace Wv
open PySem PySem.Spec PyProof.Rows L2
open LamX (Tabs TabS ExtN CodeO TabB)
variable [Tbs]
section
variable {T : Tx} {n : Nat} {N : List Str}
theorem PostO.evB {S : Sys} {H0 F0 : Hp} {D : Ends} {t : Tm} {ρ : Env} {f : Bool → R Out} (h : PostO S H0 F0 D ((evB S.run t ρ).bind f)) : PostR (evB S.run t ρ) (fun a => PostO S H0 F0 D (f a)) (errS S H0) := h.bind
theorem good_if {c : Tm} {a b : Sms} (gc : GoodE T n N c) (ga : GoodSs T n N a) (gb : GoodSs T n N b) : GoodS T n N (.if_ c a b) := fun sc S X C st h => by
  simp only [chkS] at h
  split at h
  · rename_i e xs ys pos
    simp only [Bool.and_eq_true] at h
    obtain ⟨⟨h1, h2⟩, h3⟩ := h
    refine (ps_if (gc sc S X C.toCtx e h1).2 (ga sc S X C xs h2) (gb sc S X C ys h3)).imp fun D σ H q => ?_
    obtain ⟨H0, F0, ρ, F, s, q⟩ := q
    simp only [exS] at q
    refine ⟨ρ, F, s.env, s.sm, PostR.mono q.bind (fun t _ q F1 H1 a1 => ?_) fun _ _ q => errP.up q s⟩
    cases t with
    | true => exact iteT ⟨H0, F0, ρ, F1, s.step a1, q⟩
    | false => exact iteF ⟨H0, F0, ρ, F1, s.step a1, q⟩
  · cases h
theorem good_while {c : Tm} {b : Sms} (gc : GoodE T n N c) (gb : GoodSs T n N b) : GoodS T n N (.while_ c b) := fun sc S X C st h => by
  simp only [chkS] at h
  split at h
  · rename_i e xs pos
    simp only [Bool.and_eq_true] at h
    obtain ⟨h1, h2⟩ := h
    refine (ps_while C.po (gc sc S X C.toCtx e h1).2 (gb sc S X C xs h2)).imp fun D σ H q => ?_
    obtain ⟨H0, F0, ρ, F, s, q⟩ := q
    simp only [exS] at q
    refine ⟨fun m σ2 H2 => ∃ ρ2 F2, StOk S H0 F0 ρ2 σ2 F2 H2 ∧ PostO S H0 F0 D (whileL (fun ρ1 => evB S.run c ρ1) (fun ρ1 => exs S.run b ρ1) m ρ2), ⟨fuel, ρ, F, s, q⟩, fun m σ2 H2 hw => ?_⟩
    obtain ⟨ρ2, F2, s2, q2⟩ := hw
    cases m with
    | zero => exact q2.elim
    | succ m =>
      unfold whileL at q2
      refine ⟨ρ2, F2, s2.env, s2.sm, PostR.mono q2.bind (fun t _ q F1 H1 a1 => ?_) fun _ _ q => errP.up q s2⟩
      cases t with
      | true =>
        refine iteT ⟨fun σ3 H3 => ∃ ρ3 F3, StOk S H0 F0 ρ3 σ3 F3 H3 ∧ PostO S H0 F0 D (whileL (fun ρ1 => evB S.run c ρ1) (fun ρ1 => exs S.run b ρ1) m ρ3), fun σ3 H3 q3 => ⟨m, Nat.lt_succ_self m, q3⟩, H0, F0, ρ2, F1, s2.step a1, ?_⟩
        have q : PostO S H0 F0 D ((exs S.run b ρ2).bind _) := q
        refine PostR.mono q.bind (fun o _ q => ?_) fun _ _ q => q
        cases o with
        | nx ρ3 => exact fun σ3 F3 H3 s3 => ⟨ρ3, F3, s3, q⟩
        | rt u => exact q
      | false => exact iteF (q _ _ _ (s2.step a1))
  · cases h
theorem good_for {tg : List Nat} {tu : Bool} {it : It} {b : Sms} (gi : GoodIt T n N it) (gb : GoodSs T n N b) : GoodS T n N (.for_ tg tu it b) := fun sc S X C st h => by
  simp only [chkS] at h
  split at h
  · rename_i t i xs pos
    simp only [Bool.and_eq_true] at h
    obtain ⟨⟨⟨h1, h2⟩, h3⟩, h4⟩ := h
    have pg : PG X t (tG S tg tu) := pg_ok C.hK C.hN C.nd C.calm C.st h3
    refine (ps_for (pos := pos) C.po C.calm (gi sc S X C.toCtx true t i h1) pg (gb sc S X C xs h4) (fun v => folded_pure h2 X.env v)).imp fun D σ H q => ?_
    obtain ⟨H0, F0, ρ, F, s, q⟩ := q
    simp only [exS] at q
    refine ⟨ρ, F, s.env, s.sm, PostR.mono q.bind (fun ds _ q J G F1 H1 a1 w hG hG2 hz => ?_) fun _ _ q => errP.up q s⟩
    obtain ⟨HB, h0B, hFB, sB, back, up⟩ := (s.step a1).base
    refine ⟨fun i m σ2 H2 => m = ds.length - i ∧ i ≤ ds.length ∧ ∃ ρ2 F2, StOk S HB F1 ρ2 σ2 F2 H2 ∧ PostO S H0 F0 D (forL (fun d ρ => bindT tg tu d ρ) (fun ρ1 => exs S.run b ρ1) (ds.drop i) ρ2), ⟨ds.length, rfl, Nat.zero_le _, ρ, F1, sB, q⟩, fun i m σ2 H2 hw => ?_⟩
    obtain ⟨hm, hi, ρ2, F2, s2, q2⟩ := hw
    have g2 : G H2 := hG2 rfl H2 (s2.adv.ff.trans s2.adv.fh.sm)
    by_cases hi2 : i = ds.length
    · rw [hi2, List.drop_length] at q2
      rw [hi2]
      exact .inl ⟨w.stops H2 g2, q2 _ _ _ (back s2).1⟩
    · have hlt : i < ds.length := by omega
      refine .inr ⟨w.goes i H2 hlt g2, fun σ3 H3 => ∃ ρ3 F3, StOk S HB F1 ρ3 σ3 F3 H3 ∧ PostO S H0 F0 D (forL (fun d ρ => bindT tg tu d ρ) (fun ρ1 => exs S.run b ρ1) (ds.drop (i + 1)) ρ3), fun σ3 H3 q3 => ⟨ds.length - (i + 1), by omega, rfl, by omega, q3⟩, fun x H3 hy => ?_⟩
      obtain ⟨F3, d, a3, hd, rd⟩ := w.yields i H2 x H3 hlt g2 hy F2 s2.adv.ff s2.adv.fh
      have hdr : ds.drop i = d :: ds.drop (i + 1) := by
        rw [List.drop_eq_getElem_cons hlt]
        congr 1
        exact Option.some.inj ((List.getElem?_eq_getElem hlt).symm.trans hd)
      rw [hdr] at q2
      unfold forL at q2
      obtain ⟨ρ3, hb, q3⟩ := bindT_noerr q2.bind
      have s3 := s2.step a3
      refine ⟨F3, d, ρ2, ρ3, a3.fh, rd, s3.env, hb, fun σ1 en1 _ off => ⟨HB, F1, ρ3, F3, s3.over en1 off fun j e q => bindT_ow hb q, ?_⟩⟩
      refine PostR.mono q3.bind (fun o _ q => ?_) fun _ _ q => errS.mono q h0B
      cases o with
      | nx ρ4 => exact fun σ4 F4 H4 s4 => ⟨ρ4, F4, s4, q⟩
      | rt u => exact fun v F4 H4 a4 vk fr => q v F4 H4 (up a4) vk (fr.back h0B)
  · cases h
/-! ### return -/
theorem good_retN : GoodS T n N .retN := fun sc S X C st h => by
  simp only [chkS] at h
  split at h
  · refine ps_retN.imp fun D σ H q => ?_
    obtain ⟨H0, F0, ρ, F, s, q⟩ := q
    simp only [exS] at q
    exact q .non F H s.adv .non .fz
  · cases h
theorem good_pass : GoodS T n N .pass := fun sc S X C st h => by
  simp only [chkS] at h
  split at h
  · refine ps_pass.imp fun D σ H q => ?_
    obtain ⟨H0, F0, ρ, F, s, q⟩ := q
    simp only [exS] at q
    exact q σ F H s
  · cases h
theorem good_exp {t : Tm} (ga : GoodE T n N t) : GoodS T n N (.exp t) := fun sc S X C st h => by
  simp only [chkS] at h
  split at h
  · rename_i e pos
    simp only [Bool.and_eq_true] at h
    refine (ps_expr (ga sc S X C.toCtx e h.1).1 (swaps_no h.2 none pos.line X.env)).imp fun D σ H q => ?_
    obtain ⟨H0, F0, ρ, F, s, q⟩ := q
    simp only [exS] at q
    exact tEv.mk s.env s.sm (PostR.mono q.bind (fun _ _ q => q) fun _ _ q => errP.up q s) fun u v F1 H1 k a1 vk fr => k σ F1 H1 (s.step a1)
  · cases h
theorem good_ret {t : Tm} (ga : GoodE T n N t) : GoodS T n N (.ret t) := fun sc S X C st h => by
  simp only [chkS] at h
  split at h
  · rename_i e pos
    cases hl : isLoc t with
    | false =>
      refine (ps_ret (ga sc S X C.toCtx e h).1).imp fun D σ H q => ?_
      obtain ⟨H0, F0, ρ, F, s, q⟩ := q
      simp only [exS] at q
      exact tEv.mk s.env s.sm (PostR.mono q.bind (fun _ _ q => q) fun _ _ q => errP.up q s) fun u v F1 H1 k a1 vk fr => k v F1 H1 (s.adv.trans a1) vk ((fr hl).back s.adv.hh)
    | true =>
      obtain ⟨i, rfl⟩ : ∃ i, t = .loc i := by
        cases t <;> first | (cases hl; done) | exact ⟨_, rfl⟩
      simp only [chkE] at h
      split at h
      · rename_i x hx
        obtain ⟨p, rfl⟩ := asName_eq hx
        unfold slB at h
        simp only [Bool.and_eq_true, decide_eq_true_eq] at h
        obtain ⟨⟨h1, h2⟩, h3⟩ := h
        have hp : PE X (.Name x p) (tVar i) := pe_var (by rw [C.hN]; exact h1) (by rw [C.hsc]; exact visB_ok h2) (okB_1 h3) (okB_2 h3)
        refine (ps_ret hp).imp fun D σ H q => ?_
        obtain ⟨H0, F0, ρ, F, s, q⟩ := q
        simp only [exS, ev] at q
        have q := q.bind
        split at q
        · rename_i u hu
          obtain ⟨v, e1, e2⟩ := s.env.2 i u hu
          refine ⟨v, e1, q v F H s.adv e2 fun d hd => ?_⟩
          subst hd
          obtain ⟨a, rfl, _, _⟩ := e2
          exact ⟨a, rfl, s.own i d a hu e1⟩
        · exact q.elim
      · cases h
  · cases h
/-! ### x.append(..), x.insert(..) -/
theorem muD_mut {m : Mu} {xs : PyData} {ds : List PyData} {ys : PyData} (h : muD m xs ds = .ok ys) : (m = .append ∧ ∃ l d, xs = .list l ∧ ds = [d] ∧ l.length < lim ∧ ys = .list (l ++ [d])) ∨
    (m = .insert ∧ ∃ l i d, xs = .list l ∧ ds = [.int i, d] ∧ l.length < lim ∧ 0 ≤ i ∧ i ≤ l.length ∧ ys = .list (l.take i.toNat ++ d :: l.drop i.toNat)) := by
  unfold muD at h
  split at h
  · split at h
    · cases h; rename_i l d hl; exact .inl ⟨rfl, l, d, rfl, rfl, hl, rfl⟩
    · cases h
  · split at h
    · cases h; rename_i l i d hl; exact .inr ⟨rfl, l, i, d, rfl, rfl, hl.1, hl.2.1, hl.2.2, rfl⟩
    · cases h
  · cases h
theorem mut_end {S : Sys} {H0 F0 F1 H1 : Hp} {D : Ends} {ρ : Env} {σ : L2.St} {m : Mu} {i : Nat} {ds : List PyData} {vs : List V} (s1 : StOk S H0 F0 ρ σ F1 H1) {d : PyData} {b : Addr} (hd : ρ[i]? = some (some (.ow d))) (hb : σ[i]? = some (some (.ref b)))
    (rr : RpAll S.K F1 vs ds) (q : PostO S H0 F0 D ((muD m d ds).bind fun ys => .ok (.nx (ρ.set i (some (.ow ys)))))) :
    ∃ xs, H1 b = some (.lst xs) ∧ xs.length < lim ∧ ((m = .append ∧ ∃ v, vs = [v] ∧ D.nx σ (upd H1 b (.lst (xs ++ [v])))) ∨ (m = .insert ∧ ∃ j v, vs = [.int j, v] ∧ 0 ≤ j ∧ j ≤ xs.length ∧ D.nx σ (upd H1 b (.lst (xs.take j.toNat ++ [v] ++ xs.drop j.toNat))))) := by
  have hbad : ∀ x, muD m d ds ≠ .err x := fun x z => by
    unfold muD at z
    split at z
    · split at z <;> cases z
    · split at z <;> cases z
    · cases z
  obtain ⟨b', hb', hF, ow⟩ := s1.env.owAt hd
  rw [hb] at hb'
  cases hb'
  have q := q.bind
  cases hm : muD m d ds with
  | bad => rw [hm] at q; exact q.elim
  | err x => exact absurd hm (hbad x)
  | ok ys =>
    rw [hm] at q
    have q : PostO S H0 F0 D (.ok (.nx (ρ.set i (some (.ow ys))))) := q
    have hline := lim_line
    rcases muD_mut hm with ⟨rfl, l, e, rfl, rfl, hl, rfl⟩ | ⟨rfl, l, j, e, rfl, rfl, hl, h0, hj, rfl⟩
    · obtain ⟨us, hv, hz, ru⟩ := ow
      cases rr with
      | @cons v _ _ _ r1 r2 =>
        cases r2
        refine ⟨us, hv, by rw [ru.length]; exact hl, .inl ⟨rfl, v, rfl, q σ F1 _ (s1.write hd hb hF ⟨us ++ [v], upd_same, ?_, ru.append (.cons r1 .nil)⟩)⟩⟩
        rw [List.length_append, ru.length]
        exact Nat.le_trans (Nat.succ_le_of_lt hl) hline
    · obtain ⟨us, hv, hz, ru⟩ := ow
      cases rr with
      | cons r0 r2 =>
        cases r0
        cases r2 with
        | @cons v _ _ _ r1 r3 =>
          cases r3
          have e1 : us.take j.toNat ++ [v] ++ us.drop j.toNat = us.take j.toNat ++ v :: us.drop j.toNat := by simp
          refine ⟨us, hv, by rw [ru.length]; exact hl, .inr ⟨rfl, j, v, rfl, h0, by rw [ru.length]; exact hj, q σ F1 _ (s1.write hd hb hF ⟨_, upd_same, ?_, by rw [e1]; exact (ru.take j.toNat).append (.cons r1 (ru.drop j.toNat))⟩)⟩⟩
          simp only [List.length_append, List.length_take, List.length_drop, List.length_singleton]
          have := ru.length
          omega
theorem few_ok {e : Expr} {es : List Expr} {env : PySem.Env} {pos : Pos} (h : (e :: es).all notStar = true) (hl : (e :: es).length < 29) : ((backTo pos (starEach (e :: es) env)).all (fun x => !x.1) && (backToKw pos (keywordEach [] env)).all (fun x => x.1.isSome)
      && decide ((e :: es).length + ([] : List Keyword).length + (if ([] : List Keyword).isEmpty then 0 else 1) < 30)) = true := by
  have h1 : (backTo pos (starEach (e :: es) env)).all (fun x => !x.1) = true := by
    have := star_any (e :: es) pos env h
    rw [List.all_eq_not_any_not]
    simpa using this
  rw [h1]
  have h2 : ([] : List Keyword).isEmpty = true := rfl
  have h3 : (backToKw pos (keywordEach [] env)).all (fun x => x.1.isSome) = true := rfl
  rw [h3, h2]
  simp only [Bool.true_and, decide_eq_true_eq, if_true, List.length_nil]
  omega
theorem good_mut {m : Mu} {i : Nat} {es : Tms} (g : GoodEs T n N es) : GoodS T n N (.mut m i es) := fun sc S X C st h => by
  simp only [chkS] at h
  split at h
  · rename_i x px nm ap xs p pos
    simp only [Bool.and_eq_true, decide_eq_true_eq] at h
    obtain ⟨⟨⟨⟨h1, h2⟩, h3⟩, h4⟩, h5⟩ := h
    unfold slB at h1
    simp only [Bool.and_eq_true, decide_eq_true_eq] at h1
    obtain ⟨⟨n1, n2⟩, n3⟩ := h1
    obtain ⟨_, g2, _, _, _, g6⟩ := g sc S X C.toCtx xs h3
    have pv : PE X (.Name x px) (tVar i) := pe_var (by rw [C.hN]; exact n1) (by rw [C.hsc]; exact visB_ok n2) (okB_1 n3) (okB_2 n3)
    have hline := lim_line
    have pre : ∀ {D : Ends} {σ : L2.St} {H : Hp} {r : V → List V → Hp → VK → Prop}, tSm S (.mut m i es) D σ H →
        (∀ (b : Addr) (H1 : Hp) (vs : List V) (us : List V), H1 b = some (.lst us) → us.length < lim → ((m = .append ∧ ∃ v, vs = [v] ∧ D.nx σ (upd H1 b (.lst (us ++ [v])))) ∨ (m = .insert ∧ ∃ j v, vs = [.int j, v] ∧ 0 ≤ j ∧ j ≤ us.length ∧ D.nx σ (upd H1 b (.lst (us.take j.toNat ++ [v] ++ us.drop j.toNat))))) → r (.ref b) vs H1 fun _ H1 => D.nx σ H1) →
        tDrop (tBM S.K "list" r (tVar i) (tDs S es)) D σ H := fun {D σ H r} q hr => by
      obtain ⟨H0, F0, ρ, F, s, q⟩ := q
      simp only [exS] at q
      obtain ⟨d, hd, hnd, q⟩ := getO_post q.bind
      obtain ⟨b, hb, hF, ow⟩ := s.env.owAt hd
      refine ⟨.ref b, hb, ?_, ρ, F, s.env, s.sm, PostR.mono (PostO.bind q) (fun ds _ q vs F1 H1 a1 rr => ?_) fun _ _ q => errP.up q s⟩
      · cases d with
        | list l =>
          obtain ⟨us, hv, _, _⟩ := ow
          exact .inl ⟨rfl, us, SqL.of hv⟩
        | dict _ => cases hnd
        | _ => exact ow.elim
      · obtain ⟨us, u1, u2, u3⟩ := mut_end (s.step a1) hd hb rr q
        exact hr b H1 vs us u1 u2 u3
    have hne : xs ≠ [] := by
      intro z
      subst z
      cases m <;> simp at h5
    obtain ⟨y, ys, rfl⟩ := List.exists_cons_of_ne_nil hne
    have hl : (y :: ys).length < 29 := by
      cases m with
      | append => have h5 := of_decide_eq_true h5; omega
      | insert => have h5 := of_decide_eq_true h5; omega
    have g6' := g6
    simp only [List.all_cons, Bool.and_eq_true] at g6'
    subst h2
    have sw : swapsWith (.Call (.Attribute (.Name x px) (muN m) ap) (y :: ys) [] p) none pos.line X.env = pure false := rfl
    cases m with
    | append =>
      have pb := pe_bm (cpos := p) (apos := ap) (name := muN .append) PySem.F.plainAttrs_list PySem.F.slot_list_append PySem.F.type_list_append (mt_append (X := X)) pv g2 rfl (few_ok g6 hl) (by simpa using h4) (starEach_cons g6'.1 ys X.env) (star_any ys p X.env g6'.2)
      rw [C.hK] at pb
      refine (ps_expr pb sw).imp fun D σ H q => pre q fun b H1 vs us u1 u2 u3 => ?_
      rcases u3 with ⟨_, v, rfl, u3⟩ | ⟨z, _⟩
      · exact ⟨b, us, v, rfl, rfl, u1, Nat.lt_of_lt_of_le u2 hline, u3⟩
      · cases z
    | insert =>
      have pb := pe_bm (cpos := p) (apos := ap) (name := muN .insert) PySem.F.plainAttrs_list PySem.F.slot_list_insert PySem.F.type_list_insert (mt_insert (X := X)) pv g2 rfl (few_ok g6 hl) (by simpa using h4) (starEach_cons g6'.1 ys X.env) (star_any ys p X.env g6'.2)
      rw [C.hK] at pb
      refine (ps_expr pb sw).imp fun D σ H q => pre q fun b H1 vs us u1 u2 u3 => ?_
      have h64 : lim < 2 ^ 63 := by decide
      rcases u3 with ⟨z, _⟩ | ⟨_, j, v, rfl, u3, u4, u5⟩
      · cases z
      · exact ⟨b, us, j, v, rfl, rfl, u1, Nat.lt_of_lt_of_le u2 hline, u3, by omega, u5⟩
  · cases h
end
end Wv
namespace Wv
open PySem PySem.Spec PyProof.Rows L2
open LamX (Tabs TabS ExtN CodeO TabB)
variable [Tbs]
/-! ### two stores at once -/
/-- the two values, kept -/
def tPa (S : Sys) (a b : Tm) : TA := fun σ H Q => ∃ ρ F, EnvOk S ρ σ F H ∧ Fit F H ∧ PostR ((evK S.run a ρ).bind fun u => (evK S.run b ρ).bind fun w => R.ok (u, w))
  (fun p => ∀ v1 v2 F' H', Adv F H F' H' → VOk S.K S.fa F' H' v1 p.1 → VOk S.K S.fa F' H' v2 p.2 → FreshV H v1 p.1 → FreshV H v2 p.2 → (∀ d e a, p.1 = .ow d → p.2 = .ow e → v1 = .ref a → v2 ≠ .ref a) → Q [v1, v2] H') (errP S σ H)
theorem StOk.store2 {S : Sys} {H0 F0 F H H1 F1 : Hp} {ρ : Env} {σ : L2.St} (s : StOk S H0 F0 ρ σ F1 H1) (a : Adv F1 H1 F H) {v1 v2 : V} {u1 u2 : Vl} (k1 : VOk S.K S.fa F H v1 u1) (k2 : VOk S.K S.fa F H v2 u2) (r1 : FreshV H1 v1 u1) (r2 : FreshV H1 v2 u2)
    (ne : ∀ d e p, u1 = .ow d → u2 = .ow e → v1 = .ref p → v2 ≠ .ref p) (i j : Nat) (hij : i ≠ j) : StOk S H0 F0 ((ρ.set i (some u1)).set j (some u2)) ((σ.set i (some v1)).set j (some v2)) F H := by
  have s1 := s.store a k1 r1 i
  -- an own one's slot but j holds another address than v2
  have key : ∀ {k : Nat} {e d : PyData} {p : Addr}, k ≠ j → (ρ.set i (some u1))[k]? = some (some (.ow e)) → (σ.set i (some v1))[k]? = some (some (.ref p)) → u2 = .ow d → v2 = .ref p → False := fun {k e d p} hk h1 h2 hu hv => by
    rcases set_get h1 with ⟨e1, hu1⟩ | ⟨hki, g1⟩
    · rw [e1] at h2
      have hv1 := get_set_self h2
      exact ne e d p (Option.some.inj hu1).symm hu (Option.some.inj hv1).symm hv
    · rw [List.getElem?_set_ne (Ne.symm hki)] at h2
      obtain ⟨q, e3, _, e5⟩ := s.env.owAt g1
      rw [h2] at e3
      cases e3
      obtain ⟨p', e1, e2⟩ := r2 d hu
      rw [hv] at e1
      cases e1
      obtain ⟨o, ho⟩ := e5.there
      rw [e2] at ho
      cases ho
  refine ⟨s1.adv, s1.env.set k2 j, fun k d b h1 h2 => ?_, fun k l d e b hkl h1 h2 h3 h4 => ?_⟩
  · rcases set_get h1 with ⟨rfl, hu⟩ | ⟨hk, g1⟩
    · obtain ⟨p, e1, e2⟩ := r2 d (Option.some.inj hu).symm
      have := get_set_self h2
      rw [e1] at this
      cases this
      exact s.adv.hh.free e2
    · rw [List.getElem?_set_ne (Ne.symm hk)] at h2
      exact s1.own k d b g1 h2
  · rcases set_get h1 with ⟨e1, hu⟩ | ⟨hk, g1⟩
    · rw [e1] at h3 hkl
      have hv := get_set_self h3
      rw [List.getElem?_set_ne hkl] at h2 h4
      exact key (Ne.symm hkl) h2 h4 (Option.some.inj hu).symm (Option.some.inj hv).symm
    · rw [List.getElem?_set_ne (Ne.symm hk)] at h3
      rcases set_get h2 with ⟨e2, hu⟩ | ⟨hl, g2⟩
      · rw [e2] at h4
        have hv := get_set_self h4
        exact key hk g1 h3 (Option.some.inj hu).symm (Option.some.inj hv).symm
      · rw [List.getElem?_set_ne (Ne.symm hl)] at h4
        exact s1.ap k l d e b hkl g1 g2 h3 h4
section
variable {T : Tx} {n : Nat} {N : List Str}
theorem pa_two {sc : Scope} {S : Sys} {X : Cx} (C : Ctx T n N sc S X) {a b : Tm} (ga : GoodE T n N a) (gb : GoodE T n N b) {ea eb : Expr} (ha : chkE T N sc a ea = true) (hb : chkE T N sc b eb = true) (na : notStar ea = true) (nb : notStar eb = true) : PA X [ea, eb] (tPa S a b) := by
  have g1 := (ga sc S X C ea ha).1
  have g2 := (gb sc S X C eb hb).1
  refine (pa_cons g1 (pa_cons g2 pa_nil (starEach_cons nb [] X.env)) (starEach_cons na [eb] X.env)).imp fun σ H Q q => ?_
  obtain ⟨ρ, F, en, sm, q⟩ := q
  rw [postR_bind] at q
  refine tEv.kept en sm q fun u v F1 H1 k a1 vk fr => ?_
  rw [postR_bind] at k
  refine tEv.kept (en.adv a1) a1.fh (PostR.mono k (fun _ _ q => q) fun _ _ q => errP.mono q a1.hh) fun u2 v2 F2 H2 k2 a2 vk2 fr2 => ?_
  refine k2 v v2 F2 H2 (a1.trans a2) (vk.adv a2) vk2 fr (fr2.back a1.hh) fun d e p h1 h2 h3 h4 => ?_
  obtain ⟨p1, e1, n1⟩ := fr2 e h2
  rw [h4] at e1
  cases e1
  subst h1
  obtain ⟨p2, e2, _, o2⟩ := vk
  rw [h3] at e2
  cases e2
  obtain ⟨o, ho⟩ := o2.there
  rw [n1] at ho
  cases ho
theorem good_par {i j : Nat} {a b : Tm} (ga : GoodE T n N a) (gb : GoodE T n N b) : GoodS T n N (.par i j a b) := fun sc S X C st h => by
  simp only [chkS] at h
  split at h
  · rename_i x px y py kt pt ea eb k2 pt2 pos
    simp only [Bool.and_eq_true, decide_eq_true_eq] at h
    obtain ⟨⟨⟨⟨⟨h1, h2⟩, h3⟩, h4⟩, h5⟩, h6⟩ := h
    rw [Bool.or_eq_true] at h4
    rcases h4 with h4 | h4
    · have h4' := h4
      rw [← C.hsc] at h4'
      obtain ⟨w1, w2, w3⟩ := swap_two (pt := pt) (pt2 := pt2) (kt := kt) (k2 := k2) h4'
      unfold swapB at h4
      simp only [Bool.and_eq_true] at h4
      have na := h4.1.1.1.2
      have nb := h4.1.1.2
      have sw : swapsWithSole [.Tuple [.Name x px, .Name y py] kt pt] (.Tuple [ea, eb] k2 pt2) pos.line X.env = pure false := rfl
      refine (ps_par (kt := kt) (k2 := k2) (pt := pt) (pt2 := pt2) (pos := pos) C.calm (by rw [C.hN]; exact C.nd) (by rw [C.hN]; exact h1) (by rw [C.hN]; exact h2) h3 w2 w3 (pa_two C.toCtx ga gb h5 h6 na nb) w1 sw).imp fun D σ H q => ?_
      obtain ⟨H0, F0, ρ, F, s, q⟩ := q
      simp only [exS] at q
      refine ⟨ρ, F, s.env, s.sm, ?_⟩
      have q := q.bind
      rw [postR_bind]
      refine PostR.mono q (fun u _ q => ?_) fun _ _ q => errP.up q s
      have q := PostO.bind q
      rw [postR_bind]
      refine PostR.mono q (fun w _ q => ?_) fun _ _ q => errP.up q s
      intro v1 v2 F' H' a1 k1 k2 r1 r2 ne
      exact ⟨v1, v2, rfl, q _ F' H' (s.store2 a1 k1 k2 r1 r2 ne i j h3)⟩
    · have h4' := h4
      rw [← C.hsc] at h4'
      have w1 := swap_cells (px := px) (py := py) (pt := pt) (pt2 := pt2) (kt := kt) (k2 := k2) h4'
      unfold cellsB at h4
      simp only [Bool.and_eq_true] at h4
      obtain ⟨⟨⟨⟨l1, l2⟩, _⟩, na⟩, nb⟩ := h4
      obtain ⟨s1, s2⟩ := C.st x l1
      obtain ⟨s3, s4⟩ := C.st y l2
      have sw : swapsWithSole [.Tuple [.Name x px, .Name y py] kt pt] (.Tuple [ea, eb] k2 pt2) pos.line X.env = pure false := rfl
      have p1 : PG X (.Name x px) (gName i) := pg_name (by rw [C.hN]; exact C.nd) (by rw [C.hN]; exact h1) s1 s2
      have p2 : PG X (.Name y py) (gName j) := pg_name (by rw [C.hN]; exact C.nd) (by rw [C.hN]; exact h2) s3 s4
      have pg : PG X (.Tuple [.Name x px, .Name y py] kt pt) (gTup X.K 2 (gCons (gName i) (gCons (gName j) gNil))) := pg_tup C.calm (pgs_cons p1 (pgs_cons p2 pgs_nil))
      refine (ps_asg (pe_tup (x1 := k2) (pos := pt2) (pa_two C.toCtx ga gb h5 h6 na nb)) pg sw w1 rfl).imp fun D σ H q => ?_
      obtain ⟨H0, F0, ρ, F, s, q⟩ := q
      simp only [exS] at q
      refine ⟨ρ, F, s.env, s.sm, ?_⟩
      have q := q.bind
      rw [postR_bind]
      refine PostR.mono q (fun u _ q => ?_) fun _ _ q => errP.up q s
      have q := PostO.bind q
      rw [postR_bind]
      refine PostR.mono q (fun w _ q => ?_) fun _ _ q => errP.up q s
      intro v1 v2 F' H' a1 k1 k2 r1 r2 ne
      have : sizeLine = 16777216 := sizeLine_eq
      refine ⟨by simp only [List.length_cons, List.length_nil]; omega, fun p hp => ?_⟩
      have a2 := Adv.lay (o := .tup [v1, v2]) a1.fh hp
      refine ⟨p, [v1, v2], rfl, SqT.of upd_same, rfl, v1, [v2], rfl, v2, [], rfl, rfl, ?_⟩
      exact q _ _ _ (s.store2 (a1.trans a2) (k1.adv a2) (k2.adv a2) r1 r2 ne i j h3)
  · cases h
end
end Wv
namespace Wv
open PySem PySem.Spec PyProof.Rows L2 TS
section
variable {P : Program} {w : World} {A : Around} {s : Shared} {E : Value → Shared → Prop}
set_option maxHeartbeats 8000000 in
/-- set(xs), xs a tuple of tuples of ints -/
theorem call_set_tupT {l : Addr} {items : Array Value} (ks : List (Addr × List Int)) {Q : Value → Shared → Prop} (hh : A.handled = none) (hl : s.heap.IsTuple l items) (hit : items.toList = ks.map fun p => Value.ref p.1)
    (hk : ∀ p ∈ ks, IsT P w s.heap p.2 p.1) (hfew : ks.length < 64) (hu : A.units + 3 < cLine)
    (h : ∀ (h' : Heap) (tk : Nat) L es ep t, SetTR P w h' s.heap.objs.size L es ep t → Got ks ks.length L → (∀ b o, s.heap.get? b = some o → h'.get? b = some o) → Q (.ref s.heap.objs.size) { s with heap := h', toks := tk }) :
    wpAny (model P w) A (call (.type "set") [.ref l]) Q E s := by
  have hisz : items.size = ks.length := by
    have q := congrArg List.length hit
    rw [Array.length_toList, List.length_map] at q
    exact q
  obtain ⟨c, tl, hmro⟩ := F.called_set.mro
  have hmade := F.called_set.made
  have hsub := F.called_set.sub
  refine wpAny_call (codeAny_of_tree ?_)
  show wpAny _ _ (callAny (.type "set") _) _ _ _
  refine wpAny_pure ⟨Code.quiet_builtin _ (by decide +kernel), codeAny_builtin F.entry_type_call ?_⟩
  rw [Around.under_plain (weight_type_call_type "set" [.ref l] []) rfl]
  have h1 := F.called_set.notType
  have h2 := F.called_set.canCreate
  have hct := F.typeCall_set_1 (.ref l)
  repeat (any_goals (first | assumption | wp_step))
  -- the empty set
  generalize hE : ({ cls := .type "set", dict := none, data := .set #[] 0 (.fresh 0 0 (!w.params.followText "set-order")) } : Obj) = eo
  refine codeAny_mono (code_set_led1 (.ref l) (E := E) (Q₁ := fun obj s₁ => obj = .ref s.heap.objs.size ∧ s₁ = { s with heap := s.heap.push eo }) ⟨rfl, by rw [hE]⟩) fun r s₁ hr => ?_
  cases r with
  | error e => exact hr
  | ok fl =>
    cases fl with
    | ret obj =>
      obtain ⟨rfl, rfl⟩ := hr
      have ecls : eo.cls = .type "set" := by rw [← hE]
      have hS : (s.heap.push eo).get? s.heap.objs.size = some eo := Heap.get?_push_size _ (by rw [← hE]; rfl)
      have hT : Shared.TypeIs { s with heap := s.heap.push eo } (.ref s.heap.objs.size) "set" := ⟨_, hS, ecls⟩
      have hli := F.called_set.init.lookup
      have hbi := F.called_set.init.bind (.ref s.heap.objs.size)
      repeat (any_goals (first | assumption | wp_step))
      refine codeAny_mono (codeAny_call_builtin (R := wants (fun r s₂ => r = .none ∧ ∃ h' tk L es ep t, s₂ = { s with heap := h', toks := tk } ∧ SetTR P w h' s.heap.objs.size L es ep t ∧ Got ks ks.length L ∧
          (∀ b o, s.heap.get? b = some o → h'.get? b = some o)) E) F.called_set.init.plain F.entry_set_init (check_set_init_1 hT ?_)) fun r₂ s₂ hr₂ => ?_
      · obtain ⟨ol, hol, hcl, nl, hdl⟩ := hl
        obtain ⟨ocls, odict, odata, oslots⟩ := ol
        simp only at hcl hdl
        subst hcl; subst hdl
        have hol' : (s.heap.push eo).get? l = some { cls := .type "tuple", dict := odict, data := .seq items nl, slots := oslots } := Heap.get?_push_of_some _ hol
        have hsls := F.sub_tuple_set
        have hslf := F.sub_tuple_frozenset
        have hne : (Value.type "tuple" == Value.type "dict") = false := by decide
        have hl1 : (s.heap.push eo).IsTuple l items := ⟨_, hol', rfl, nl, rfl⟩
        have hlS : l < s.heap.objs.size := Heap.lt_size hol
        have hh3 : A.in1.in1.in1.handled = none := by simp [hh]
        have hz1 : (s.heap.push eo).objs.size = s.heap.objs.size + 1 := Heap.size_push ..
        have hneI : l ≠ (s.heap.push eo).objs.size := by rw [hz1]; exact Nat.ne_of_lt (Nat.lt_succ_of_lt hlS)
        have hSf : s.heap.objs.size ∉ [(s.heap.push eo).objs.size, l] := by
          rw [hz1]; simp only [List.mem_cons, List.mem_singleton, List.not_mem_nil, or_false, not_or]
          exact ⟨Nat.ne_of_lt (Nat.lt_succ_self _), Nat.ne_of_gt hlS⟩
        subst hE
        unfold Builtin.«set.__init__» noKeywords Builtin.Frozenset.updateFrom
        generalize hPI : pyIter = PI
        wp_walk
        subst hPI
        refine wpAny_pyIter_tuple hl1 ?_
        refine wpAny_bind (wpAny_runValue ?_)
        have hval : ∀ (i : Nat) (v : Value), items[i]? = some v → ∃ p, ks[i]? = some p ∧ v = .ref p.1 := fun i v hv => by
          have q : items.toList[i]? = some v := by rw [Array.getElem?_toList]; exact hv
          rw [hit, List.getElem?_map] at q
          cases hq : ks[i]? with
          | none => rw [hq] at q; cases q
          | some p =>
            rw [hq] at q
            exact ⟨p, rfl, (Option.some.inj q).symm⟩
        have none_of : ∀ b, s.heap.objs.size ≤ b → s.heap.get? b = none := fun b hb => by
          cases q : s.heap.get? b with
          | none => rfl
          | some o => exact absurd (Nat.lt_of_lt_of_le (Heap.lt_size q) hb) (Nat.lt_irrefl _)
        refine set_update_tups ((Walks.tuple hh3 _ l hneI items).toS) s.heap.objs.size
          hSf ks hisz hfew hval s.heap hk (none_of _ (Nat.le_refl _)) (fun b hb => none_of b (by
            rw [List.mem_singleton.mp hb, hz1]
            exact Nat.le_succ _)) hu (items.size - 0) 0 _ (by omega) (Nat.zero_le _)
          ⟨⟨_, Heap.get?_push_size _ rfl, rfl, rfl⟩, (hl1.push _)⟩ (fun b o e => Heap.get?_push_of_some _ (Heap.get?_push_of_some _ e)) ?hS0 ?hR
        case hS0 =>
          have hget := Heap.get?_push_of_some { cls := .type "tuple_iterator", data := .fields #[.ref l, .int 0 0] } hS
          exact ⟨[], #[], 0, _, setTR_fresh hget, Got.zero ks⟩
        intro s' L es ep t hm hS' g' hkp
        obtain ⟨h', g2, d', tk', os'⟩ := s'
        have eg : g2 = s.gens := hm.gens
        have ed : d' = s.drawn := hm.drawn
        have eo' : os' = s.os := hm.os
        subst eg; subst ed; subst eo'
        show wpAny _ _ _ _ _ _
        refine wpAny_pure ?_
        show wpAny _ _ (ret Value.none) _ _ _
        rw [hisz] at g'
        exact wpAny_pure ⟨rfl, h', tk', L, es, ep, t, rfl, hS', g', hkp⟩
      · cases r₂ with
        | error e => exact hr₂
        | ok fl₂ =>
          cases fl₂ with
          | ret r =>
            obtain ⟨rfl, h', tk, L, es, ep, t, rfl, hS', g', hk'⟩ := hr₂
            repeat (any_goals (first | assumption | wp_step))
            exact h _ _ _ _ _ _ hS' g' hk'
          | _ => exact hr₂.elim
    | _ => exact hr.elim
end
end Wv
namespace Wv
open PySem PySem.Spec PyProof.Rows L2
open LamX (Tabs TabS ExtN CodeO TabB)
variable [Tbs]
/-! ### sorted(set(..)) of pairs -/
theorem insU_mem (c : Int) : ∀ (l : List Int) (x : Int), x ∈ insU c l ↔ x = c ∨ x ∈ l
  | [], x => by simp [insU]
  | y :: r, x => by
    unfold insU
    split
    · simp
    · split
      · rename_i h; subst h; simp
      · simp only [List.mem_cons, insU_mem c r x]
        constructor
        · rintro (h | h | h)
          · exact .inr (.inl h)
          · exact .inl h
          · exact .inr (.inr h)
        · rintro (h | h | h)
          · exact .inr (.inl h)
          · exact .inl h
          · exact .inr (.inr h)
theorem insU_sort (c : Int) : ∀ (l : List Int), l.Pairwise (· < ·) → (insU c l).Pairwise (· < ·)
  | [], _ => by simp [insU]
  | y :: r, h => by
    have h' := List.pairwise_cons.mp h
    unfold insU
    split
    · rename_i hc
      refine List.pairwise_cons.mpr ⟨fun z hz => ?_, h⟩
      rcases List.mem_cons.mp hz with rfl | hz
      · exact hc
      · exact Int.lt_trans hc (h'.1 z hz)
    · split
      · exact h
      · refine List.pairwise_cons.mpr ⟨fun z hz => ?_, insU_sort c r h'.2⟩
        rcases (insU_mem c r z).mp hz with rfl | hz
        · omega
        · exact h'.1 z hz
def codes (l : List Int) : List Int := l.foldr insU []
theorem codes_mem : ∀ (l : List Int) (x : Int), x ∈ codes l ↔ x ∈ l
  | [], x => by simp [codes]
  | y :: r, x => by
    show x ∈ insU y (codes r) ↔ _
    rw [insU_mem, codes_mem r x, List.mem_cons]
theorem codes_sort : ∀ (l : List Int), (codes l).Pairwise (· < ·)
  | [] => by simp [codes]
  | y :: r => insU_sort y _ (codes_sort r)
theorem sorted_unique : ∀ (l m : List Int), l.Pairwise (· < ·) → m.Pairwise (· < ·) → (∀ x, x ∈ l ↔ x ∈ m) → l = m
  | [], [], _, _, _ => rfl
  | [], y :: m, _, _, h => by have := (h y).mpr List.mem_cons_self; cases this
  | x :: l, [], _, _, h => by have := (h x).mp List.mem_cons_self; cases this
  | x :: l, y :: m, h1, h2, h => by
    have p1 := List.pairwise_cons.mp h1
    have p2 := List.pairwise_cons.mp h2
    have e : x = y := by
      rcases List.mem_cons.mp ((h x).mp List.mem_cons_self) with e | e
      · exact e
      · rcases List.mem_cons.mp ((h y).mpr List.mem_cons_self) with e' | e'
        · exact e'.symm
        · have := p1.1 y e'
          have := p2.1 x e
          omega
    subst e
    refine congrArg _ (sorted_unique l m p1.2 p2.2 fun z => ⟨fun hz => ?_, fun hz => ?_⟩)
    · rcases List.mem_cons.mp ((h z).mp (List.mem_cons_of_mem _ hz)) with e | e
      · subst e; exact absurd (p1.1 z hz) (Int.lt_irrefl z)
      · exact e
    · rcases List.mem_cons.mp ((h z).mpr (List.mem_cons_of_mem _ hz)) with e | e
      · subst e; exact absurd (p2.1 z hz) (Int.lt_irrefl z)
      · exact e
theorem pairB_inv {d : PyData} (h : pairB d = true) : ∃ a b : Int, d = .tuple [.int a, .int b] ∧ 0 ≤ a ∧ a < 64 ∧ 0 ≤ b ∧ b < 64 := by
  unfold pairB at h
  split at h
  · rename_i a b
    simp only [Bool.and_eq_true, decide_eq_true_eq] at h
    exact ⟨a, b, rfl, h.1.1.1, h.1.1.2, h.1.2, h.2⟩
  · cases h
/-- a pair that stands at an address -/
def PrOk (K : PySem.W.Frag) (F : Hp) (p : Addr × List Int) : Prop := SqT K F p.1 (p.2.map V.int) ∧ ∃ a b : Int, p.2 = [a, b] ∧ 0 ≤ a ∧ a < 64 ∧ 0 ≤ b ∧ b < 64
theorem pairs_of {K : PySem.W.Frag} {F : Hp} : ∀ {vs : List V} {ds : List PyData}, RpAll K F vs ds → ds.all pairB = true → ∃ ks : List (Addr × List Int), vs = ks.map (fun p => V.ref p.1) ∧ (∀ p ∈ ks, PrOk K F p) ∧ ds.map codeP = ks.map fun p => TS.code 64 p.2
  | _, _, .nil, _ => ⟨[], rfl, fun _ h => (by cases h), rfl⟩
  | _, _, .cons h t, hp => by
    rw [List.all_cons, Bool.and_eq_true] at hp
    obtain ⟨ks, e1, e2, e3⟩ := pairs_of t hp.2
    obtain ⟨a, b, rfl, q1, q2, q3, q4⟩ := pairB_inv hp.1
    cases h with
    | @tup p xs _ h z r =>
      have hx : xs = [a, b].map V.int := by
        cases r with
        | cons r1 r2 =>
          cases r1
          cases r2 with
          | cons r2 r3 => cases r2; cases r3; rfl
      subst hx
      refine ⟨(p, [a, b]) :: ks, by rw [e1]; rfl, fun q hq => ?_, ?_⟩
      · rcases List.mem_cons.mp hq with rfl | hq
        · exact ⟨h, a, b, rfl, q1, q2, q3, q4⟩
        · exact e2 q hq
      · rw [List.map_cons, List.map_cons, e3, code_pair]
        rfl
theorem PrOk.rp {K : PySem.W.Frag} {F : Hp} {p : Addr × List Int} (h : PrOk K F p) : Rp K F (.ref p.1) (pairC (TS.code 64 p.2)) := by
  obtain ⟨h1, a, b, e, q1, q2, q3, q4⟩ := h
  rw [e] at h1 ⊢
  rw [code_pair]
  have e1 : (a * 64 + b) / 64 = a := by omega
  have e2 : (a * 64 + b) % 64 = b := by omega
  unfold pairC
  rw [e1, e2]
  exact .tup h1 (Nat.le_trans (by decide : 2 ≤ 1000) line1000) (.cons (.int a) (.cons (.int b) .nil))
theorem code_inj {K : PySem.W.Frag} {F : Hp} {p q : Addr × List Int} (h : PrOk K F p) (h' : PrOk K F q) (e : TS.code 64 p.2 = TS.code 64 q.2) : p.2 = q.2 := by
  obtain ⟨_, a, b, e1, q1, q2, q3, q4⟩ := h
  obtain ⟨_, a', b', e1', q1', q2', q3', q4'⟩ := h'
  rw [e1, e1', code_pair, code_pair] at e
  rw [e1, e1']
  have : a = a' := by omega
  have : b = b' := by omega
  simp [*]
theorem rp_refs {K : PySem.W.Frag} {F : Hp} : ∀ (L : List (Addr × List Int)), (∀ p ∈ L, PrOk K F p) → RpAll K F (L.map fun p => V.ref p.1) ((L.map fun p => TS.code 64 p.2).map pairC)
  | [], _ => .nil
  | p :: L, h => .cons (h p List.mem_cons_self).rp (rp_refs L fun q hq => h q (List.mem_cons_of_mem _ hq))
theorem nodup_codes {K : PySem.W.Frag} {F : Hp} : ∀ (L : List (Addr × List Int)), (∀ p ∈ L, PrOk K F p) → (L.map (·.2)).Nodup → L.Pairwise (fun q r => TS.code 64 q.2 ≤ TS.code 64 r.2) → (L.map fun p => TS.code 64 p.2).Pairwise (· < ·)
  | [], _, _, _ => .nil
  | p :: L, h, nd, pw => by
    have nd' := List.nodup_cons.mp nd
    have pw' := List.pairwise_cons.mp pw
    refine List.pairwise_cons.mpr ⟨fun z hz => ?_, nodup_codes L (fun q hq => h q (List.mem_cons_of_mem _ hq)) nd'.2 pw'.2⟩
    obtain ⟨q, hq, rfl⟩ := List.mem_map.mp hz
    have h1 := pw'.1 q hq
    have h2 : TS.code 64 p.2 ≠ TS.code 64 q.2 := fun e => nd'.1 (by
      have := code_inj (h p List.mem_cons_self) (h q (List.mem_cons_of_mem _ hq)) e
      show p.2 ∈ _
      rw [this]
      exact List.mem_map.mpr ⟨q, hq, rfl⟩)
    show TS.code 64 p.2 < TS.code 64 q.2
    omega
/-- set(xs), xs a tuple of tuples of ints -/
def rSetTT (K : PySem.W.Frag) (P : Program) (w : World) : List V → Hp → VK → Prop := fun xs H Q => ∃ (l : Addr) (ks : List (Addr × List Int)), xs = [V.ref l] ∧ SqT K H l (ks.map fun p => V.ref p.1) ∧ (∀ p ∈ ks, SqT K H p.1 (p.2.map V.int)) ∧ ks.length < 64 ∧
  ∀ a L, H a = none → (∀ p ∈ L, p ∈ ks) → (∀ p ∈ ks, p.2 ∈ L.map (·.2)) → Q (.ref a) (upd H a (SetTO P w a L))
theorem cr_setTT {X : Cx} (hc : X.calm = true) (hu : X.A.units + 64 < cLine) : CallR X (.type "set") (rSetTT X.K X.prog X.w) := by
  intro pins s σ H xs us Q I r h
  obtain ⟨l, ks, rfl, hl, hk, hf, q⟩ := h
  rw [Vals.ref1 r]
  obtain ⟨its, rv, pl, hz⟩ := I.tuple hl
  have hn : H s.heap.objs.size = none := I.hok.fresh (Nat.le_refl _)
  refine call_set_tupT (P := X.prog) (w := X.w) ks (I.ok.hd hc) pl (by simpa using refs_of_vals rv) (fun p hp => I.isT (hk p hp)) hf (by omega) fun h' tk L es ep t R g k => ?_
  refine ⟨.ref s.heap.objs.size, upd H s.heap.objs.size (SetTO X.prog X.w s.heap.objs.size L), I.laid (t' := tk) k (Nat.le_refl _) (setTO_new R.t0), rfl, q _ L hn (fun p hp => ?_) fun p hp => ?_⟩
  · exact List.mem_of_mem_take (g.sub p hp)
  · exact g.all p (by rw [List.take_length]; exact hp)
/-- set(xs), xs a tuple of ints -/
def rSetTI (K : PySem.W.Frag) (w : World) : List V → Hp → VK → Prop := fun xs H Q => ∃ (l : Addr) (ns : List Int), xs = [V.ref l] ∧ SqT K H l (ns.map V.int) ∧ ns.length < 64 ∧
  ∀ a c, H a = none → c ≤ ns.length → Q (.ref a) (upd H a (SetO w a (fun j => decide (j ∈ ns)) c))
theorem cr_setTI {X : Cx} (hc : X.calm = true) : CallR X (.type "set") (rSetTI X.K X.w) := by
  intro pins s σ H xs us Q I r h
  obtain ⟨l, ns, rfl, hl, hf, q⟩ := h
  rw [Vals.ref1 r]
  obtain ⟨its, rv, pl, hz⟩ := I.tuple hl
  have hn : H s.heap.objs.size = none := I.hok.fresh (Nat.le_refl _)
  refine call_set_tupI (P := X.prog) (w := X.w) ns (I.ok.hd hc) pl (by simpa using RZ.intsAre_vals rv) (by unfold scanBound; omega) fun h' tk c R hc k => ?_
  exact ⟨.ref s.heap.objs.size, upd H s.heap.objs.size (SetO X.w s.heap.objs.size (fun j => decide (j ∈ ns)) c), I.laid (t' := tk) k (Nat.le_refl _) (setO_new R), rfl, q _ c hn hc⟩
theorem cr_or {X : Cx} {f : Value} {r1 r2 : List V → Hp → VK → Prop} (h1 : CallR X f r1) (h2 : CallR X f r2) : CallR X f fun xs H Q => r1 xs H Q ∨ r2 xs H Q := by
  intro pins s σ H xs us Q I r h
  rcases h with h | h
  · exact h1 pins s σ H xs us Q I r h
  · exact h2 pins s σ H xs us Q I r h
theorem intsL_len : ∀ l : List Int, (codes l).length ≤ l.length
  | [] => Nat.le_refl _
  | x :: r => by
    have h1 : ∀ (c : Int) (l : List Int), (insU c l).length ≤ l.length + 1 := fun c l => by
      induction l with
      | nil => exact Nat.le_refl _
      | cons x r ih =>
        unfold insU
        split
        · exact Nat.le_refl _
        · split
          · exact Nat.le_succ _
          · simp only [List.length_cons]; omega
    exact Nat.le_trans (h1 x (codes r)) (Nat.succ_le_succ (intsL_len r))
theorem rp_intsA {K : PySem.W.Frag} {F : Hp} : ∀ ns : List Int, RpAll K F (ns.map V.int) (ns.map PyData.int)
  | [] => .nil
  | i :: ns => .cons (.int i) (rp_intsA ns)
section
variable {T : Tx} {n : Nat} {N : List Str}
theorem good_sortset {a : Tm} (ga : GoodE T n N a) : GoodE T n N (.sortset a) := fun sc S X C e h => by
  simp only [chkE] at h
  split at h
  · rename_i f x he
    split at h
    · rename_i g y he2
      simp only [Bool.and_eq_true, decide_eq_true_eq] at h
      obtain ⟨⟨⟨⟨⟨rfl, rfl⟩, h1⟩, h2⟩, h3⟩, h4⟩ := h
      obtain ⟨p, pos, rfl⟩ := asCall_eq he
      obtain ⟨p2, pos2, rfl⟩ := asCall_eq he2
      have g1 := (ga sc S X C y h3).1
      have hm : X.mg "sorted" = none := C.bl _ (by decide +kernel)
      have hm2 : X.mg "set" = none := C.bl _ (by decide +kernel)
      have hu := C.hu
      have q1 := pe_callTy (x := "set") (p := p2) (pos := pos2) (cr_or (cr_setTT C.calm (by omega)) (cr_setTI C.calm)) (gl_of C h2) hm2 (by decide +kernel) (pa_cons g1 pa_nil (starEach_cons h4 [] X.env)) (by decide) (by decide) (starEach_cons h4 [] X.env) rfl
      have q2 := pe_callB (x := "sorted") (p := p) (pos := pos) (cr_or (cr_sortedT C.calm) (cr_sortedSet C.calm)) (gl_of C h1) hm (by decide +kernel) (pa_cons q1 pa_nil (starEach_cons rfl [] X.env)) (by decide) (by decide) (starEach_cons rfl [] X.env) rfl
      have q3 : PE X (.Call (.Name "sorted" p) [.Call (.Name "set" p2) [y] [] pos2] [] pos) (tEv S (.sortset a)) := q2.imp fun σ H Q q => by
        obtain ⟨ρ, F, en, sm, q⟩ := q
        simp only [ev, postR_bind, postR_calm] at q
        refine tEv.mk en sm q fun u v F1 H1 k a1 vk fr => ?_
        obtain ⟨d, hd, k⟩ := k.dat
        obtain ⟨w, hw, k⟩ := k.get
        have t := vk.tp a1.fh hd
        rw [C.hK]
        cases t with
        | @tup l vs ds hl hz rr =>
          simp only [sortsetD] at hw
          split at hw
          · rename_i hc
            cases hw
            simp only [Bool.and_eq_true, decide_eq_true_eq] at hc
            obtain ⟨ks, e1, e2, e3⟩ := pairs_of rr hc.1
            have hlen : ks.length < 64 := by
              have := rr.length
              rw [e1, List.length_map] at this
              omega
            refine .inl ⟨l, ks, rfl, by rw [← e1]; exact Same.sqt a1.fh.sm hl, fun p hp => Same.sqt a1.fh.sm (e2 p hp).1, hlen, fun b L hb s1 s2 => ?_⟩
            have a2 : Adv F1 H1 F1 (upd H1 b (SetTO X.prog X.w b L)) := Adv.own a1.fh hb
            refine .inl ⟨b, L, 2, 64, rfl, upd_same, fun p hp => Same.sqt a2.fh.sm (e2 p (s1 p hp)).1, by omega, fun p hp => ?_, fun L' p' pm nd hl' pw hp' => ?_⟩
            · obtain ⟨_, x, y, e, q1, q2, q3, q4⟩ := e2 p (s1 p hp)
              rw [e]
              refine ⟨rfl, fun m hm => ?_⟩
              rcases List.mem_cons.mp hm with rfl | hm
              · exact ⟨q1, q2⟩
              · rcases List.mem_cons.mp hm with rfl | hm
                · exact ⟨q3, q4⟩
                · cases hm
            · have hL : ∀ p ∈ L', PrOk S.K F1 p := fun p hp => e2 p (s1 p (pm.mem_iff.mp hp))
              have he : (L'.map fun p => TS.code 64 p.2) = (ds.map codeP).foldr insU [] := by
                refine sorted_unique _ (codes (ds.map codeP)) (nodup_codes L' hL nd pw) (codes_sort _) fun x => ?_
                rw [codes_mem, e3]
                constructor
                · intro hx
                  obtain ⟨p, hp, rfl⟩ := List.mem_map.mp hx
                  exact List.mem_map.mpr ⟨p, s1 p (pm.mem_iff.mp hp), rfl⟩
                · intro hx
                  obtain ⟨p, hp, rfl⟩ := List.mem_map.mp hx
                  obtain ⟨q, hq, e⟩ := List.mem_map.mp (s2 p hp)
                  refine List.mem_map.mpr ⟨q, pm.mem_iff.mpr hq, ?_⟩
                  show TS.code 64 q.2 = TS.code 64 p.2
                  rw [e]
              have wnt : Want S.K S.fa F1 (upd H1 b (SetTO X.prog X.w b L)) Q (.ow (.list (((ds.map codeP).foldr insU []).map pairC))) := Want.of (a1.trans a2) k
              refine wnt.lst a2.fh ?_ ?_ p' hp'
              · rw [← he]; exact rp_refs L' hL
              · rw [List.length_map]; have := line1000; omega
          · split at hw
            · rename_i ns hns
              split at hw
              · rename_i hlt
                cases hw
                have hv := rr.ints hns
                subst hv
                refine .inr ⟨l, ns, rfl, Same.sqt a1.fh.sm hl, hlt, fun b c hb hc => .inr ⟨b, _, c, rfl, upd_same, by omega, fun ms p' pw mem hln hp' => ?_⟩⟩
                have a2 : Adv F1 H1 F1 (upd H1 b (SetO X.w b (fun j => decide (j ∈ ns)) c)) := Adv.own a1.fh hb
                have he : ms = codes ns := sorted_unique _ _ pw (codes_sort _) fun x => by
                  rw [codes_mem, mem x]
                  exact decide_eq_true_iff
                subst he
                have wnt : Want S.K S.fa F1 (upd H1 b (SetO X.w b (fun j => decide (j ∈ ns)) c)) Q (.ow (.list ((codes ns).map PyData.int))) := Want.of (a1.trans a2) k
                refine wnt.lst a2.fh (rp_intsA _) ?_ p' hp'
                have := line1000
                have := intsL_len ns
                rw [List.length_map]
                omega
              · cases hw
            · cases hw
        | _ => cases hw
      exact ⟨q3, pt_of C.hK q3 rfl⟩
    · cases h
  · cases h
end
end Wv
namespace Wv
open PySem PySem.Spec PyProof.Rows L2
open LamX (Tabs TabS ExtN CodeO TabB)
variable [Tbs]
/-! ### xs[::-1] -/
section
variable {prog : Program} {w : World} {A : Around} {E : Value → Shared → Prop} {s : Shared}
theorem sliceApplied_rev {sl : Addr} {vs : Value} {n : Nat} {Q : Int × Int × Nat → Shared → Prop} (hs : s.heap.IsSliceOf sl .none .none vs) (ps : IsPart vs (some (-1)))
    (h : Q ((n : Int) - 1, -1, n) s) : wpAny (model prog w) A (Builtin.Slice.sliceApplied (.ref sl) (pure (n : Int))) Q E s := by
  obtain ⟨os, hos, hcs, hds⟩ := id hs
  unfold Builtin.Slice.sliceApplied Builtin.Slice.sliceFields
  refine wpAny_bind (wpAny_bind (wpAny_field hos hds (x := .none) rfl (wpAny_bind (wpAny_field hos hds (x := .none) rfl (wpAny_bind (wpAny_field hos hds (x := vs) rfl (wpAny_pure ?_)))))))
  refine wpAny_bind (HT.slicePart_ ps ?_)
  show wpAny _ _ (if ((-1 : Int) == 0) = true then _ else _) _ _ s
  rw [if_neg (by decide)]
  refine wpAny_bind (HT.slicePart_ .none (wpAny_bind (HT.slicePart_ .none (wpAny_bind (wpAny_pure ?_)))))
  have e : Builtin.Slice.slicePlaces ((n : Int) - 1) (-1) (-1) = n := by
    unfold Builtin.Slice.slicePlaces
    simp only [show ¬ ((-1 : Int) > 0) by decide, if_false]
    split
    · rw [show (- -1 : Int) = 1 by decide, Int.ediv_one]; omega
    · omega
  show wpAny _ _ (pure ((n : Int) - 1, (-1 : Int), Builtin.Slice.slicePlaces ((n : Int) - 1) (-1) (-1))) _ _ s
  rw [e]
  exact wpAny_pure h
theorem fm_congr {α β : Type} {f g : α → Option β} : ∀ (l : List α), (∀ x ∈ l, f x = g x) → l.filterMap f = l.filterMap g
  | [], _ => rfl
  | x :: l, h => by
    rw [List.filterMap_cons, List.filterMap_cons, h x List.mem_cons_self, fm_congr l fun y hy => h y (List.mem_cons_of_mem _ hy)]
theorem pick_rev (xs : Array Value) : ((List.range xs.size).filterMap fun (k : Nat) => xs[((xs.size : Int) - 1 + (k : Int) * -1).toNat]?).toArray = xs.toList.reverse.toArray := by
  have h := PySem.W.krv_pick xs
  unfold slicePick at h
  rw [PySem.W.krv_bounds] at h
  have h : ((sliceRange ((xs.size : Int) - 1) (-1) (-1)).filterMap (xs[·]?)).toArray = xs.toList.reverse.toArray := h
  rw [PySem.W.krv_sliceRange, List.filterMap_map] at h
  rw [← h]
  congr 1
  refine fm_congr _ fun k hk => ?_
  have := List.mem_range.mp hk
  have e : ((xs.size : Int) - 1 + (k : Int) * -1).toNat = xs.size - 1 - k := by omega
  rw [e]
  rfl
theorem getItem_tuple_rev {t sl : Addr} {items : Array Value} {vs : Value} {Q : Value → Shared → Prop} (ht : IsTup s.heap t items) (hs : s.heap.IsSliceOf sl .none .none vs) (ps : IsPart vs (some (-1)))
    (h : Q (.ref s.heap.objs.size) { s with heap := s.heap.push { cls := .type "tuple", data := .seq items.toList.reverse.toArray } })
    (hsz : items.size ≤ sizeLine) : wpAny (model prog w) A (getItem (.ref t) (.ref sl)) Q E s := by
  have htake : sizeOk (.seq items.toList.reverse.toArray) := by
    show items.toList.reverse.toArray.size ≤ sizeLine
    rw [List.size_toArray, List.length_reverse, Array.length_toList]
    exact hsz
  obtain ⟨os, hos, hcs, hds⟩ := id hs
  have hTs : s.TypeIs (.ref sl) "slice" := ⟨os, hos, hcs⟩
  unfold getItem
  try with_reducible refine wpAny_holding ?_
  first | refine wpAny_bind (wpAny_pure ?_) | skip
  refine wpAny_bind (wpAny_sequenceKey ht.typeIs (by decide) ?_)
  refine wpAny_bind (wpAny_callSpecial?_slot (name := Str.ofString "__getitem__") ht.typeIs PyProof.Rows.slot_tuple_getitem
    (wpAny_call_entry PyProof.Rows.slot_tuple_getitem ht.typeIs entry_tuple_getitem ?_ (args_tuple_getitem _ _)))
  show wpAny _ _ (Builtin.Tuple.tupleItemsOf (.ref t) >>= _) _ _ s
  refine wpAny_bind (tupleItemsOf_ ht ?_)
  refine wpAny_bind (wpAny_typeOf hTs ?_)
  rw [if_pos (by decide)]
  refine wpAny_bind (sliceApplied_rev (n := items.size) hs ps ?_)
  have hno : ¬ ((((items.size : Int) - 1) == 0 && (-1 : Int) == 1 && items.size == items.size) = true) := by
    intro q
    rw [Bool.and_eq_true, Bool.and_eq_true] at q
    exact absurd (eq_of_beq q.1.2) (by decide)
  show wpAny _ _ (if (((items.size : Int) - 1) == 0 && (-1 : Int) == 1 && items.size == items.size) = true then _ else _) _ _ s
  rw [if_neg hno, pick_rev]
  first
    | exact wpAny_bind (m := Builtin.Tuple.tupleExact _) (wpAny_newObj_type (wpAny_pure ⟨_, rfl, wpAny_pure h⟩) htake)
    | exact wpAny_bind (m := Builtin.Tuple.tupleExact _) (wpAny_newObj_type (wpAny_bind (wpAny_pure (wpAny_pure ⟨_, rfl, wpAny_pure h⟩))) htake)
end
section
variable {X : Cx}
def tRevA (K : PySem.W.Frag) (te : TE) : TE := fun σ H Q => te σ H fun x H1 => ∃ a xs, x = .ref a ∧ ((SqL K H1 a xs ∧ ∀ p, H1 p = none → Q (.ref p) (upd H1 p (.lst xs.reverse))) ∨ (SqT K H1 a xs ∧ ∀ p, H1 p = none → Q (.ref p) (upd H1 p (.tup xs.reverse))))
theorem pe_revA {e : Expr} {te : TE} {k : Nat} {p1 p2 p3 pos : Pos} (he : PE X e te) : PE X (.Subscript e (.Slice none none (some (.UnaryOp .USub (.Constant (.int 1) k p1) p2)) p3) pos) (tRevA X.K te) := by
  refine ⟨fun pins s σ H Q I h => ?_⟩
  refine Subscript_ (thn (he.run pins s σ H _ I h) fun v s1 ⟨x, H1, I1, r1, q1⟩ => ?_)
  obtain ⟨a, xs, ex, q⟩ := q1
  subst ex
  cases r1
  have hst : PO X (some (.UnaryOp .USub (.Constant (.int 1) k p1) p2)) (tPart (tUn (rU fun i => .int (-i)) (tC (.int 1)))) := po_some (pe_un un_neg pe_int)
  refine wpAny_Slice (thn (po_none.run pins s1 σ H1 (fun o H2 => o = none ∧ H2 = H1) I1 ⟨rfl, rfl⟩) fun vl s2 ⟨l, H2, I2, pl, el, e2⟩ => ?_)
  subst el e2
  refine thn (po_none.run pins s2 σ H2 (fun o H3 => o = none ∧ H3 = H2) I2 ⟨rfl, rfl⟩) fun vu s3 ⟨u, H3, I3, pu, eu, e3⟩ => ?_
  subst eu e3
  refine thn (hst.run pins s3 σ H3 (fun o H4 => o = some (-1) ∧ H4 = H3) I3 ⟨1, rfl, -1, rfl, rfl, rfl⟩) fun vs s4 ⟨o, H4, I4, ps, eo, e4⟩ => ?_
  subst eo e4
  have I5 : Inv X pins σ H4 { s4 with heap := s4.heap.push { cls := .type "slice", data := .fields #[vl, vu, vs] } } := I4.kept (t' := s4.toks) fun b ob q => Heap.get?_push_of_some _ q
  show wpAny (model X.prog X.w) X.A (subscriptTail e (.Slice none none (some (.UnaryOp .USub (.Constant (.int 1) k p1) p2)) p3) (.ref a) (.ref s4.heap.objs.size)) (EP X pins σ Q) X.xe { s4 with heap := s4.heap.push { cls := .type "slice", data := .fields #[vl, vu, vs] } }
  rcases q with ⟨hx, q⟩ | ⟨hx, q⟩
  · obtain ⟨its, r, ht, hz⟩ := I5.list hx
    have hlen := r.length
    refine tail_any (ops := [.ref a, .ref s4.heap.objs.size]) ht.isList.typeIs (PySem.slot_list_getitem.lookup) ?_ (by with_unfolding_all rfl)
    refine wpAny_getItem_list_slice ht.isList (Heap.IsSliceOf.new _ vl vu vs) pl pu ps (by decide) ?_ (by rw [List.size_toArray]; omega)
    rw [PySem.W.krv_pick]
    refine ⟨.ref _, _, I5.laid (t' := s4.toks) (o := .lst xs.reverse) (fun b ob q => Heap.get?_push_of_some _ q) (Nat.le_refl _) ?_, rfl, q _ (I5.hok.fresh (Nat.le_refl _))⟩
    exact ⟨by rw [List.length_reverse]; exact hz, _, 0, r.reverse, Heap.get?_push_size _ rfl⟩
  · obtain ⟨its, r, ht, hz⟩ := I5.tuple hx
    have hlen := r.length
    refine tail_any (ops := [.ref a, .ref s4.heap.objs.size]) ht.typeIs (PyProof.Rows.slot_tuple_getitem.lookup) ?_ (by with_unfolding_all rfl)
    cases pl
    cases pu
    refine getItem_tuple_rev ht (Heap.IsSliceOf.new _ _ _ vs) ps ?_ (by rw [List.size_toArray]; omega)
    refine ⟨.ref _, _, I5.laid (t' := s4.toks) (o := .tup xs.reverse) (fun b ob q => Heap.get?_push_of_some _ q) (Nat.le_refl _) ?_, rfl, q _ (I5.hok.fresh (Nat.le_refl _))⟩
    exact ⟨by rw [List.length_reverse]; exact hz, _, r.reverse, IsTup.new _ _⟩
end
theorem RpAll.reverse {K : PySem.W.Frag} {F : Hp} : ∀ {vs : List V} {ds : List PyData}, RpAll K F vs ds → RpAll K F vs.reverse ds.reverse
  | _, _, .nil => .nil
  | _, _, .cons h t => by
    rw [List.reverse_cons, List.reverse_cons]
    exact t.reverse.append (.cons h .nil)
section
variable {T : Tx} {n : Nat} {N : List Str}
theorem good_rev {a : Tm} (ga : GoodE T n N a) : GoodE T n N (.rev a) := fun sc S X C e h => by
  simp only [chkE] at h
  split at h
  · rename_i x y he
    simp only [Bool.and_eq_true] at h
    obtain ⟨pos, rfl⟩ := asSub_eq he
    obtain ⟨k, p1, p2, p3, rfl⟩ := isRevSl_eq h.2
    have h4 : PE X (.Subscript x (.Slice none none (some (.UnaryOp .USub (.Constant (.int 1) k p1) p2)) p3) pos) (tEv S (.rev a)) := (pe_revA (ga sc S X C x h.1).1).imp fun σ H Q q => by
      obtain ⟨ρ, F, en, sm, q⟩ := q
      simp only [ev, postR_bind, postR_calm] at q
      refine tEv.mk en sm q fun u v F1 H1 k a1 vk fr => ?_
      obtain ⟨d, hd, k⟩ := k.dat
      obtain ⟨w, hw, k⟩ := k.get
      have t := vk.tp a1.fh hd
      have wnt : Want S.K S.fa F1 H1 Q w := Want.of a1 k
      rw [C.hK]
      cases t with
      | lst hl hz rr =>
        cases hw
        exact ⟨_, _, rfl, .inl ⟨hl, wnt.lst a1.fh rr.reverse (by rw [List.length_reverse]; exact hz)⟩⟩
      | tup hl hz rr =>
        cases hw
        exact ⟨_, _, rfl, .inr ⟨Same.sqt a1.fh.sm hl, wnt.tup a1.fh rr.reverse (by rw [List.length_reverse]; exact hz)⟩⟩
      | _ => cases hw
    exact ⟨h4, pt_of C.hK h4 rfl⟩
  · cases h
end
end Wv
namespace Wv
open PySem PySem.Spec PyProof.Rows L2
open LamX (Tabs TabS ExtN CodeO TabB)
variable [Tbs]
section
variable {T : Tx} {n : Nat} {N : List Str}
/-! ### list(range(n)) -/
theorem rp_rgV {K : PySem.W.Frag} {F : Hp} (n : Int) : RpAll K F (rgV 0 n) ((List.range n.toNat).map fun (i : Nat) => PyData.int i) := by
  unfold rgV
  rw [Int.sub_zero]
  have e : ((List.range n.toNat).map fun i => V.int (0 + (i : Nat))) = ((List.range n.toNat).map fun (i : Nat) => (i : Int)).map V.int := by
    rw [List.map_map]
    refine List.map_congr_left fun i _ => ?_
    show V.int (0 + (i : Int)) = V.int (i : Int)
    rw [Int.zero_add]
  have e2 : ((List.range n.toNat).map fun (i : Nat) => PyData.int i) = ((List.range n.toNat).map fun (i : Nat) => (i : Int)).map PyData.int := by rw [List.map_map]; rfl
  rw [e, e2]
  exact rp_ints _
theorem good_lrng {es : Tms} (g : GoodEs T n N es) (el : ∀ b r, es = .cons b r → GoodE T n N b) : GoodE T n N (.lrng es) := fun sc S X C e h => by
  simp only [chkE] at h
  split at h
  · rename_i f x he
    split at h
    · rename_i r ys he2
      simp only [Bool.and_eq_true, decide_eq_true_eq] at h
      obtain ⟨⟨⟨⟨⟨rfl, rfl⟩, h1⟩, h2⟩, h3⟩, h4⟩ := h
      obtain ⟨p, pos, rfl⟩ := asCall_eq he
      obtain ⟨p2, pos2, rfl⟩ := asCall_eq he2
      obtain ⟨y, rfl⟩ : ∃ y, ys = [y] := by
        match ys, h4 with
        | [y], _ => exact ⟨y, rfl⟩
      cases es with
      | nil => simp [chkEs] at h3
      | cons a r =>
        cases r with
        | cons b r => simp [chkEs] at h3
        | nil =>
          simp only [chkEs, Bool.and_eq_true] at h3
          have hs : notStar y = true := h3.1.1
          have g1 := (el a .nil rfl sc S X C y h3.1.2).1
          have hm : X.mg "list" = none := C.bl _ (by decide +kernel)
          have hm2 : X.mg "range" = none := C.bl _ (by decide +kernel)
          have h5 : PE X (.Call (.Name "list" p) [.Call (.Name "range" p2) [y] [] pos2] [] pos) (tEv S (.lrng (.cons a .nil))) := (pe_listRg C.calm (gl_of C h1) hm (prg_1 (gl_of C h2) hm2 g1 (starEach_cons hs [] X.env)) (starEach_cons rfl [] X.env)).imp fun σ H Q q => by
            obtain ⟨ρ, F, en, sm, q⟩ := q
            simp only [ev, evTs, postR_bind, postR_map1, postR_calm] at q
            refine tEv.mk en sm q fun u v F1 H1 k a1 vk fr => ?_
            obtain ⟨d, hd, k⟩ := k.dat
            have k : PostR (lrngD [d]) _ _ := k
            obtain ⟨w, hw, k⟩ := k.get
            have t := vk.tp a1.fh hd
            cases t with
            | int i =>
              simp only [lrngD] at hw
              split at hw
              · rename_i hi
                cases hw
                have hb := inN_iff.mp hi
                have hlim : (lim : Int) = 1000000 := rfl
                have wnt : Want S.K S.fa F1 H1 Q (.ow (.list ((List.range i.toNat).map fun (i : Nat) => .int i))) := Want.of a1 k
                refine ⟨i, rfl, ⟨by omega, by omega, by omega, by omega, by omega⟩, wnt.lst a1.fh (rp_rgV i) ?_⟩
                rw [rgV_length]
                have : sizeLine = 16777216 := sizeLine_eq
                omega
              · cases hw
            | _ => cases hw
          exact ⟨h5, pt_of C.hK h5 rfl⟩
    · cases h
  · cases h
end
end Wv
namespace Wv
open PySem PySem.Spec PyProof.Rows L2
open LamX (Tabs TabS ExtN CodeO TabB)
variable [Tbs]
section
variable {T : Tx} {n : Nat} {N : List Str}
/-! ### xs.index(x) -/
theorem find_spec {ds : List PyData} {d : PyData} {j : Nat} (h : findD ds d = some j) : ∃ z, ds[j]? = some z ∧ PyData.eqv z d = true ∧ ∀ (m : Nat) (z' : PyData), m < j → ds[m]? = some z' → PyData.eqv z' d = false := by
  unfold findD at h
  obtain ⟨hj, h1, h2⟩ := List.findIdx?_eq_some_iff_getElem.mp h
  refine ⟨ds[j], List.getElem?_eq_getElem hj, h1, fun m z' hm hz => ?_⟩
  have h3 := h2 m hm
  have hm' : m < ds.length := by omega
  rw [List.getElem?_eq_getElem hm'] at hz
  cases hz
  simpa using h3
theorem good_mt {m : Mt} {a : Tm} {es : Tms} (ga : GoodE T n N a) (g : GoodEs T n N es) : GoodE T n N (.mt m a es) := fun sc S X C e h => by
  simp only [chkE] at h
  split at h
  · rename_i o nm xs he
    simp only [Bool.and_eq_true, decide_eq_true_eq] at h
    obtain ⟨⟨⟨⟨rfl, h1⟩, h2⟩, h3⟩, h4⟩ := h
    obtain ⟨ap, pos, rfl, hl⟩ := asMeth_eq he
    obtain ⟨y, rfl⟩ : ∃ y, xs = [y] := by
      match xs, h4 with
      | [y], _ => exact ⟨y, rfl⟩
    obtain ⟨g1, _, _, _, _, g6⟩ := g sc S X C [y] h3
    have hs : notStar y = true := by simpa using g6
    have go := (ga sc S X C o h2).1
    have hb : attributeBase o (mtN m) X.env (eval o X.env) = eval o X.env := by cases o <;> first | rfl | cases h1
    have hu := C.hu
    cases m with
    | index =>
      have pb := pe_bm (cpos := pos) (apos := ap) (name := mtN .index) PySem.F.plainAttrs_list PySem.F.slot_list_index PySem.F.type_list_index (mt_indexD (X := X) (by omega)) go g1 hb (few_ok g6 (show 1 < 29 by decide)) hl (starEach_cons hs [] X.env) rfl
      rw [C.hK] at pb
      have h5 : PE X (.Call (.Attribute o (mtN .index) ap) [y] [] pos) (tEv S (.mt .index a es)) := pb.imp fun σ H Q q => by
        obtain ⟨ρ, F, en, sm, q⟩ := q
        simp only [ev] at q
        rw [postR_bind, postR_bind, postR_bind] at q
        refine tEv.mk en sm q fun u v F1 H1 k a1 vk fr => ?_
        obtain ⟨d, hd, k⟩ := k.dat
        obtain ⟨ds, e, kk⟩ : ∃ ds, d = .list ds ∧ PostR ((evTs S.run es ρ).bind fun ws => (mtD .index ds ws).calm) (fun u => ∀ v F' H', Adv F H F' H' → VOk S.K S.fa F' H' v u → (isLoc (.mt .index a es) = false → FreshV H v u) → Q v H') (errP S σ H) := by
          cases d with
          | list ds => exact ⟨ds, rfl, k⟩
          | _ => exact k.elim
        subst e
        rw [postR_bind] at kk
        refine ⟨?_, ρ, F1, en.adv a1, a1.fh, PostR.mono kk (fun ws _ k vs F2 H2 a2 tp => ?_) fun _ _ q => errP.mono q a1.hh⟩
        · have t := vk.tp a1.fh hd
          cases t with
          | lst hl hz rr => exact .inl ⟨rfl, _, hl⟩
        · rw [postR_calm] at k
          obtain ⟨w, hw, k⟩ := k.get
          have one : ∃ d', ws = [d'] := by
            cases tp with
            | nil => cases hw
            | cons _ t2 =>
              cases t2 with
              | nil => exact ⟨_, rfl⟩
              | cons _ _ => cases hw
          obtain ⟨d', hd'⟩ := one
          subst hd'
          simp only [mtD] at hw
          split at hw
          · rename_i hok
            split at hw
            · rename_i j hj
              cases hw
              obtain ⟨v2, hv2, tv⟩ := tp1 tp
              subst hv2
              rw [Bool.and_eq_true, decide_eq_true_eq, decide_eq_true_eq] at hok
              have t1 := ((vk.adv a2).tp a2.fh hd).all a2.fh
              have t2 := tv.all a2.fh
              obtain ⟨z, z1, z2, z3⟩ := find_spec hj
              obtain ⟨p, hp⟩ : ∃ p, v = .ref p := by cases t1; exact ⟨_, rfl⟩
              subst hp
              have sh1 : SeqAt.shaped (.list ds) = true := by
                unfold SeqAt.shaped
                rw [t1.lay, Bool.true_and]
                refine decide_eq_true ?_
                simp only [PyData.depth]
                omega
              have sh2 : SeqAt.shaped d' = true := by
                unfold SeqAt.shaped
                rw [t2.lay, Bool.true_and]
                exact decide_eq_true hok.1
              have wnt : Want S.K S.fa F2 H2 Q (.fz (.int j)) := Want.of (a1.trans a2) k
              exact ⟨p, v2, d', ds, j, z, rfl, rfl, t1.dp, t2.dp, sh1, sh2, z1, z2, z3, wnt.int a2.fh⟩
            · cases hw
          · cases hw
      exact ⟨h5, pt_of C.hK h5 rfl⟩
  · cases h
end
end Wv
namespace Wv
open PySem PySem.Spec PyProof.Rows L2
open LamX (Tabs TabS ExtN CodeO TabB)
variable [Tbs]
/-! ### {..: ..}.get(x, y), texts to constants -/
def kvK (kvs : List (Str × Gc)) : List (Key × V) := kvs.map fun q => (.inr q.1, q.2.v)
def trsOf (kvs : List (Str × Gc)) : List (TE × TE) := kvs.map fun q => (tC (.str q.1), tC q.2.v)
theorem pairs_const : ∀ (kvs : List (Str × Gc)) (σ : L2.St) (H : Hp) (Q : List (V × V) → Hp → Prop), Q ((kvK kvs).map fun kv => (kV kv.1, kv.2)) H → tPairs (trsOf kvs) σ H Q
  | [], _, _, _, h => h
  | q :: r, σ, H, Q, h => pairs_const r σ H _ h
theorem upd_twice {H : Hp} {p : Addr} {a b : HO} : upd (upd H p a) p b = upd H p b := by
  funext x
  by_cases h : x = p
  · subst h; rw [upd_same, upd_same]
  · rw [upd_ne h, upd_ne h, upd_ne h]
theorem merge_new : ∀ (l acc : List (Key × V)), (∀ q ∈ l, ∀ r ∈ acc, r.1 ≠ q.1) → l.Pairwise (fun a b => a.1 ≠ b.1) → mergeK acc l = acc ++ l
  | [], acc, _, _ => by simp [mergeK]
  | q :: l, acc, h, hp => by
    have hp' := List.pairwise_cons.mp hp
    have e : putK acc q.1 q.2 = acc ++ [q] := by
      unfold putK
      rw [if_neg fun z => ?_]
      obtain ⟨r, hr, hq⟩ := List.any_eq_true.mp z
      exact h q List.mem_cons_self r hr (of_decide_eq_true hq)
    show mergeK (putK acc q.1 q.2) l = _
    rw [e, merge_new l (acc ++ [q]) (fun q' hq' r hr => ?_) hp'.2]
    · simp
    · rcases List.mem_append.mp hr with hr | hr
      · exact h q' (List.mem_cons_of_mem _ hq') r hr
      · rw [List.mem_singleton.mp hr]
        exact hp'.1 q' hq'
theorem val_lookup : ∀ (kvs : List (Str × Gc)) (x : Str), valV (kvK kvs) (.inr x) = (kvs.lookup x).map Gc.v
  | [], _ => rfl
  | q :: r, x => by
    by_cases h : x = q.1
    · subst h
      rw [show kvK (q :: r) = (.inr q.1, q.2.v) :: kvK r from rfl, valV_pos rfl]
      obtain ⟨k, c⟩ := q
      simp [List.lookup]
    · rw [show kvK (q :: r) = (.inr q.1, q.2.v) :: kvK r from rfl, valV_neg (fun z => h (Sum.inr.inj z).symm), val_lookup r x]
      obtain ⟨k, c⟩ := q
      have : (x == k) = false := beq_eq_false_iff_ne.mpr h
      simp [List.lookup, this]
/-- what a constant's value stands for -/
theorem gc_rp {K : PySem.W.Frag} : ∀ {kvs : List (Str × Gc)} {ks : List (Option Expr)} {vs : List Expr}, dispB kvs ks vs = true → ∀ {x : Str} {c : Gc}, kvs.lookup x = some c → ∀ F, Rp K F c.v c.d
  | [], _, _, _, _, _, h, _ => by cases h
  | (k, c0) :: r, some x0 :: ks, y :: vs, hd, x, c, h, F => by
    simp only [dispB, Bool.and_eq_true] at hd
    obtain ⟨⟨⟨⟨⟨_, _⟩, _⟩, hc⟩, _⟩, hr⟩ := hd
    by_cases e : x = k
    · subst e
      rw [List.lookup_cons_self] at h
      cases h
      cases c0 with
      | int i => exact .int i
      | str z =>
        simp only [Bool.and_eq_true, decide_eq_true_eq] at hc
        exact .str z (Nat.le_trans hc.1.2 line1000) hc.2
      | «strs» _ => cases hc
    · have : (x == k) = false := beq_eq_false_iff_ne.mpr e
      rw [List.lookup_cons, this] at h
      exact gc_rp hr h F
  | _ :: _, [], _, hd, _, _, _, _ => by simp [dispB] at hd
  | _ :: _, none :: _, _, hd, _, _, _, _ => by simp [dispB] at hd
  | _ :: _, some _ :: _, [], hd, _, _, _, _ => by simp [dispB] at hd
theorem pps_const {X : Cx} {pos : Pos} : ∀ {kvs : List (Str × Gc)} {ks : List (Option Expr)} {vs : List Expr}, dispB kvs ks vs = true → PPs X pos ks vs (trsOf kvs) ∧ ks.all (·.isSome) = true ∧ ks.length = vs.length ∧ ks.length = kvs.length
  | [], [], [], _ => ⟨pps_nil, rfl, rfl, rfl⟩
  | (k, c) :: r, some x :: ks, y :: vs, hd => by
    simp only [dispB, Bool.and_eq_true, decide_eq_true_eq] at hd
    obtain ⟨⟨⟨⟨⟨h1, _⟩, _⟩, hc⟩, _⟩, hr⟩ := hd
    obtain ⟨a, b, c1, d⟩ := pps_const (X := X) (pos := pos) hr
    obtain ⟨j, p, rfl⟩ := asConst_eq h1
    have hy : PE X y (tC c.v) := by
      cases c with
      | int i =>
        have hc := of_decide_eq_true hc
        obtain ⟨j, p, rfl⟩ := asConst_eq hc
        exact pe_int
      | str z =>
        simp only [Bool.and_eq_true, decide_eq_true_eq] at hc
        obtain ⟨j, p, rfl⟩ := asConst_eq hc.1.1
        exact pe_str
      | «strs» _ => cases hc
    refine ⟨pps_cons pe_str hy a, ?_, ?_, ?_⟩
    · rw [List.all_cons, b]; rfl
    · rw [List.length_cons, List.length_cons, c1]
    · rw [List.length_cons, List.length_cons, d]
  | [], _ :: _, _, hd => by simp [dispB] at hd
  | [], [], _ :: _, hd => by simp [dispB] at hd
  | _ :: _, [], _, hd => by simp [dispB] at hd
  | _ :: _, none :: _, _, hd => by simp [dispB] at hd
  | _ :: _, some _ :: _, [], hd => by simp [dispB] at hd
theorem disp_pw : ∀ {kvs : List (Str × Gc)} {ks : List (Option Expr)} {vs : List Expr}, dispB kvs ks vs = true → (kvK kvs).Pairwise (fun a b => a.1 ≠ b.1)
  | [], _, _, _ => .nil
  | (k, c) :: r, some x :: ks, y :: vs, hd => by
    simp only [dispB, Bool.and_eq_true, Bool.not_eq_true'] at hd
    obtain ⟨⟨_, hn⟩, hr⟩ := hd
    refine List.pairwise_cons.mpr ⟨fun q hq => ?_, disp_pw hr⟩
    obtain ⟨p, hp, rfl⟩ := List.mem_map.mp hq
    intro e
    have e := Sum.inr.inj e
    have := List.any_eq_false.mp hn p hp
    exact this (decide_eq_true e.symm)
  | _ :: _, [], _, hd => by simp [dispB] at hd
  | _ :: _, none :: _, _, hd => by simp [dispB] at hd
  | _ :: _, some _ :: _, [], hd => by simp [dispB] at hd
section
variable {T : Tx} {n : Nat} {N : List Str}
theorem good_dget {kvs : List (Str × Gc)} {a d : Tm} (ga : GoodE T n N a) (gd : GoodE T n N d) : GoodE T n N (.dget kvs a d) := fun sc S X C e h => by
  simp only [chkE] at h
  split at h
  · rename_i o nm x y he
    split at h
    · rename_i ks vs hd
      simp only [Bool.and_eq_true, decide_eq_true_eq, Bool.not_eq_true'] at h
      obtain ⟨⟨⟨⟨⟨⟨⟨h1, h2⟩, h3⟩, h4⟩, h5⟩, h6⟩, h7⟩, h8⟩ := h
      subst h1
      obtain ⟨ap, pos, rfl, hl⟩ := asMeth_eq he
      obtain ⟨dp, rfl⟩ := asDict_eq hd
      obtain ⟨p1, p2, p3, p4⟩ := pps_const (X := X) (pos := dp) h2
      have hu := C.hu
      have ne : ks ≠ [] := by
        intro z
        subst z
        cases kvs with
        | nil => cases h3
        | cons _ _ => cases p4
      have pd := pe_disp p1 p2 p3 ne (by omega)
      have m : M2 X (.Dict ks vs dp) "get" ap x y pos := ⟨rfl, few_ok (by simp [h7, h8]) (show 2 < 29 by decide), hl, by rw [starEach_cons h7, starEach_cons h8]; rfl⟩
      have pb := pe_dget2 (by omega) pd (ga sc S X C x h5).1 (gd sc S X C y h6).1 m
      have h9 : PE X (.Call (.Attribute (.Dict ks vs dp) "get" ap) [x, y] [] pos) (tEv S (.dget kvs a d)) := pb.imp fun σ H Q q => by
        obtain ⟨ρ, F, en, sm, q⟩ := q
        simp only [ev] at q
        rw [postR_bind, postR_bind] at q
        intro p hp
        refine pairs_const kvs σ _ _ ⟨upd_same, kvK kvs, rfl, by unfold kvK; rw [List.length_map]; exact h4, p, rfl, ?_⟩
        rw [upd_twice, merge_new (kvK kvs) [] (fun _ _ _ h => nomatch h) (disp_pw h2), List.nil_append]
        refine ⟨.inl ⟨_, .inl upd_same⟩, ?_⟩
        have a0 : Adv F H F (upd H p (.dK (kvK kvs))) := Adv.own sm hp
        refine tEv.mk (en.adv a0) a0.fh (PostR.mono q (fun _ _ q => q) fun _ _ q => errP.mono q a0.hh) fun u v F1 H1 k a1 vk fr => ?_
        obtain ⟨w, hw, k⟩ := k.dat
        rw [postR_bind] at k
        have A1 := a0.trans a1
        refine tEv.kept (en.adv A1) A1.fh (PostR.mono k (fun _ _ q => q) fun _ _ q => errP.mono q A1.hh) fun u2 v2 F2 H2 k2 a2 vk2 fr2 => ?_
        have A2 := A1.trans a2
        have hp2 : H2 p = some (.dK (kvK kvs)) := (a1.trans a2).hh.at_ upd_same
        have tv := (vk.adv a2).tp a2.fh hw
        cases tv with
        | str z hz oz =>
          refine ⟨valV (kvK kvs) (.inr z), DGet.k (k := .inr z) hp2, ?_⟩
          rw [val_lookup]
          change PostR (match kvs.lookup z with | some c => R.ok (.fz c.d) | none => R.ok u2) _ _ at k2
          cases hk : kvs.lookup z with
          | some c =>
            rw [hk] at k2
            exact k2 c.v F2 H2 A2 (gc_rp h2 hk F2).tp fun _ => .fz
          | none =>
            rw [hk] at k2
            exact k2 v2 F2 H2 A2 vk2 fun _ => fr2.back A1.hh
        | _ => exact k2.elim
      exact ⟨h9, pt_of C.hK h9 rfl⟩
    · cases h
  · cases h
end
end Wv
/-! A comprehension of two clauses. -/
namespace Wv
open PySem PySem.Spec PyProof.Rows L2
open LamX (Tabs TabS ExtN CodeO TabB)
variable [Tbs]
section
variable {T : Tx} {n : Nat} {N : List Str}
theorem flatL_cons {g : PyData → R (List PyData)} {d : PyData} {ds ys : List PyData} (h : flatL g (d :: ds) = .ok ys) : ∃ xs zs, g d = .ok xs ∧ flatL g ds = .ok zs ∧ ys = xs ++ zs := by
  unfold flatL at h
  obtain ⟨xs, h1, h⟩ := bind_ok h
  obtain ⟨zs, h2, rfl⟩ := map1_ok h
  exact ⟨xs, zs, h1, h2, rfl⟩
theorem drop_cons {ds : List PyData} {i : Nat} {d : PyData} (hi : i < ds.length) (hd : ds[i]? = some d) : ds.drop i = d :: ds.drop (i + 1) := by
  rw [List.drop_eq_getElem_cons hi]
  congr 1
  exact Option.some.inj ((List.getElem?_eq_getElem hi).symm.trans hd)
theorem EnvOk.inner {S : Sys} {ρ0 ρ1 : Env} {σ0 σ1 : L2.St} {F3 H3 F7 H7 : Hp} (e1 : EnvOk S ρ1 σ1 F3 H3) (e0 : EnvOk S ρ0 σ0 F7 H7) (ff : Same F3 F7)
    (h : ∀ (j : Nat) (e : PyData), ρ1[j]? = some (some (.ow e)) → ρ0[j]? = some (some (.ow e)) ∧ σ1[j]? = σ0[j]?) : EnvOk S ρ1 σ1 F7 H7 := ⟨e1.1, fun k u hk => by
  obtain ⟨v, h1, h2⟩ := e1.2 k u hk
  refine ⟨v, h1, ?_⟩
  cases u with
  | fz d => exact Tp.monoS ff ff h2
  | ow d =>
    obtain ⟨g1, g2⟩ := h k d hk
    obtain ⟨v', g3, g4⟩ := e0.2 k _ g1
    rw [← g2, h1] at g3
    cases g3
    exact g4
  | fn f => exact h2
  | ex x => exact h2
  | pt x => exact ⟨Tp.monoS ff ff h2.1, h2.2.mono ff⟩
  | fd x =>
    obtain ⟨p, xs, g1, g2, g3⟩ := h2
    exact ⟨p, xs, g1, ff _ _ g2, g3.mono ff⟩⟩
theorem t_comp2 {S : Sys} {x : Tm} {tg : List Nat} {tu : Bool} {it : It} {c : Tms} {tg1 : List Nat} {tu1 : Bool} {it1 : It} {c1 : Tms} {own : List Nat} (htg : ∀ i ∈ tg, i ∈ own) (htg1 : ∀ i ∈ tg1, i ∈ own) (σ : L2.St) (H : Hp) (Q : VK) (q : tEv S (.comp2 x tg tu it c tg1 tu1 it1 c1 own) σ H Q) :
    tLc2 (tIt S false it) (tG S.noX tg tu) (tCond S.noX c) (tIt S.noX true it1) (tG S.noX tg1 tu1) (tCond S.noX c1) (tEv S.noX x) own tg1 σ H Q := by
  obtain ⟨ρ, F, en, sm, q⟩ := q
  simp only [ev] at q
  rw [postR_bind] at q
  refine ⟨ρ, F, en, sm, PostR.mono q (fun ds _ q J G F1 H1 a1 w hG _ hz D hD => ?_) fun _ _ q => q⟩
  rw [postR_bind, postR_calm] at q
  obtain ⟨ys, hys, q⟩ := q.get
  have hlim : ys.length ≤ lim := by
    by_cases h : ys.length ≤ lim
    · exact h
    · rw [if_neg h] at q; exact q.elim
  rw [if_pos hlim] at q
  have hline := lim_line
  have fD1 : F1 D = none := by
    cases e : F1 D with
    | none => rfl
    | some o => have := a1.fh D o e; rw [hD] at this; cases this
  generalize hg : (fun d => (bindT tg tu d (wipeE ρ own)).bind fun ρ1 => (evCond S.run c ρ1).calm.bind fun b => if b = true then (evIt S.run true it1 ρ1).calm.bind fun ds1 =>
        compL (fun d1 => bindT tg1 tu1 d1 (wipeE ρ1 tg1)) (fun ρ2 => (evCond S.run c1 ρ2).calm) (fun ρ2 => ((ev S.run x ρ2).bind (keepV (isLoc x))).calm.bind fun v => (dat v).bind plain) ds1 else R.ok []) = g at hys
  -- what has been made, and what is to come
  let St (more : List PyData) (H2 : Hp) : Prop := ∃ F2 acc zs, Adv F1 H1 F2 H2 ∧ F2 D = none ∧ H2 D = some (.lst acc) ∧ RpAll S.K F2 acc zs ∧ zs ++ more = ys
  refine ⟨fun i m H2 => m = ds.length - i ∧ i ≤ ds.length ∧ ∃ rest, flatL g (ds.drop i) = .ok rest ∧ St rest H2, ⟨_, rfl, Nat.zero_le _, ys, hys, F1, [], [], .own a1.fh hD, fD1, upd_same, .nil, rfl⟩, fun i m H2 hw => ?_⟩
  obtain ⟨hm, hi, rest, hr, F2, acc, zs, a2, fD, hacc, rz, hzs⟩ := hw
  have g2 := hG H2 a2.hh
  by_cases hi2 : i = ds.length
  · rw [hi2, List.drop_length] at hr
    cases hr
    rw [List.append_nil] at hzs
    subst hzs
    refine .inl ⟨by rw [hi2]; exact w.stops H2 g2, q (.ref D) F2 H2 (a1.trans a2) ⟨D, rfl, fD, acc, hacc, by rw [rz.length]; omega, rz⟩ fun _ d _ => ⟨D, rfl, a1.hh.free hD⟩⟩
  · have hlt : i < ds.length := by omega
    refine .inr ⟨w.goes i H2 hlt g2, fun H3 => ∃ rest, flatL g (ds.drop (i + 1)) = .ok rest ∧ St rest H3, fun H3 q3 => ⟨ds.length - (i + 1), by omega, rfl, by omega, q3⟩, fun v H3 hy => ?_⟩
    obtain ⟨F3, d, a3, hd, rd⟩ := w.yields i H2 v H3 hlt g2 hy F2 a2.ff a2.fh
    rw [drop_cons hlt hd] at hr
    obtain ⟨xs, more, hgd, hmore, rfl⟩ := flatL_cons hr
    rw [← hg] at hgd
    obtain ⟨ρ1, hb, hgd⟩ := bind_ok hgd
    obtain ⟨b, hcond, hgd⟩ := bind_ok hgd
    have en3 : EnvOk S.noX (wipeE ρ own) (L2.wipe σ own) F3 H3 := (((en.adv a1).adv a2).adv a3).wipe own
    have fD3 := own_step hD a2 fD a3 ⟨_, hacc⟩
    refine ⟨F3, d, wipeE ρ own, ρ1, a3.fh, rd, en3, hb, fun σ1 en1 hw off => ⟨by rw [hw own htg, wipe_idem], ?_⟩⟩
    have hcond := calm_ok hcond
    refine ⟨ρ1, F3, en1, a3.fh, ?_⟩
    show PostR (evCond S.run c ρ1) _ _
    rw [hcond]
    intro F4 H4 a4
    have A4 := a3.trans a4
    have fD4 := own_step hD a2 fD A4 ⟨_, hacc⟩
    have hD4 : H4 D = some (.lst acc) := A4.hh.at_ hacc
    cases b with
    | false =>
      simp only [Bool.false_eq_true, if_false] at hgd
      cases hgd
      refine iteF ⟨more, hmore, F4, acc, zs, a2.trans A4, fD4, hD4, rz.mono A4.ff, ?_⟩
      simpa using hzs
    | true =>
      simp only [if_true] at hgd
      obtain ⟨ds1, hit1, hgd⟩ := bind_ok hgd
      have hit1 := calm_ok hit1
      refine iteT ⟨ρ1, F4, en1.adv a4, a4.fh, ?_⟩
      show PostR (evIt S.run true it1 ρ1) _ _
      rw [hit1]
      intro J1 G1 F5 H5 a5 w1 _ hG1 hz1
      have A5 := A4.trans a5
      have fD5 := own_step hD a2 fD A5 ⟨_, hacc⟩
      have hD5 : H5 D = some (.lst acc) := A5.hh.at_ hacc
      refine ⟨fun j m H6 => m = ds1.length - j ∧ j ≤ ds1.length ∧ ∃ rest1 F6 acc zs, Adv F1 H1 F6 H6 ∧ Same F5 F6 ∧ F6 D = none ∧ H6 D = some (.lst acc) ∧ RpAll S.K F6 acc zs ∧
          compL (fun d1 => bindT tg1 tu1 d1 (wipeE ρ1 tg1)) (fun ρ2 => (evCond S.run c1 ρ2).calm) (fun ρ2 => ((ev S.run x ρ2).bind (keepV (isLoc x))).calm.bind fun v => (dat v).bind plain) (ds1.drop j) = .ok rest1 ∧ zs ++ (rest1 ++ more) = ys,
        ⟨_, rfl, Nat.zero_le _, xs, F5, acc, zs, a2.trans A5, Same.refl F5, fD5, hD5, rz.mono A5.ff, hgd, by simpa using hzs⟩, fun j m H6 hw1 => ?_⟩
      obtain ⟨hm1, hj, rest1, F6, acc6, zs6, a6, f6, fD6, hacc6, rz6, hr1, hzs6⟩ := hw1
      have g6 := hG1 rfl H6 (f6.trans a6.fh.sm)
      by_cases hj2 : j = ds1.length
      · rw [hj2, List.drop_length] at hr1
        cases hr1
        exact .inl ⟨by rw [hj2]; exact w1.stops H6 g6, more, hmore, F6, acc6, zs6, a6, fD6, hacc6, rz6, by simpa using hzs6⟩
      · have hlt1 : j < ds1.length := by omega
        refine .inr ⟨w1.goes j H6 hlt1 g6, fun H7 => ∃ rest1 F7 acc zs, Adv F1 H1 F7 H7 ∧ Same F5 F7 ∧ F7 D = none ∧ H7 D = some (.lst acc) ∧ RpAll S.K F7 acc zs ∧
            compL (fun d1 => bindT tg1 tu1 d1 (wipeE ρ1 tg1)) (fun ρ2 => (evCond S.run c1 ρ2).calm) (fun ρ2 => ((ev S.run x ρ2).bind (keepV (isLoc x))).calm.bind fun v => (dat v).bind plain) (ds1.drop (j + 1)) = .ok rest1 ∧ zs ++ (rest1 ++ more) = ys,
          fun H7 q7 => ⟨ds1.length - (j + 1), by omega, rfl, by omega, q7⟩, fun v1 H7 hy1 => ?_⟩
        obtain ⟨F7, d1, a7, hd1, rd1⟩ := w1.yields j H6 v1 H7 hlt1 g6 hy1 F6 f6 a6.fh
        rw [drop_cons hlt1 hd1] at hr1
        obtain ⟨ρ2, b1, hb1, hcond1, hrest1⟩ := compL_cons hr1
        have e0 : EnvOk S.noX (wipeE ρ own) (L2.wipe σ own) F7 H7 := (((en.adv a1).adv a6).adv a7).wipe own
        have en7 : EnvOk S.noX (wipeE ρ1 tg1) (L2.wipe σ1 tg1) F7 H7 := (en1.inner e0 (((a4.ff.trans a5.ff).trans f6).trans a7.ff) fun j e hj => by
          obtain ⟨h1, h2⟩ := bindT_ow hb hj
          exact ⟨h2, off j h1⟩).wipe tg1
        have fD7 := own_step hD a6 fD6 a7 ⟨_, hacc6⟩
        refine ⟨F7, d1, wipeE ρ1 tg1, ρ2, a7.fh, rd1, en7, hb1, fun σ2 en2 hw2 _ => ⟨by rw [hw2 tg1 (fun _ h => h), wipe_idem], ?_⟩⟩
        have hcond1 := calm_ok hcond1
        refine ⟨ρ2, F7, en2, a7.fh, ?_⟩
        show PostR (evCond S.run c1 ρ2) _ _
        rw [hcond1]
        intro F8 H8 a8
        have A8 := a7.trans a8
        have fD8 := own_step hD a6 fD6 A8 ⟨_, hacc6⟩
        have hD8 : H8 D = some (.lst acc6) := A8.hh.at_ hacc6
        rcases hrest1 with ⟨rfl, e, rs, he, hrs, rfl⟩ | ⟨rfl, hrs⟩
        · refine iteT (tEv.elt (en2.adv a8) a8.fh he fun v9 F9 H9 a9 rv => ?_)
          have A9 := A8.trans a9
          have fD9 := own_step hD a6 fD6 A9 ⟨_, hacc6⟩
          have hD9 : H9 D = some (.lst acc6) := A9.hh.at_ hacc6
          have hl6 : acc6.length < ys.length := by
            rw [← hzs6, rz6.length]
            simp only [List.length_append, List.length_cons]
            omega
          refine ⟨acc6, hD9, by omega, rs, F9, acc6 ++ [v9], zs6 ++ [e], own_write hD (a6.trans A9) fD9 hD9, f6.trans A9.ff, fD9, upd_same, (rz6.mono A9.ff).append (.cons rv .nil), hrs, ?_⟩
          rw [← hzs6]
          simp
        · exact iteF ⟨rest1, F8, acc6, zs6, a6.trans A8, f6.trans A8.ff, fD8, hD8, rz6.mono A8.ff, hrs, hzs6⟩
theorem good_comp2 {x : Tm} {tg : List Nat} {tu : Bool} {it : It} {c : Tms} {tg1 : List Nat} {tu1 : Bool} {it1 : It} {c1 : Tms} {own : List Nat} (gi : GoodIt T n N it) (gc : GoodEs T n N c) (gi1 : GoodIt T n N it1) (gc1 : GoodEs T n N c1) (gx : GoodE T n N x) : GoodE T n N (.comp2 x tg tu it c tg1 tu1 it1 c1 own) := fun sc S X C e h => by
  simp only [chkE] at h
  split at h
  · rename_i y t i fs t1 i1 fs1 sc1 he
    simp only [Bool.and_eq_true, List.all_eq_true, decide_eq_true_eq] at h
    obtain ⟨⟨⟨⟨⟨⟨⟨⟨⟨⟨⟨⟨⟨⟨h1, h2⟩, h3⟩, h4⟩, h5⟩, h6⟩, h7⟩, h8⟩, h9⟩, h10⟩, h11⟩, h12⟩, h13⟩, h14⟩, h15⟩ := h
    obtain ⟨pos, rfl⟩ := asComp_eq he
    have htg : ∀ i ∈ tg, i ∈ own := fun i hi => by simpa using h6 i hi
    have htg1 : ∀ i ∈ tg1, i ∈ own := fun i hi => by simpa using h7 i hi
    have hb : BlkOk X.N X.env.scope sc1 (own.map fun v => (N.getD v ⟨#[]⟩, v)) := blkOk_by (by rw [C.hN, C.hsc]; exact h8)
    have p := pe_lc2 (pos := pos) (vs1 := tg1) C.calm (by rw [C.hN]; exact C.nd) (gi sc S X C false t i h1) hb (by rw [blk_own]; exact htg1)
      (fun s H C' cl fp => pg_ok (X := X.blk s H sc1 (compEnvC sc1 cl C' X.env) fp) (S := S.noX) C.hK C.hN C.nd C.calm (C.blkStores s H sc1 cl C' fp) h4)
      (fun s H C' cl fp => (gc _ _ _ (C.blk s H sc1 cl C' fp) fs h10).2.2.2.2.1 h14)
      (fun s H C' cl fp => gi1 _ _ _ (C.blk s H sc1 cl C' fp) true t1 i1 h11)
      (fun s H C' cl fp => pg_ok (X := X.blk s H sc1 (compEnvC sc1 cl C' X.env) fp) (S := S.noX) C.hK C.hN C.nd C.calm (C.blkStores s H sc1 cl C' fp) h5)
      (fun s H C' cl fp => (gc1 _ _ _ (C.blk s H sc1 cl C' fp) fs1 h12).2.2.2.2.1 h15)
      (fun s H C' cl fp => (gx _ _ _ (C.blk s H sc1 cl C' fp) y h13).1)
      (fun v => folded_pure h2 X.env v) (fun env v => folded_pure h3 env v)
    rw [blk_own] at p
    have h16 := p.imp (t_comp2 (S := S) (x := x) (tg := tg) (tu := tu) (it := it) (c := c) (tg1 := tg1) (tu1 := tu1) (it1 := it1) (c1 := c1) htg htg1)
    exact ⟨h16, pt_of C.hK h16 rfl⟩
  · cases h
theorem swap_comp2 {x : Tm} {tg : List Nat} {tu : Bool} {it : It} {c : Tms} {tg1 : List Nat} {tu1 : Bool} {it1 : It} {c1 : Tms} {own : List Nat} (gi : GoodIt T n N it) (gc : GoodEs T n N c) (gi1 : GoodIt T n N it1) (gc1 : GoodEs T n N c1) (gx : GoodE T n N x) :
    ∀ sc S X, Ctx T n N sc S X → ∀ y gs sc1 pos, chkE T N sc (.comp2 x tg tu it c tg1 tu1 it1 c1 own) (.ListComp y gs sc1 pos) = true → ∀ (i : Nat) (nm : Str) (px spos : Pos), N[i]? = some nm →
      X.env.scope.names.lookup nm = some .local → swapsWith (.ListComp y gs sc1 pos) (some (.Name nm px)) spos.line X.env = pure true → ∃ te, PS X (.Assign [.Name nm px] (.ListComp y gs sc1 pos) spos) (tAsg te (gName i)) ∧ ∀ σ H Q, tEv S (.comp2 x tg tu it c tg1 tu1 it1 c1 own) σ H Q → te σ H Q := fun sc S X C y gs sc1 pos h i nm px spos hi hl hsw => by
  simp only [chkE] at h
  split at h
  · rename_i y t i' fs t1 i1 fs1 sc1 he
    cases he
    simp only [Bool.and_eq_true, List.all_eq_true, decide_eq_true_eq] at h
    obtain ⟨⟨⟨⟨⟨⟨⟨⟨⟨⟨⟨⟨⟨⟨h1, h2⟩, h3⟩, h4⟩, h5⟩, h6⟩, h7⟩, h8⟩, h9⟩, h10⟩, h11⟩, h12⟩, h13⟩, h14⟩, h15⟩ := h
    have htg : ∀ i ∈ tg, i ∈ own := fun i hi => by simpa using h6 i hi
    have htg1 : ∀ i ∈ tg1, i ∈ own := fun i hi => by simpa using h7 i hi
    have hb : BlkOk X.N X.env.scope sc1 (own.map fun v => (N.getD v ⟨#[]⟩, v)) := blkOk_by (by rw [C.hN, C.hsc]; exact h8)
    have p := ps_setLc2 (pos := pos) (spos := spos) (py := px) (vs1 := tg1) C.calm (by rw [C.hN]; exact C.nd) (by rw [C.hN]; exact hi) hl hsw (gi sc S X C false t i' h1) hb (by rw [blk_own]; exact htg1)
      (fun s H C' cl fp => pg_ok (X := X.blk s H sc1 (compEnvC sc1 cl C' X.env) fp) (S := S.noX) C.hK C.hN C.nd C.calm (C.blkStores s H sc1 cl C' fp) h4)
      (fun s H C' cl fp => (gc _ _ _ (C.blk s H sc1 cl C' fp) fs h10).2.2.2.2.1 h14)
      (fun s H C' cl fp => gi1 _ _ _ (C.blk s H sc1 cl C' fp) true t1 i1 h11)
      (fun s H C' cl fp => pg_ok (X := X.blk s H sc1 (compEnvC sc1 cl C' X.env) fp) (S := S.noX) C.hK C.hN C.nd C.calm (C.blkStores s H sc1 cl C' fp) h5)
      (fun s H C' cl fp => (gc1 _ _ _ (C.blk s H sc1 cl C' fp) fs1 h12).2.2.2.2.1 h15)
      (fun s H C' cl fp => (gx _ _ _ (C.blk s H sc1 cl C' fp) y h13).1)
      (fun v => folded_pure h2 X.env v) (fun env v => folded_pure h3 env v)
    rw [blk_own] at p
    exact ⟨_, p, t_comp2 htg htg1⟩
  · cases h
end
end Wv
namespace Wv
open PySem PySem.Spec PyProof.Rows L2
open LamX (Tabs TabS ExtN CodeO TabB)
variable [Tbs]
section
variable {T : Tx} {n : Nat} {N : List Str}
/-! ### x op= e -/
theorem ip_mul {X : Cx} : PIp X .Mult fun x y H Q => ∃ i j, x = .int i ∧ y = .int j ∧ CMul i j ∧ Q (.int (i * j)) H := by
  intro pins s σ H x y v u Q I r1 r2 h
  obtain ⟨i, j, e1, e2, c, q⟩ := h
  subst e1; subst e2
  obtain ⟨t, rfl⟩ := r1
  obtain ⟨t', rfl⟩ := r2
  exact imul_int ⟨.int _, H, I.tok _, ⟨_, rfl⟩, q⟩ c.ok
/-- the new value of x op= e: a number or a text -/
def augP (K : PySem.W.Frag) (fa : Nat → Option Addr) (o : Op2) : TIp := fun x y H Q => ∃ F d e, Fit F H ∧ Tp K F H x d ∧ Tp K F H y e ∧ PostR (op2D o d e) (fun v => ((∃ i, v = .fz (.int i)) ∨ ∃ z, v = .fz (.str z)) ∧ ∀ w, (∀ F1 H1, Adv F H F1 H1 → VOk K fa F1 H1 w v) → Q w H) fun _ => False
theorem aug_rule {X : Cx} {fa : Nat → Option Addr} {o : Op2} {p : Operator} (h : o = .add ∧ p = .Add ∨ o = .sub ∧ p = .Sub ∨ o = .mul ∧ p = .Mult) : PIp X p (augP X.K fa o) := by
  intro pins s σ H x y v u Q I r1 r2 q
  obtain ⟨F, d, e, sm, td, te, q⟩ := q
  obtain ⟨w, hw, hv, q⟩ := q.get
  rcases h with ⟨rfl, rfl⟩ | ⟨rfl, rfl⟩ | ⟨rfl, rfl⟩
  · change addD d e = _ at hw
    cases td with
    | int i =>
      cases te with
      | int j =>
        simp only [addD, kI] at hw
        cases hw
        exact ip_add pins s σ H _ _ v u Q I r1 r2 ⟨i, j, rfl, rfl, q _ fun F1 H1 _ => .int _⟩
      | _ => cases hw
    | str i hz1 ho1 =>
      cases te with
      | str j hz2 ho2 =>
        simp only [addD] at hw
        split at hw
        · rename_i hl
          cases hw
          have hz := Nat.le_trans hl lim_line
          exact iop_add_str pins s σ H _ _ v u Q I r1 r2 ⟨i, j, rfl, rfl, hz, q _ fun F1 H1 _ => .str _ (by rw [strLen_append]; exact hz) (strOk_append ho1 ho2)⟩
        · cases hw
      | _ => cases hw
    | lst _ _ _ =>
      cases te with
      | lst _ _ _ =>
        simp only [addD] at hw
        split at hw
        · cases hw
          rcases hv with ⟨i, h⟩ | ⟨z, h⟩ <;> cases h
        · cases hw
      | _ => cases hw
    | tup _ _ _ =>
      cases te with
      | tup _ _ _ =>
        simp only [addD] at hw
        split at hw
        · cases hw
          rcases hv with ⟨i, h⟩ | ⟨z, h⟩ <;> cases h
        · cases hw
      | _ => cases hw
    | _ => cases hw
  · change subD d e = _ at hw
    cases td with
    | int i =>
      cases te with
      | int j =>
        simp only [subD, kI] at hw
        cases hw
        exact ip_sub pins s σ H _ _ v u Q I r1 r2 ⟨i, j, rfl, rfl, q _ fun F1 H1 _ => .int _⟩
      | _ => cases hw
    | _ => cases hw
  · change mulD d e = _ at hw
    cases td with
    | int i =>
      cases te with
      | int j =>
        simp only [mulD, kI] at hw
        split at hw
        · rename_i hs
          cases hw
          rw [Bool.or_eq_true] at hs
          exact ip_mul pins s σ H _ _ v u Q I r1 r2 ⟨i, j, rfl, rfl, hs.imp smallI_ok smallI_ok, q _ fun F1 H1 _ => .int _⟩
        · cases hw
      | _ => cases hw
    | _ => cases hw
theorem augB_ok {o : Op2} {p : Operator} (h : augB o p = true) : o = .add ∧ p = .Add ∨ o = .sub ∧ p = .Sub ∨ o = .mul ∧ p = .Mult := by
  cases o <;> cases p <;> first | (cases h; done) | simp
theorem intsOf_map : ∀ ns : List Int, intsOf (ns.map PyData.int) = some ns
  | [] => rfl
  | n :: ns => by rw [List.map_cons, intsOf, intsOf_map ns]; rfl
theorem insU_len (c : Int) : ∀ l : List Int, (insU c l).length ≤ l.length + 1
  | [] => Nat.le_refl _
  | x :: r => by
    unfold insU
    split
    · exact Nat.le_refl _
    · split
      · exact Nat.le_succ _
      · have := insU_len c r
        simp only [List.length_cons]
        omega
theorem risI_len : ∀ l : List Int, (risI l).length ≤ l.length
  | [] => Nat.le_refl _
  | x :: r => Nat.le_trans (insU_len x (risI r)) (Nat.succ_le_succ (risI_len r))
theorem good_aug {i : Nat} {o : Op2} {t : Tm} (ga : GoodE T n N t) : GoodS T n N (.aug i o t) := fun sc S X C st h => by
  simp only [chkS] at h
  split at h
  · rename_i x px p e pos
    simp only [Bool.and_eq_true, decide_eq_true_eq] at h
    obtain ⟨⟨⟨h1, h2⟩, h3⟩, h4⟩ := h
    have h1' := h1
    unfold slB at h1
    simp only [Bool.and_eq_true, decide_eq_true_eq] at h1
    obtain ⟨⟨n1, n2⟩, n3⟩ := h1
    obtain ⟨s1, s2⟩ := C.st x h4
    have rule : PIp X p (augP S.K S.fa o) := by
      rw [← C.hK]
      exact aug_rule (augB_ok h2)
    refine (ps_aug (by rw [C.hN]; exact C.nd) (by rw [C.hN]; exact n1) s1 (ga sc S X C.toCtx e h3).1 rule s2).imp fun D σ H q => ?_
    obtain ⟨H0, F0, ρ, F, s, q⟩ := q
    simp only [exS] at q
    have q := q.bind
    obtain ⟨d, hd, q⟩ : ∃ d, ρ[i]? = some (some (.fz d)) ∧ PostO S H0 F0 D ((evT S.run t ρ).bind fun e => (op2D o d e).calm.bind fun v => (match v with
      | .fz (.int k) => R.ok (Vl.fz (.int k))
      | .fz (.str k) => R.ok (Vl.fz (.str k))
      | _ => .bad).bind fun v => .ok (.nx (ρ.set i (some v)))) := by
      split at q
      · rename_i d hd
        exact ⟨d, hd, q⟩
      · exact q.elim
    obtain ⟨v, e1, e2⟩ := s.env.2 i _ hd
    have q := q.bind
    unfold evT at q
    rw [postR_bind] at q
    refine ⟨v, e1, tEv.mk s.env s.sm (PostR.mono q (fun _ _ q => q) fun _ _ q => errP.up q s) fun u w F1 H1 k a1 vk fr => ?_⟩
    obtain ⟨e, he, k⟩ := k.dat
    have k : PostO S H0 F0 D _ := k
    have k := k.bind
    rw [postR_calm] at k
    obtain ⟨z, hz, k⟩ := k.get
    have k : PostO S H0 F0 D _ := k
    have tv : Tp S.K F1 H1 v d := Tp.monoS a1.ff (s.sm.ext a1.hh).sm e2
    refine ⟨F1, d, e, a1.fh, tv, vk.tp a1.fh he, ?_⟩
    rw [hz]
    have nb : ∀ {z : Vl}, ((∃ i, z = .fz (.int i)) ∨ ∃ x, z = .fz (.str x)) → ∀ w, (∀ F2 H2, Adv F1 H1 F2 H2 → VOk S.K S.fa F2 H2 w z) → PostO S H0 F0 D (.ok (.nx (ρ.set i (some z)))) → D.nx (σ.set i (some w)) H1 := fun {z} hz w hw k => by
      refine k _ F1 H1 ((s.step a1).store (.refl a1.fh) (hw F1 H1 (.refl a1.fh)) (fun d hd => ?_) i)
      rcases hz with ⟨i, rfl⟩ | ⟨x, rfl⟩ <;> cases hd
    cases z with
    | fz dd =>
      cases dd with
      | int j => exact ⟨.inl ⟨j, rfl⟩, fun w hw => nb (.inl ⟨j, rfl⟩) w hw k⟩
      | str j => exact ⟨.inr ⟨j, rfl⟩, fun w hw => nb (.inr ⟨j, rfl⟩) w hw k⟩
      | _ => exact k.elim
    | _ => exact k.elim
  · cases h
/-! ### tuple(range(n)) -/
theorem good_trng {es : Tms} (g : GoodEs T n N es) (el : ∀ b r, es = .cons b r → GoodE T n N b) : GoodE T n N (.trng es) := fun sc S X C e h => by
  simp only [chkE] at h
  split at h
  · rename_i f x he
    split at h
    · rename_i r ys he2
      simp only [Bool.and_eq_true, decide_eq_true_eq] at h
      obtain ⟨⟨⟨⟨⟨rfl, rfl⟩, h1⟩, h2⟩, h3⟩, h4⟩ := h
      obtain ⟨p, pos, rfl⟩ := asCall_eq he
      obtain ⟨p2, pos2, rfl⟩ := asCall_eq he2
      obtain ⟨y, rfl⟩ : ∃ y, ys = [y] := by
        match ys, h4 with
        | [y], _ => exact ⟨y, rfl⟩
      cases es with
      | nil => simp [chkEs] at h3
      | cons a r =>
        cases r with
        | cons b r => simp [chkEs] at h3
        | nil =>
          simp only [chkEs, Bool.and_eq_true] at h3
          have hs : notStar y = true := h3.1.1
          have g1 := (el a .nil rfl sc S X C y h3.1.2).1
          have hm : X.mg "tuple" = none := C.bl _ (by decide +kernel)
          have hm2 : X.mg "range" = none := C.bl _ (by decide +kernel)
          have h5 : PE X (.Call (.Name "tuple" p) [.Call (.Name "range" p2) [y] [] pos2] [] pos) (tEv S (.trng (.cons a .nil))) := (pe_tupRg C.calm (gl_of C h1) hm (prg_1 (gl_of C h2) hm2 g1 (starEach_cons hs [] X.env)) (starEach_cons rfl [] X.env)).imp fun σ H Q q => by
            obtain ⟨ρ, F, en, sm, q⟩ := q
            simp only [ev, evTs, postR_bind, postR_map1, postR_calm] at q
            refine tEv.mk en sm q fun u v F1 H1 k a1 vk fr => ?_
            obtain ⟨d, hd, k⟩ := k.dat
            have k : PostR (trngD [d]) _ _ := k
            obtain ⟨w, hw, k⟩ := k.get
            have t := vk.tp a1.fh hd
            cases t with
            | int i =>
              simp only [trngD] at hw
              split at hw
              · rename_i hi
                cases hw
                have hb := inN_iff.mp hi
                have hlim : (lim : Int) = 1000000 := rfl
                have hz : (rgV 0 i).length ≤ sizeLine := by
                  rw [rgV_length]
                  have : sizeLine = 16777216 := sizeLine_eq
                  omega
                refine ⟨i, rfl, ⟨by omega, by omega, by omega, by omega, by omega⟩, fun q hq => ?_⟩
                have a2 := Adv.lay (o := .tup (rgV 0 i)) a1.fh hq
                exact k _ _ _ (a1.trans a2) (.tup (SqT.of upd_same) hz (rp_rgV i)) fun _ => .fz
              · cases hw
            | _ => cases hw
          exact ⟨h5, pt_of C.hK h5 rfl⟩
    · cases h
  · cases h
/-! ### tuple(range(a, b)) -/
theorem rp_rgV2 {K : PySem.W.Frag} {F : Hp} (a b : Int) : RpAll K F (rgV a b) ((List.range (b - a).toNat).map fun (i : Nat) => PyData.int (a + i)) := by
  unfold rgV
  have key : ∀ l : List Nat, RpAll K F (l.map fun (i : Nat) => V.int (a + i)) (l.map fun (i : Nat) => PyData.int (a + i)) := fun l => by
    induction l with
    | nil => exact .nil
    | cons x l ih => exact .cons (.int _) ih
  exact key _
theorem good_trng2 {a b : Tm} (ga : GoodE T n N a) (gb : GoodE T n N b) : GoodE T n N (.trng2 a b) := fun sc S X C e h => by
  simp only [chkE] at h
  split at h
  · rename_i f x he
    split at h
    · rename_i r y z he2
      simp only [Bool.and_eq_true, decide_eq_true_eq] at h
      obtain ⟨⟨⟨⟨⟨⟨⟨rfl, rfl⟩, h1⟩, h2⟩, hs⟩, hs2⟩, h3⟩, h4⟩ := h
      obtain ⟨p, pos, rfl⟩ := asCall_eq he
      obtain ⟨p2, pos2, rfl⟩ := asCall_eq he2
      have g1 := (ga sc S X C y h3).1
      have g2 := (gb sc S X C z h4).1
      have hm : X.mg "tuple" = none := C.bl _ (by decide +kernel)
      have hm2 : X.mg "range" = none := C.bl _ (by decide +kernel)
      have h5 : PE X (.Call (.Name "tuple" p) [.Call (.Name "range" p2) [y, z] [] pos2] [] pos) (tEv S (.trng2 a b)) := (pe_tupRg C.calm (gl_of C h1) hm (prg_2 (gl_of C h2) hm2 g1 g2 (starEach_cons hs [z] X.env) (starEach_cons hs2 [] X.env) (by rw [starEach_cons hs2 [] X.env]; rfl)) (starEach_cons rfl [] X.env)).imp fun σ H Q q => by
        obtain ⟨ρ, F, en, sm, q⟩ := q
        simp only [ev, postR_bind, postR_calm] at q
        refine tEv.mk en sm q fun u v F1 H1 k a1 vk fr => ?_
        obtain ⟨d, hd, k⟩ := k.dat
        have t1 := vk.tp a1.fh hd
        refine tEv.mk (en.adv a1) a1.fh (k.mono (fun _ _ q => q) fun _ _ q => errP.mono q a1.hh) fun u2 v2 F2 H2 k a2 vk2 fr2 => ?_
        obtain ⟨d2, hd2, k⟩ := k.dat
        obtain ⟨w, hw, k⟩ := k.get
        have t2 := vk2.tp a2.fh hd2
        cases t1 with
        | int i =>
          cases t2 with
          | int j =>
            simp only [trng2D] at hw
            split at hw
            · rename_i hi
              cases hw
              rw [Bool.and_eq_true] at hi
              have hb := inN_iff.mp hi.1
              have hb2 := inN_iff.mp hi.2
              have hlim : (lim : Int) = 1000000 := rfl
              have hz : (rgV i j).length ≤ sizeLine := by
                rw [rgV_length]
                have : sizeLine = 16777216 := sizeLine_eq
                omega
              refine ⟨i, j, rfl, rfl, ⟨by omega, by omega, by omega, by omega, by omega⟩, fun q hq => ?_⟩
              have a3 := Adv.lay (o := .tup (rgV i j)) a2.fh hq
              exact k _ _ _ ((a1.trans a2).trans a3) (.tup (SqT.of upd_same) hz (rp_rgV2 i j)) fun _ => .fz
            · cases hw
          | _ => cases hw
        | _ => cases hw
      exact ⟨h5, pt_of C.hK h5 rfl⟩
    · cases h
  · cases h
/-! ### what is never reached -/
theorem good_no : GoodE T n N .no := fun sc S X C e h => by
  refine ⟨⟨fun pins s σ H Q I q => ?_⟩, ⟨fun pins s σ H Q I q => ?_⟩⟩
  · obtain ⟨ρ, F, _, _, q⟩ := q
    simp only [ev] at q
    exact q.elim
  · obtain ⟨ρ, F, _, _, q⟩ := q
    simp only [evB, ev] at q
    exact q.elim
theorem good_noS : GoodS T n N .no := fun sc S X C st h => by
  refine ⟨fun pins s σ H D I q => ?_⟩
  obtain ⟨H0, F0, ρ, F, _, q⟩ := q
  simp only [exS] at q
  exact q.elim
/-! ### len(set(t)), t a tuple of ints -/
theorem distinctI_mem : ∀ (l : List Int) (x : Int), x ∈ distinctI l ↔ x ∈ l
  | [], x => by simp [distinctI]
  | y :: r, x => by
    unfold distinctI
    split
    · rename_i h
      rw [distinctI_mem r x, List.mem_cons]
      constructor
      · exact .inr
      · rintro (rfl | h2)
        · exact h
        · exact h2
    · rw [List.mem_cons, List.mem_cons, distinctI_mem r x]
theorem distinctI_nodup : ∀ (l : List Int), (distinctI l).Nodup
  | [] => by simp [distinctI]
  | y :: r => by
    unfold distinctI
    split
    · exact distinctI_nodup r
    · rename_i h
      exact List.nodup_cons.mpr ⟨fun z => h ((distinctI_mem r y).mp z), distinctI_nodup r⟩
theorem nodup_len {α : Type} [DecidableEq α] {l m : List α} (h1 : l.Nodup) (h2 : m.Nodup) (h : ∀ x, x ∈ l ↔ x ∈ m) : l.length = m.length := ((List.perm_ext_iff_of_nodup h1 h2).mpr h).length_eq
def tLenSetT (K : PySem.W.Frag) (ta : TE) : TE := fun σ H Q => ta σ H fun x H1 => ∃ (l : Addr) (ns : List Int), x = .ref l ∧ SqT K H1 l (ns.map V.int) ∧ ns.length < 1000 ∧ Q (.int (distinctI ns).length) H1
theorem pe_lenSetT {X : Cx} {a : Expr} {ta : TE} {p p2 q pos : Pos} (hg : Gl X "len") (hm : X.mg "len" = none) (hg2 : Gl X "set") (hm2 : X.mg "set" = none) (ha : PE X a ta) (hc : X.calm = true)
    (na : starEach [a] X.env = (false, eval a X.env) :: starEach [] X.env) : PE X (.Call (.Name "len" p) [.Call (.Name "set" p2) [a] [] q] [] pos) (tLenSetT X.K ta) := by
  refine ⟨fun pins s σ H Q I h => ?_⟩
  refine Call_ (ld_blt I hg hm boot_len ?_)
  refine PyProof.Rows.callWith_builtin1 (PyProof.Rows.args_cons ?_ rfl) rfl rfl
  refine Call_ (ld_blt I hg2 hm2 boot_set ?_)
  refine PyProof.Rows.callWith_type1 (PyProof.Rows.args_cons (thn (ha.run pins s σ H _ I h) fun v s1 ⟨x, H1, I1, r1, q1⟩ => PyProof.Rows.args_nil ?_) na) na rfl
  obtain ⟨l, ns, rfl, hq, hl, q1⟩ := q1
  cases r1
  obtain ⟨its, r, pl, hz⟩ := I1.tuple hq
  refine call_set_tupI (items := its.toArray) ns (I1.ok.hd hc) pl (by simpa using RZ.intsAre_vals r) (by unfold scanBound; omega) fun h' tk c hS hcl hk => ?_
  refine PyProof.Rows.args_nil ?_
  obtain ⟨o, es, ep, t, ho, hex, hd, g, nd, hmem, hb, hf, hn, _⟩ := hS
  have I2 : Inv X pins σ H1 { s1 with heap := h', toks := tk } := I1.kept fun b o e => hk b o e
  have hlen : es.size = (distinctI ns).length := by
    have e1 : (es.toList.map keyOf).length = (distinctI ns).length := nodup_len nd (distinctI_nodup ns) fun x => by
      rw [distinctI_mem, ← hmem x]
      exact decide_eq_true_iff
    rw [← e1, List.length_map, Array.length_toList]
  exact call_len_set ho hex hd hf (by rw [hn]; omega) ⟨.int (distinctI ns).length, H1, I2.tok _, ⟨_, by rw [hlen]⟩, q1⟩
theorem good_lenset {a : Tm} (ga : GoodE T n N a) : GoodE T n N (.lenset a) := fun sc S X C e h => by
  simp only [chkE] at h
  split at h
  · rename_i f x he
    split at h
    · rename_i g y he2
      simp only [Bool.and_eq_true, decide_eq_true_eq] at h
      obtain ⟨⟨⟨⟨⟨rfl, rfl⟩, h1⟩, h2⟩, h3⟩, h4⟩ := h
      obtain ⟨p, pos, rfl⟩ := asCall_eq he
      obtain ⟨p2, pos2, rfl⟩ := asCall_eq he2
      have g1 := (ga sc S X C y h3).1
      have hm : X.mg "len" = none := C.bl _ (by decide +kernel)
      have hm2 : X.mg "set" = none := C.bl _ (by decide +kernel)
      have q3 : PE X (.Call (.Name "len" p) [.Call (.Name "set" p2) [y] [] pos2] [] pos) (tEv S (.lenset a)) := (pe_lenSetT (gl_of C h1) hm (gl_of C h2) hm2 g1 C.calm (starEach_cons h4 [] X.env)).imp fun σ H Q q => by
        obtain ⟨ρ, F, en, sm, q⟩ := q
        simp only [ev, postR_bind, postR_calm] at q
        refine tEv.mk en sm q fun u v F1 H1 k a1 vk fr => ?_
        obtain ⟨d, hd, k⟩ := k.dat
        obtain ⟨w, hw, k⟩ := k.get
        have t := vk.tp a1.fh hd
        rw [C.hK]
        cases t with
        | @tup l vs ds hl hz rr =>
          simp only [lensetD] at hw
          split at hw
          · rename_i ns hns
            split at hw
            · rename_i hlt
              cases hw
              have hv := rr.ints hns
              subst hv
              exact ⟨l, ns, rfl, Same.sqt a1.fh.sm hl, hlt, k _ F1 H1 a1 (.int _) fun _ => .fz⟩
            · cases hw
          · cases hw
        | _ => cases hw
      exact ⟨q3, pt_of C.hK q3 rfl⟩
    · cases h
  · cases h
/-! ### sorted({k: True for ..}) -/
theorem intsOf_append : ∀ (l m : List PyData) (ns : List Int), intsOf (l ++ m) = some ns → ∃ a b, intsOf l = some a ∧ intsOf m = some b ∧ ns = a ++ b
  | [], m, ns, h => ⟨[], ns, rfl, h, rfl⟩
  | d :: l, m, ns, h => by
    cases d with
    | int i =>
      simp only [List.cons_append, intsOf, Option.map_eq_some_iff] at h
      obtain ⟨ks, h1, rfl⟩ := h
      obtain ⟨a, b, h2, h3, rfl⟩ := intsOf_append l m ks h1
      exact ⟨i :: a, b, by simp [intsOf, h2], h3, rfl⟩
    | _ => simp [intsOf] at h
theorem keys_put {kvs : List (Key × V)} {k : Int} {z : V} {ks done : List Int} (h1 : kvs.map (·.1) = ks.map Sum.inl) (h2 : ks.Nodup) (h3 : ∀ x, x ∈ ks ↔ x ∈ done) (hl : ks.length ≤ done.length) :
    ∃ ks' : List Int, (putK kvs (.inl k) z).map (·.1) = ks'.map Sum.inl ∧ ks'.Nodup ∧ (∀ x, x ∈ ks' ↔ x ∈ done ++ [k]) ∧ ks'.length ≤ (done ++ [k]).length := by
  have hin : (kvs.any fun kv => decide (kv.1 = Sum.inl k)) = true ↔ k ∈ ks := by
    rw [List.any_eq_true]
    constructor
    · rintro ⟨kv, hm, he⟩
      have he := of_decide_eq_true he
      have : kv.1 ∈ ks.map Sum.inl := by rw [← h1]; exact List.mem_map.mpr ⟨kv, hm, rfl⟩
      obtain ⟨x, hx, e⟩ := List.mem_map.mp this
      rw [he] at e
      cases e
      exact hx
    · intro hk
      have : (Sum.inl k : Key) ∈ kvs.map (·.1) := by rw [h1]; exact List.mem_map.mpr ⟨k, hk, rfl⟩
      obtain ⟨kv, hm, e⟩ := List.mem_map.mp this
      exact ⟨kv, hm, decide_eq_true e⟩
  unfold putK
  split
  · rename_i h
    have hk := hin.mp h
    refine ⟨ks, ?_, h2, fun x => ?_, by rw [List.length_append]; omega⟩
    · rw [List.map_map, ← h1]
      refine List.map_congr_left fun kv _ => ?_
      show (if kv.1 = Sum.inl k then (kv.1, z) else kv).1 = kv.1
      split <;> rfl
    · rw [h3, List.mem_append, List.mem_singleton]
      constructor
      · exact .inl
      · rintro (h | rfl)
        · exact h
        · exact (h3 _).mp hk
  · rename_i h
    have hk : k ∉ ks := fun z => h (hin.mpr z)
    refine ⟨ks ++ [k], by rw [List.map_append, List.map_append, h1]; rfl, ?_, fun x => by rw [List.mem_append, List.mem_append, h3], by rw [List.length_append, List.length_append]; exact Nat.add_le_add_right hl _⟩
    exact List.nodup_append.mpr ⟨h2, by simp, fun a ha b hb => by rw [List.mem_singleton.mp hb]; rintro rfl; exact hk ha⟩
theorem t_dkeys {S : Sys} {x : Tm} {tg : List Nat} {tu : Bool} {it : It} {own : List Nat} {tz : TE} (hz : ∀ σ H Q, Q (.bl true) H → tz σ H Q) (htg : ∀ i ∈ tg, i ∈ own) (σ : L2.St) (H : Hp) (Q : VK) (q : tEv S (.dkeys x tg tu it own) σ H Q) :
    tDc (tIt S false it) (tG S.noX tg tu) (fun _ H Q => Q true H) (tEv S.noX x) tz own σ H fun v H1 => ∃ (a : Addr) (kvs : List (Key × V)) (ks : List Int), [v] = [.ref a] ∧ Rd H1 a (.dK kvs) ∧ kvs.map (·.1) = ks.map Sum.inl ∧ ks.length < 64 ∧
    ∀ (ys : List Int) (p : Addr), ys.Perm ks → ys.Pairwise (· ≤ ·) → H1 p = none → Q (.ref p) (upd H1 p (.lst (ys.map V.int))) := by
  obtain ⟨ρ, F, en, sm, q⟩ := q
  simp only [ev] at q
  rw [postR_bind] at q
  refine ⟨ρ, F, en, sm, PostR.mono q (fun ds _ q J G F1 H1 a1 w hG _ hz1 D hD => ?_) fun _ _ q => q⟩
  rw [postR_bind, postR_calm] at q
  obtain ⟨keys, hys, q⟩ := q.get
  rw [postR_calm] at q
  obtain ⟨u, hu, q⟩ := q.get
  unfold dkeysD at hu
  split at hu
  case h_2 => cases hu
  rename_i all hall
  split at hu
  case isFalse => cases hu
  rename_i hlt
  cases hu
  have hline := lim_line
  have hlim : lim = 1000000 := rfl
  have fD1 : F1 D = none := by
    cases e : F1 D with
    | none => rfl
    | some o => have := a1.fh D o e; rw [hD] at this; cases this
  refine ⟨fun i m H2 => m = ds.length - i ∧ i ≤ ds.length ∧ ∃ rest, compL (fun d => bindT tg tu d (wipeE ρ own)) (fun _ => .ok true) (fun ρ1 => (ev S.run x ρ1).calm.bind dat) (ds.drop i) = .ok rest ∧
      ∃ (F2 : Hp) (kvs : List (Key × V)) (ks done : List Int), Adv F1 H1 F2 H2 ∧ F2 D = none ∧ H2 D = some (.dK kvs) ∧ kvs.map (·.1) = ks.map Sum.inl ∧ ks.Nodup ∧ (∀ x, x ∈ ks ↔ x ∈ done) ∧ ks.length ≤ done.length ∧ done.map PyData.int ++ rest = keys,
    ⟨_, rfl, Nat.zero_le _, keys, hys, F1, [], [], [], .own a1.fh hD, fD1, upd_same, rfl, .nil, fun _ => Iff.rfl, Nat.le_refl _, rfl⟩, fun i m H2 hw => ?_⟩
  obtain ⟨hm, hi, rest, hr, F2, kvs, ks, done, a2, fD, hacc, k1, k2, k3, k4, hzs⟩ := hw
  have g2 := hG H2 a2.hh
  have dl : done.length ≤ all.length := by
    have e := hall
    rw [← hzs] at e
    obtain ⟨b, c, e1, _, e2⟩ := intsOf_append _ _ _ e
    have : b = done := by
      have : intsOf (done.map PyData.int) = some done := intsOf_map done
      rw [this] at e1
      exact (Option.some.inj e1).symm
    rw [e2, this, List.length_append]
    omega
  have kl : kvs.length = ks.length := by
    have := congrArg List.length k1
    simpa using this
  by_cases hi2 : i = ds.length
  · rw [hi2, List.drop_length] at hr
    cases hr
    rw [List.append_nil] at hzs
    have hd : done = all := by
      rw [← hzs, intsOf_map] at hall
      exact Option.some.inj hall
    subst hd
    refine .inl ⟨by rw [hi2]; exact w.stops H2 g2, D, kvs, ks, rfl, .inl hacc, k1, by omega, fun ys p pm pw hp => ?_⟩
    have hys : ys = risI done := by
      refine sorted_unique _ _ ?_ (codes_sort done) fun x => ?_
      · have nd : ys.Nodup := pm.nodup_iff.mpr k2
        exact (List.pairwise_and_iff.mpr ⟨pw, nd⟩).imp fun ⟨h1, h2⟩ => by omega
      · rw [pm.mem_iff, k3, show risI done = codes done from rfl, codes_mem]
    rw [hys]
    have A := a1.trans a2
    have wnt : Want S.K S.fa F2 H2 Q (.ow (.list ((risI done).map .int))) := Want.of A q
    refine wnt.lst A.fh (rp_ints _) ?_ p hp
    rw [List.length_map]
    have : (risI done).length ≤ done.length := risI_len done
    omega
  · have hlt1 : i < ds.length := by omega
    refine .inr ⟨w.goes i H2 hlt1 g2, fun H3 => ∃ rest, compL (fun d => bindT tg tu d (wipeE ρ own)) (fun _ => .ok true) (fun ρ1 => (ev S.run x ρ1).calm.bind dat) (ds.drop (i + 1)) = .ok rest ∧
      ∃ (F2 : Hp) (kvs : List (Key × V)) (ks done : List Int), Adv F1 H1 F2 H3 ∧ F2 D = none ∧ H3 D = some (.dK kvs) ∧ kvs.map (·.1) = ks.map Sum.inl ∧ ks.Nodup ∧ (∀ x, x ∈ ks ↔ x ∈ done) ∧ ks.length ≤ done.length ∧ done.map PyData.int ++ rest = keys, fun H3 q3 => ⟨ds.length - (i + 1), by omega, rfl, by omega, q3⟩, fun v H3 hy => ?_⟩
    obtain ⟨F3, d, a3, hd, rd⟩ := w.yields i H2 v H3 hlt1 g2 hy F2 a2.ff a2.fh
    rw [drop_cons hlt1 hd] at hr
    obtain ⟨ρ1, b, hb, hcond, hrest⟩ := compL_cons hr
    cases hcond
    have en3 : EnvOk S.noX (wipeE ρ own) (L2.wipe σ own) F3 H3 := (((en.adv a1).adv a2).adv a3).wipe own
    have fD3 := own_step hD a2 fD a3 ⟨_, hacc⟩
    refine ⟨F3, d, wipeE ρ own, ρ1, a3.fh, rd, en3, hb, fun σ1 en1 hw off => ⟨by rw [hw own htg, wipe_idem], ?_⟩⟩
    rcases hrest with ⟨_, k, more, hk, hmore, rfl⟩ | ⟨z, _⟩
    · rw [if_pos rfl]
      obtain ⟨u1, hu1, hk⟩ := bind_ok hk
      have hu1 := calm_ok hu1
      refine tEv.mk (k := fun u' => u' = u1) en1 a3.fh (by show PostR (ev S.run x ρ1) _ _; rw [hu1]; exact rfl) fun u' v4 F4 H4 eu a4 vk fr => hz _ _ _ ?_
      subst eu
      have A4 := a3.trans a4
      have fD4 := own_step hD a2 fD A4 ⟨_, hacc⟩
      have hD4 : H4 D = some (.dK kvs) := A4.hh.at_ hacc
      -- the key is an int
      have hki : ∃ j, k = .int j := by
        have e := hall
        rw [← hzs] at e
        obtain ⟨b, c, _, e1, _⟩ := intsOf_append _ _ _ e
        cases k with
        | int j => exact ⟨j, rfl⟩
        | _ => simp [intsOf] at e1
      obtain ⟨j, rfl⟩ := hki
      have t := vk.tp a4.fh hk
      cases t with
      | int _ =>
        obtain ⟨ks', p1, p2, p3, p4⟩ := keys_put (z := .bl true) k1 k2 k3 k4 (k := j)
        refine ⟨kvs, .inl j, rfl, hD4, by omega, more, hmore, F4, _, ks', done ++ [j], (a2.trans A4).write hD fD4 hD4 dull_dK, fD4, upd_same, p1, p2, p3, p4, ?_⟩
        rw [List.map_append, List.append_assoc]
        exact hzs
    · cases z
theorem good_dkeys {x : Tm} {tg : List Nat} {tu : Bool} {it : It} {own : List Nat} (gi : GoodIt T n N it) (gx : GoodE T n N x) : GoodE T n N (.dkeys x tg tu it own) := fun sc S X C e h => by
  simp only [chkE] at h
  split at h
  · rename_i f d he
    split at h
    · rename_i y z t i sc1 hd
      simp only [Bool.and_eq_true, List.all_eq_true, decide_eq_true_eq] at h
      obtain ⟨⟨⟨⟨⟨⟨⟨⟨⟨rfl, h1⟩, h2⟩, h3⟩, h4⟩, h5⟩, h6⟩, h7⟩, h8⟩, h9⟩ := h
      obtain ⟨p, pos, rfl⟩ := asCall_eq he
      obtain ⟨pos2, rfl⟩ := asDComp_eq hd
      obtain ⟨kz, pz, rfl⟩ := asConst_eq h2
      have htg : ∀ i ∈ tg, i ∈ own := fun i hi => by simpa using h6 i hi
      have hb : BlkOk X.N X.env.scope sc1 (own.map fun v => (N.getD v ⟨#[]⟩, v)) := blkOk_by (by rw [C.hN, C.hsc]; exact h7)
      have hm : X.mg "sorted" = none := C.bl _ (by decide +kernel)
      have p1 := pe_dc (pos := pos2) C.calm (by rw [C.hN]; exact C.nd) (gi sc S X C false t i h3) hb
        (fun s H C' cl fp => pg_ok (X := X.blk s H sc1 (compEnvC sc1 cl C' X.env) fp) (S := S.noX) C.hK C.hN C.nd C.calm (C.blkStores s H sc1 cl C' fp) h5)
        (fun s H C' cl fp => pts_nil)
        (fun s H C' cl fp => (gx _ _ _ (C.blk s H sc1 cl C' fp) y h9).1)
        (vx := .Constant (.bool true) kz pz) (fun s H C' cl fp => pe_bl)
        (fun v => folded_pure h4 X.env v)
      rw [blk_own] at p1
      have p2 := pe_callB (x := "sorted") (p := p) (pos := pos) (call_sortedDI C.calm) (gl_of C h1) hm (by decide +kernel) (pa_cons p1 pa_nil (starEach_cons rfl [] X.env)) (by decide) (by decide) (starEach_cons rfl [] X.env) rfl
      have q3 : PE X (.Call (.Name "sorted" p) [.DictComp y (.Constant (.bool true) kz pz) [⟨t, i, [], 0⟩] sc1 pos2] [] pos) (tEv S (.dkeys x tg tu it own)) := p2.imp fun σ H Q q => t_dkeys (fun _ _ _ q => q) htg σ H Q q
      exact ⟨q3, pt_of C.hK q3 rfl⟩
    · cases h
  · cases h
end
end Wv
namespace Wv
open PySem PySem.Spec PyProof.Rows L2
open LamX (Tabs TabS ExtN CodeO TabB)
variable [Tbs]
section
variable {T : Tx} {n : Nat} {N : List Str}
/-! ### tuples whose objects are plain -/
theorem sqt_frz {K : PySem.W.Frag} {H : Hp} {p : Addr} {o : Obj} {vs : List V} : SqT K (upd H p (.frz o (.tup vs))) p vs := .inl (.inr ⟨o, upd_same⟩)
theorem Want.pt {K : PySem.W.Frag} {fa : Nat → Option Addr} {F H : Hp} {Q : VK} {ds : List PyData} {vs : List V} (e : Fit F H) (h : Want K fa F H Q (.pt ds)) (r : RpAll K F vs ds) (z : vs.length ≤ sizeLine) :
    ∀ p o, H p = none → o.cls = .type "tuple" → o.dict = none → Q (.ref p) (upd H p (.frz o (.tup vs))) := fun p o n hc hd =>
  h _ _ _ (.lay e n) ⟨.tup sqt_frz z (r.mono (Adv.lay e n).ff), p, o, _, rfl, upd_same, hc, hd⟩ .pt
def tTupP (t : TA) : TE := fun σ H Q => t σ H fun xs H1 => xs.length ≤ sizeLine ∧ ∀ p o, H1 p = none → o.cls = .type "tuple" → o.dict = none → Q (.ref p) (upd H1 p (.frz o (.tup xs)))
theorem pe_tupP {X : Cx} {es : List Expr} {t : TA} {x1 : Nat} {pos : Pos} (h : PA X es t) : PE X (.Tuple es x1 pos) (tTupP t) := by
  refine ⟨fun pins s σ H Q I hq => ?_⟩
  refine wpAny_Tuple_spliced (thn (h.run pos pins s σ H _ I hq) fun us s1 ⟨xs, H1, I1, r, z, q⟩ => ⟨by rw [← r.length]; exact z, ?_⟩)
  have hf : H1 s1.heap.objs.size = none := I1.hok.fresh (Nat.le_refl _)
  refine ⟨.ref s1.heap.objs.size, upd H1 s1.heap.objs.size (.frz { cls := .type "tuple", data := .seq us.toArray } (.tup xs)), I1.laid (t' := s1.toks) (fun b u e => Heap.get?_push_of_some _ e) (Nat.le_refl _) ?_, rfl, q _ _ hf rfl rfl⟩
  exact ⟨Heap.get?_push_size _ rfl, z, us, r, ⟨_, Heap.get?_push_size _ rfl, rfl, _, rfl⟩⟩
theorem good_ptup {es : Tms} (g : GoodEs T n N es) : GoodE T n N (.ptup es) := fun sc S X C e h => by
  simp only [chkE] at h
  split at h
  · rename_i xs he
    simp only [Bool.and_eq_true, decide_eq_true_eq] at h
    obtain ⟨k, pos, rfl⟩ := asTup_eq he
    obtain ⟨_, g2, _⟩ := g sc S X C xs h.1
    have hl := chkEs_len es xs h.1
    have h4 : PE X (.Tuple xs k pos) (tEv S (.ptup es)) := (pe_tupP g2).imp fun σ H Q q => by
      obtain ⟨ρ, F, en, sm, q⟩ := q
      simp only [ev, postR_bind] at q
      refine ⟨ρ, F, en, sm, PostR.mono q (fun ds hd q vs F1 H1 ad r => ?_) fun _ _ q => q⟩
      have e1 := evDs_len es ρ ds hd
      have e2 := r.length
      have hz : vs.length ≤ sizeLine := Nat.le_trans (by omega) line1000
      have w : Want S.K S.fa F1 H1 Q (.pt ds) := fun v F2 H2 a2 vk fr => q v F2 H2 (ad.trans a2) vk fun _ => .pt
      exact ⟨hz, w.pt ad.fh r hz⟩
    exact ⟨h4, pt_of C.hK h4 rfl⟩
  · cases h
/-! ### tuple(l) -/
def rPtl (K : PySem.W.Frag) : List V → Hp → VK → Prop := fun xs H Q => ∃ p ys, xs = [.ref p] ∧ SqL K H p ys ∧ ∀ l o, H l = none → o.cls = .type "tuple" → o.dict = none → Q (.ref l) (upd H l (.frz o (.tup ys)))
theorem call_tupleP {X : Cx} : CallR X (.type "tuple") (rPtl X.K) := by
  intro pins s σ H xs us Q I r h
  obtain ⟨p, ys, rfl, hq, q⟩ := h
  obtain ⟨u, rfl, rx⟩ := vals1 r
  cases rx
  obtain ⟨its, r', pl, hz⟩ := I.list hq
  have hlen := r'.length
  refine call_tuple_list pl.isList (fun h' kp => ?_) (by simp only [List.size_toArray] <;> omega)
  have I1 : Inv X pins σ H { s with heap := h' } := I.kept (t' := s.toks) kp
  have I2 : Inv X pins σ (upd H h'.objs.size (.frz { cls := .type "tuple", data := .seq its.toArray } (.tup ys))) { s with heap := h'.push { cls := .type "tuple", data := .seq its.toArray } } :=
    I1.laid (t' := s.toks) (fun b o e => Heap.get?_push_of_some _ e) (Nat.le_refl _) ⟨Heap.get?_push_size _ rfl, show ObjOk X.prog X.w _ _ _ (.tup ys) from ⟨hz, its, r', IsTup.new _ _⟩⟩
  exact ⟨.ref h'.objs.size, _, I2, rfl, q _ _ (I1.hok.fresh (Nat.le_refl _)) rfl rfl⟩
theorem ty_boot_tuple : bootBuiltins "tuple" = some (.type "tuple") := by decide +kernel
theorem good_ptl {a : Tm} (ga : GoodE T n N a) : GoodE T n N (.ptl a) := fun sc S X C e h => by
  simp only [chkE] at h
  split at h
  · rename_i f x he
    simp only [Bool.and_eq_true, decide_eq_true_eq] at h
    obtain ⟨⟨⟨rfl, h1⟩, hs⟩, h2⟩ := h
    obtain ⟨p, pos, rfl⟩ := asCall_eq he
    have hm : X.mg "tuple" = none := C.bl _ (by decide +kernel)
    have g1 := (ga sc S X C x h2).1
    have h5 : PE X (.Call (.Name "tuple" p) [x] [] pos) (tEv S (.ptl a)) :=
      (pe_callTy (call_tupleP (X := X)) (gl_of C h1) hm ty_boot_tuple (pa_cons g1 pa_nil (starEach_cons hs [] X.env)) (by decide +kernel) (by decide +kernel) (starEach_cons hs [] X.env) rfl).imp fun σ H Q q => by
        obtain ⟨ρ, F, en, sm, q⟩ := q
        simp only [ev] at q
        rw [postR_bind, postR_bind, postR_bind] at q
        refine tEv.mk en sm q fun u v F1 H1 k a1 vk fr => ?_
        obtain ⟨d, hd, k⟩ := k.dat
        have t1 := vk.tp a1.fh hd
        cases t1 with
        | @lst _ _ ds hq z rr =>
          have k : ∀ v F' H', Adv F H F' H' → VOk S.K S.fa F' H' v (.pt ds) → (isLoc (.ptl a) = false → FreshV H v (.pt ds)) → Q v H' := k
          rw [C.hK]
          exact ⟨_, _, rfl, hq, (Want.of a1 k).pt a1.fh rr z⟩
        | _ => exact k.elim
    exact ⟨h5, pt_of C.hK h5 rfl⟩
  · cases h
/-! ### tuple(range(..)) -/
def tTupRgP (te : L2.St → Hp → (Int → Int → Hp → Prop) → Prop) : TE := fun σ H Q => te σ H fun a b H1 => RgOk a b ∧ ∀ q o, H1 q = none → o.cls = .type "tuple" → o.dict = none → Q (.ref q) (upd H1 q (.frz o (.tup (rgV a b))))
theorem pe_tupRgP {X : Cx} {e : Expr} {te : L2.St → Hp → (Int → Int → Hp → Prop) → Prop} {p pos : Pos} (hc : X.calm = true) (hg : Gl X "tuple") (hm : X.mg "tuple" = none) (he : PRg X e te) (na : starEach [e] X.env = (false, eval e X.env) :: starEach [] X.env := by rfl) : PE X (.Call (.Name "tuple" p) [e] [] pos) (tTupRgP te) := by
  refine ⟨fun pins s σ H Q I h => ?_⟩
  refine Call_ (ld_blt I hg hm boot_tuple (PyProof.Rows.callWith_type1 (args_cons (thn (he pins s σ H _ I h) fun x s1 ⟨r, a, b, t, u, v, H1, ex, hr, I1, ok, q⟩ => args_nil ?_) na) na))
  subst ex
  obtain ⟨b1, b2, b3, b4, b5⟩ := ok
  refine call_tuple_range (n := (b - a).toNat) (I1.ok.hd hc) hr (small_one b1 b2 b3 b4) (rangeSize_nat a b) b5 fun h' tk acc hk hi => ?_
  have I2 : Inv X pins σ H1 { s1 with heap := h', toks := tk } := I1.kept hk
  refine ⟨.ref h'.objs.size, upd H1 h'.objs.size (.frz { cls := .type "tuple", data := .seq acc.toList.toArray } (.tup (rgV a b))), I2.laid (t' := tk) (fun c o e => Heap.get?_push_of_some _ e) (Nat.le_refl _) ⟨?_, (show ObjOk X.prog X.w _ _ _ (.tup (rgV a b)) from ⟨?_, acc.toList, vals_rg hi, ?_⟩)⟩, rfl, q _ _ (I2.hok.fresh (Nat.le_refl _)) rfl rfl⟩
  · rw [Array.toArray_toList]; exact Heap.get?_push_size _ rfl
  · rw [rgV_length, sizeLine_eq]; omega
  · rw [Array.toArray_toList]; exact IsTup.new _ _
theorem rg_ok {i : Int} (hi : inN i lim = true) : RgOk 0 i ∧ (rgV 0 i).length ≤ sizeLine := by
  have hb := inN_iff.mp hi
  have hlim : (lim : Int) = 1000000 := rfl
  refine ⟨⟨by omega, by omega, by omega, by omega, by omega⟩, ?_⟩
  rw [rgV_length]
  have : sizeLine = 16777216 := sizeLine_eq
  omega
theorem good_ptr {a : Tm} (ga : GoodE T n N a) : GoodE T n N (.ptr a) := fun sc S X C e h => by
  simp only [chkE] at h
  split at h
  · rename_i f x he
    split at h
    · rename_i r y he2
      simp only [Bool.and_eq_true, decide_eq_true_eq] at h
      obtain ⟨⟨⟨⟨⟨rfl, rfl⟩, h1⟩, h2⟩, hs⟩, h3⟩ := h
      obtain ⟨p, pos, rfl⟩ := asCall_eq he
      obtain ⟨p2, pos2, rfl⟩ := asCall_eq he2
      have g1 := (ga sc S X C y h3).1
      have hm : X.mg "tuple" = none := C.bl _ (by decide +kernel)
      have hm2 : X.mg "range" = none := C.bl _ (by decide +kernel)
      have h5 : PE X (.Call (.Name "tuple" p) [.Call (.Name "range" p2) [y] [] pos2] [] pos) (tEv S (.ptr a)) := (pe_tupRgP C.calm (gl_of C h1) hm (prg_1 (gl_of C h2) hm2 g1 (starEach_cons hs [] X.env)) (starEach_cons rfl [] X.env)).imp fun σ H Q q => by
        obtain ⟨ρ, F, en, sm, q⟩ := q
        simp only [ev, postR_bind, postR_calm] at q
        refine tEv.mk en sm q fun u v F1 H1 k a1 vk fr => ?_
        obtain ⟨d, hd, k⟩ := k.dat
        obtain ⟨w, hw, k⟩ := k.get
        have t := vk.tp a1.fh hd
        cases t with
        | int i =>
          simp only [trngD] at hw
          split at hw
          · rename_i hi
            cases hw
            have k : ∀ v F' H', Adv F H F' H' → VOk S.K S.fa F' H' v (.pt ((List.range i.toNat).map fun (i : Nat) => .int i)) → (isLoc (.ptr a) = false → FreshV H v (.pt ((List.range i.toNat).map fun (i : Nat) => .int i))) → Q v H' := k
            exact ⟨i, rfl, (rg_ok hi).1, (Want.of a1 k).pt a1.fh (rp_rgV i) (rg_ok hi).2⟩
          · cases hw
        | _ => cases hw
      exact ⟨h5, pt_of C.hK h5 rfl⟩
    · cases h
  · cases h
theorem good_ptr2 {a b : Tm} (ga : GoodE T n N a) (gb : GoodE T n N b) : GoodE T n N (.ptr2 a b) := fun sc S X C e h => by
  simp only [chkE] at h
  split at h
  · rename_i f x he
    split at h
    · rename_i r y z he2
      simp only [Bool.and_eq_true, decide_eq_true_eq] at h
      obtain ⟨⟨⟨⟨⟨⟨⟨rfl, rfl⟩, h1⟩, h2⟩, hs⟩, hs2⟩, h3⟩, h4⟩ := h
      obtain ⟨p, pos, rfl⟩ := asCall_eq he
      obtain ⟨p2, pos2, rfl⟩ := asCall_eq he2
      have g1 := (ga sc S X C y h3).1
      have g2 := (gb sc S X C z h4).1
      have hm : X.mg "tuple" = none := C.bl _ (by decide +kernel)
      have hm2 : X.mg "range" = none := C.bl _ (by decide +kernel)
      have h5 : PE X (.Call (.Name "tuple" p) [.Call (.Name "range" p2) [y, z] [] pos2] [] pos) (tEv S (.ptr2 a b)) := (pe_tupRgP C.calm (gl_of C h1) hm (prg_2 (gl_of C h2) hm2 g1 g2 (starEach_cons hs [z] X.env) (starEach_cons hs2 [] X.env) (by rw [starEach_cons hs2 [] X.env]; rfl)) (starEach_cons rfl [] X.env)).imp fun σ H Q q => by
        obtain ⟨ρ, F, en, sm, q⟩ := q
        simp only [ev, postR_bind, postR_calm] at q
        refine tEv.mk en sm q fun u v F1 H1 k a1 vk fr => ?_
        obtain ⟨d, hd, k⟩ := k.dat
        have t1 := vk.tp a1.fh hd
        refine tEv.mk (en.adv a1) a1.fh (k.mono (fun _ _ q => q) fun _ _ q => errP.mono q a1.hh) fun u2 v2 F2 H2 k a2 vk2 fr2 => ?_
        obtain ⟨d2, hd2, k⟩ := k.dat
        obtain ⟨w, hw, k⟩ := k.get
        have t2 := vk2.tp a2.fh hd2
        cases t1 with
        | int i =>
          cases t2 with
          | int j =>
            simp only [trng2D] at hw
            split at hw
            · rename_i hi
              cases hw
              rw [Bool.and_eq_true] at hi
              have hb := inN_iff.mp hi.1
              have hb2 := inN_iff.mp hi.2
              have hlim : (lim : Int) = 1000000 := rfl
              have hz : (rgV i j).length ≤ sizeLine := by
                rw [rgV_length]
                have : sizeLine = 16777216 := sizeLine_eq
                omega
              have k : ∀ v F' H', Adv F H F' H' → VOk S.K S.fa F' H' v (.pt ((List.range (j - i).toNat).map fun (m : Nat) => .int (i + m))) → (isLoc (.ptr2 a b) = false → FreshV H v (.pt ((List.range (j - i).toNat).map fun (m : Nat) => .int (i + m)))) → Q v H' := k
              exact ⟨i, j, rfl, rfl, ⟨by omega, by omega, by omega, by omega, by omega⟩, (Want.of (a1.trans a2) k).pt a2.fh (rp_rgV2 i j) hz⟩
            · cases hw
          | _ => cases hw
        | _ => cases hw
      exact ⟨h5, pt_of C.hK h5 rfl⟩
    · cases h
  · cases h
/-! ### t.index(k), t a plain tuple of ints -/
def rTix (K : PySem.W.Frag) : V → List V → Hp → VK → Prop := fun x xs H Q => ∃ (a : Addr) (ns : List Int) (k : Int), x = .ref a ∧ xs = [.int k] ∧ SqT K H a (ns.map V.int) ∧ k ∈ ns ∧ Q (.int (ns.idxOf k : Nat)) H
theorem istup_of {h : Heap} {a : Addr} {its : List Value} (x : IsTup h a its.toArray) : h.IsTuple a its.toArray := x
theorem mt_tix {X : Cx} : MtR X "tuple.index" (rTix X.K) := by
  intro pins s σ H x xs v us Q I rx rxs h
  obtain ⟨a, ns, k, rfl, rfl, hs, hk, q⟩ := h
  cases rx
  obtain ⟨u, rfl, ru⟩ := vals1 rxs
  obtain ⟨t, rfl⟩ := ru
  obtain ⟨its, rv, ht, _⟩ := I.tuple hs
  exact PySem.SeqAt.tuple_index_ints (istup_of ht) rv.ints hk ⟨.int _, H, I.tok _, ⟨_, rfl⟩, q⟩
def tTix (r : V → List V → Hp → VK → Prop) (to : TE) (t : TA) : TE := fun σ H Q => to σ H fun x H1 => PlV H1 x ∧ t σ H1 fun xs H2 => r x xs H2 Q
theorem pe_tix {X : Cx} {o e : Expr} {to : TE} {t : TA} {name : Str} {apos cpos : Pos} {id : String} {r : V → List V → Hp → VK → Prop} (pa : PlainAttrs "tuple") (slot : Slot "tuple" name id) (hty : typeOf (.builtin id) = pure (.type "method_descriptor")) (hm : MtR X id r) (ho : PE X o to) (ha : PA X [e] t)
    (hbase : attributeBase o name X.env (eval o X.env) = eval o X.env)
    (hfew : ((backTo cpos (starEach [e] X.env)).all (fun x => !x.1) && (backToKw cpos (keywordEach [] X.env)).all (fun x => x.1.isSome)
      && decide ([e].length + ([] : List Keyword).length + (if ([] : List Keyword).isEmpty then 0 else 1) < 30)) = true)
    (hline : (apos.endLine == cpos.line) = true) (hs : starEach [e] X.env = (false, eval e X.env) :: starEach [] X.env) :
    PE X (.Call (.Attribute o name apos) [e] [] cpos) (tTix r to t) := by
  refine ⟨fun pins s σ H Q I h => ?_⟩
  refine wpAny_Call_method_late hbase hfew hline rfl (thn (ho.run pins s σ H _ I h) fun v s1 ⟨x, H1, I1, r1, ty, q1⟩ => ?_)
  obtain ⟨a, ob, u, rfl, hb, hc, hd⟩ := ty
  cases r1
  have hg : s1.heap.get? a = some ob := (I1.hok a _ hb).1
  refine ⟨"tuple", id, pa, slot, hty, ⟨ob, hg, hc⟩, fun b eb => ?_, ?_⟩
  · cases eb
    exact ⟨ob, hg, hd⟩
  have hA := ha.run cpos pins s1 σ H1 _ I1 q1
  rw [hs] at hA ⊢
  refine Calls.callWith_builtin (by rfl) (Calls.evalArgs_plain ?_)
  exact thn hA fun us s2 ⟨vs, H2, I2, r2, q2⟩ => hm pins s2 σ H2 (.ref a) vs (.ref a) us Q I2 rfl r2 q2
theorem good_tix {a b : Tm} (ga : GoodE T n N a) (gb : GoodE T n N b) : GoodE T n N (.tix a b) := fun sc S X C e h => by
  simp only [chkE] at h
  split at h
  · rename_i o nm y he
    simp only [Bool.and_eq_true, decide_eq_true_eq] at h
    obtain ⟨⟨⟨⟨rfl, h1⟩, h2⟩, h3⟩, hs⟩ := h
    obtain ⟨ap, pos, rfl, hl⟩ := asMeth_eq he
    have go := (ga sc S X C o h2).1
    have gy := (gb sc S X C y h3).1
    have hb : attributeBase o "index" X.env (eval o X.env) = eval o X.env := by cases o <;> first | rfl | cases h1
    have pb := pe_tix (cpos := pos) (apos := ap) (name := "index") PySem.F.plainAttrs_tuple PySem.F.slot_tuple_index PySem.F.type_tuple_index (mt_tix (X := X)) go (pa_cons gy pa_nil (starEach_cons hs [] X.env)) hb (few_ok (e := y) (es := []) (by simpa using hs) (by show 1 < 29; decide)) hl (starEach_cons hs [] X.env)
    rw [C.hK] at pb
    have h5 : PE X (.Call (.Attribute o "index" ap) [y] [] pos) (tEv S (.tix a b)) := pb.imp fun σ H Q q => by
      obtain ⟨ρ, F, en, sm, q⟩ := q
      simp only [ev, postR_bind, postR_calm] at q
      refine tEv.mk en sm q fun u v F1 H1 k a1 vk fr => ?_
      cases u with
      | pt ds =>
        have k : PostR (ev S.run b ρ) _ _ := k
        obtain ⟨vt, vp⟩ := vk
        refine ⟨vp.mono a1.fh, tEv.mk (en.adv a1) a1.fh (k.mono (fun _ _ q => q) fun _ _ q => errP.mono q a1.hh) fun u2 v2 F2 H2 k a2 vk2 fr2 => ?_⟩
        obtain ⟨d2, hd2, k⟩ := k.dat
        obtain ⟨w, hw, k⟩ := k.get
        have t2 := vk2.tp a2.fh hd2
        cases t2 with
        | int i =>
          simp only [tixD] at hw
          split at hw
          · rename_i ns hns
            split at hw
            · rename_i hk
              cases hw
              cases vt with
              | tup hq z rr =>
                have e1 := rr.ints hns
                subst e1
                have wnt : Want S.K S.fa F2 H2 Q (.fz (.int (ns.idxOf i : Nat))) := Want.of (a1.trans a2) k
                exact ⟨_, ns, i, rfl, rfl, Same.sqt (a2.ff.trans a2.fh) hq, hk, wnt.int a2.fh⟩
            · cases hw
          · cases hw
        | _ => cases hw
      | _ => exact k.elim
    exact ⟨h5, pt_of C.hK h5 rfl⟩
  · cases h
end
end Wv
namespace Wv
open PySem PySem.Spec PySem.Calls PyProof.Rows L2 PySem.W
open LamX (Tabs TabS ExtN CodeO TabB)
variable [Tbs]
/-! ### x, *y = e -/
section
variable {prog : Program} {w : World} {A : Around} {E : Value → Shared → Prop} {s : Shared}
theorem star_rawL {l : Addr} {items : Array Value} {Q : List Value → Shared → Prop} (hl : s.heap.IsList l items) (hh : A.handled = none) (hn : 1 ≤ items.size) (hz : items.size ≤ sizeLine)
    (h : ∀ (h₂ : Heap) (tk : Nat), (∀ b o, s.heap.get? b = some o → h₂.get? b = some o) → Q (items.toList.take 1 ++ [.ref h₂.objs.size]) { s with heap := h₂.push { cls := .type "list", data := .seq (items.toList.drop 1).toArray }, toks := tk }) : wpAny (model prog w) A (unpackItems (.ref l) 2 (some 1)) Q E s := by
  have hlt : l ≠ s.heap.objs.size := by obtain ⟨o, ho, _⟩ := hl; exact Nat.ne_of_lt (Heap.lt_size ho)
  unfold unpackItems
  refine wpAny_bind ?_
  unfold notIterableAtAll
  refine wpAny_bind (wpAny_specialOf hl.typeIs slot_list_iter.lookup ?_)
  refine wpAny_pure ?_
  simp only [Bool.false_eq_true, if_false]
  refine wpAny_bind (wpAny_holding (wpAny_pyIter_list hl ?_))
  refine wpAny_bind (wpAny_holding (kun_draw hlt 1 0 _ _ ⟨_, Heap.get?_push_size _ rfl, rfl, rfl⟩ (hl.push _) (by omega) fun h₁ hit₁ hs₁ => ?_))
  have hl₁ : h₁.IsList l items := (hl.push _).extBut hs₁.extBut hlt
  rw [Nat.zero_add] at hit₁
  have hit₁' := hit₁
  obtain ⟨oi, hoi, _⟩ := hit₁'
  have hl₁' := hl₁
  obtain ⟨ol, hol, _⟩ := hl₁'
  rw [List.drop_zero]
  have hfl : (items.toList.take 1).length = 1 := by rw [List.length_take, Array.length_toList]; omega
  rw [if_neg (show ¬ ((items.toList.take 1).length < 1) by rw [hfl]; omega)]
  refine wpAny_bind (wpAny_holding (kun_collect (s := { s with heap := h₁ }) (T := "list_iterator") (.inr (.inr (.inl rfl))) (Walks.list (A := A.in1) hh s.heap.objs.size l hlt items) (fun j u st => st.1.typeIs) (k := 1) (by omega) ⟨hit₁, hl₁⟩ (Heap.lt_size hoi) (Heap.lt_size hol) (fun h₂ tk hk => ?_) hz))
  have hrl : (items.toList.drop 1).length = items.size - 1 := by rw [List.length_drop, Array.length_toList]
  show wpAny _ _ (if (items.toList.drop 1).length < 2 - 1 - 1 then _ else _) _ _ _
  rw [if_neg (by omega)]
  show wpAny _ _ (newList ((items.toList.drop 1).take ((items.toList.drop 1).length - (2 - 1 - 1))) >>= fun d => pure (items.toList.take 1 ++ [d] ++ (items.toList.drop 1).drop ((items.toList.drop 1).length - (2 - 1 - 1)))) _ _ _
  have e1 : (items.toList.drop 1).take ((items.toList.drop 1).length - (2 - 1 - 1)) = items.toList.drop 1 := List.take_of_length_le (by omega)
  have e2 : (items.toList.drop 1).drop ((items.toList.drop 1).length - (2 - 1 - 1)) = [] := List.drop_of_length_le (by omega)
  rw [e1, e2]
  have he : ∀ b o, s.heap.get? b = some o → h₂.get? b = some o := fun b o e => hk b o (Nat.ne_of_lt (Heap.lt_size e)) (hs₁.extBut b o (Nat.ne_of_lt (Heap.lt_size e)) (Heap.get?_push_of_some _ e))
  refine wpAny_bind (wpAny_newList (s := { s with heap := h₂, toks := tk }) (wpAny_pure ?_) (by rw [hrl]; omega))
  rw [List.append_nil]
  exact h h₂ tk he
theorem star_rawT {l : Addr} {items : Array Value} {Q : List Value → Shared → Prop} (hl : IsTup s.heap l items) (hh : A.handled = none) (hn : 1 ≤ items.size) (hz : items.size ≤ sizeLine)
    (h : ∀ (h₂ : Heap) (tk : Nat), (∀ b o, s.heap.get? b = some o → h₂.get? b = some o) → Q (items.toList.take 1 ++ [.ref h₂.objs.size]) { s with heap := h₂.push { cls := .type "list", data := .seq (items.toList.drop 1).toArray }, toks := tk }) : wpAny (model prog w) A (unpackItems (.ref l) 2 (some 1)) Q E s := by
  have hlt : l ≠ s.heap.objs.size := by obtain ⟨o, ho, _⟩ := hl; exact Nat.ne_of_lt (Heap.lt_size ho)
  unfold unpackItems
  refine wpAny_bind ?_
  unfold notIterableAtAll
  refine wpAny_bind (wpAny_specialOf hl.typeIs slot_tuple_iter.lookup ?_)
  refine wpAny_pure ?_
  simp only [Bool.false_eq_true, if_false]
  refine wpAny_bind (wpAny_holding (iter_tuple hl ?_))
  refine wpAny_bind (wpAny_holding (draw_tuple hlt 1 0 _ _ ⟨_, Heap.get?_push_size _ rfl, rfl, rfl⟩ (hl.push _) (by omega) fun h₁ hit₁ hs₁ => ?_))
  have hl₁ : IsTup h₁ l items := (hl.push _).extBut hs₁.extBut hlt
  rw [Nat.zero_add] at hit₁
  have hit₁' := hit₁
  obtain ⟨oi, hoi, _⟩ := hit₁'
  have hl₁' := hl₁
  obtain ⟨ol, hol, _⟩ := hl₁'
  rw [List.drop_zero]
  have hfl : (items.toList.take 1).length = 1 := by rw [List.length_take, Array.length_toList]; omega
  rw [if_neg (show ¬ ((items.toList.take 1).length < 1) by rw [hfl]; omega)]
  refine wpAny_bind (wpAny_holding (kun_collect (s := { s with heap := h₁ }) (T := "tuple_iterator") (.inr (.inr (.inr rfl))) (Walks.tuple (A := A.in1) hh s.heap.objs.size l hlt items) (fun j u st => st.1.typeIs) (k := 1) (by omega) ⟨hit₁, hl₁⟩ (Heap.lt_size hoi) (Heap.lt_size hol) (fun h₂ tk hk => ?_) hz))
  have hrl : (items.toList.drop 1).length = items.size - 1 := by rw [List.length_drop, Array.length_toList]
  show wpAny _ _ (if (items.toList.drop 1).length < 2 - 1 - 1 then _ else _) _ _ _
  rw [if_neg (by omega)]
  show wpAny _ _ (newList ((items.toList.drop 1).take ((items.toList.drop 1).length - (2 - 1 - 1))) >>= fun d => pure (items.toList.take 1 ++ [d] ++ (items.toList.drop 1).drop ((items.toList.drop 1).length - (2 - 1 - 1)))) _ _ _
  have e1 : (items.toList.drop 1).take ((items.toList.drop 1).length - (2 - 1 - 1)) = items.toList.drop 1 := List.take_of_length_le (by omega)
  have e2 : (items.toList.drop 1).drop ((items.toList.drop 1).length - (2 - 1 - 1)) = [] := List.drop_of_length_le (by omega)
  rw [e1, e2]
  have he : ∀ b o, s.heap.get? b = some o → h₂.get? b = some o := fun b o e => hk b o (Nat.ne_of_lt (Heap.lt_size e)) (hs₁.extBut b o (Nat.ne_of_lt (Heap.lt_size e)) (Heap.get?_push_of_some _ e))
  refine wpAny_bind (wpAny_newList (s := { s with heap := h₂, toks := tk }) (wpAny_pure ?_) (by rw [hrl]; omega))
  rw [List.append_nil]
  exact h h₂ tk he
end
section
variable {X : Cx}
def gStar (K : PySem.W.Frag) (t : TGs) : TG := fun v σ H Q => ∃ a x r, v = .ref a ∧ (SqL K H a (x :: r) ∨ SqT K H a (x :: r)) ∧ ∀ p, H p = none → t [x, .ref p] σ (upd H p (.lst r)) Q
theorem take_one {x : V} {r : List V} {its : List Value} (h : Vals (x :: r) its) : ∃ u us, its = u :: us ∧ RelV x u ∧ Vals r us := by
  cases h with
  | cons a b => exact ⟨_, _, rfl, a, b⟩
theorem pg_star {e1 e2 : Expr} {sp pos : Pos} {k : Nat} {t : TGs} (hc : X.calm = true) (h : PGs X [e1, e2] t)
    (hn : (assignEach [e1, .Starred e2 sp] X.env).length = 2) (hst : (assignEach [e1, .Starred e2 sp] X.env).findIdx? (·.1) = some 1)
    (hm : (assignEach [e1, .Starred e2 sp] X.env).map (·.2) = (assignEach [e1, e2] X.env).map (·.2)) : PG X (.Tuple [e1, .Starred e2 sp] k pos) (gStar X.K t) := by
  refine ⟨fun pins s σ H v u Q I r hw => ?_⟩
  obtain ⟨a, x, xr, e1, hq, hw⟩ := hw
  subst e1
  cases r
  rw [PyProof.Rows.assign_Tuple]
  refine wpAny_bind (wpAny_standAt ?_)
  unfold unpack
  rw [hn, hst]
  have fin : ∀ (its : List Value), Vals (x :: xr) its → (x :: xr).length ≤ sizeLine → ∀ (h₂ : Heap) (tk : Nat), (∀ b o, s.heap.get? b = some o → h₂.get? b = some o) →
      wpAny (model X.prog X.w) X.A (assignInOrder ((assignEach [e1, .Starred e2 sp] X.env).map (·.2)) (its.toArray.toList.take 1 ++ [.ref h₂.objs.size])) (fun _ s' => ∃ σ' H', Inv X pins σ' H' s' ∧ Q σ' H') X.xe { s with heap := h₂.push { cls := .type "list", data := .seq (its.toArray.toList.drop 1).toArray }, toks := tk } := fun its rv hz h₂ tk hk => by
    obtain ⟨u, us, rfl, r1, r2⟩ := take_one rv
    have I1 : Inv X pins σ H { s with heap := h₂ } := I.kept (t' := s.toks) hk
    have I2 := I1.lnew (t' := tk) r2 (by simp only [List.length_cons] at hz; omega)
    rw [hm]
    have e3 : (u :: us).toArray.toList.take 1 ++ [Value.ref h₂.objs.size] = [u, .ref h₂.objs.size] := by simp
    have e4 : ((u :: us).toArray.toList.drop 1).toArray = us.toArray := by simp
    rw [e3, e4]
    exact h.run pins _ σ _ [x, .ref h₂.objs.size] _ Q I2 (.cons r1 (.cons rfl .nil)) (hw _ I1.fresh)
  rcases hq with hq | hq
  · obtain ⟨its, rv, pl, hz⟩ := I.list hq
    have hl := rv.length
    exact wpAny_bind (wpAny_holding (star_rawL pl.isList (I.ok.hd hc) (by simp only [List.size_toArray, ← hl, List.length_cons]; omega) (by simp only [List.size_toArray, ← hl]; exact hz) fun h₂ tk hk => fin its rv hz h₂ tk hk))
  · obtain ⟨its, rv, pl, hz⟩ := I.tuple hq
    have hl := rv.length
    exact wpAny_bind (wpAny_holding (star_rawT pl (I.ok.hd hc) (by simp only [List.size_toArray, ← hl, List.length_cons]; omega) (by simp only [List.size_toArray, ← hl]; exact hz) fun h₂ tk hk => fin its rv hz h₂ tk hk))
end
section
variable {T : Tx} {n : Nat} {N : List Str}
theorem good_star {i j : Nat} {t : Tm} (ga : GoodE T n N t) : GoodS T n N (.star i j t) := fun sc S X C st h => by
  simp only [chkS] at h
  split at h
  · rename_i x px y py sp k tp e pos
    simp only [Bool.and_eq_true, decide_eq_true_eq] at h
    obtain ⟨⟨⟨⟨⟨⟨⟨h1, h2⟩, hij⟩, l1⟩, l2⟩, h3⟩, h4⟩, h5⟩ := h
    have g1 := (ga sc S X C.toCtx e h3).1
    obtain ⟨s1, s2⟩ := C.st x l1
    obtain ⟨s3, s4⟩ := C.st y l2
    have pg1 : PG X (.Name x px) (gName i) := pg_name (by rw [C.hN]; exact C.nd) (by rw [C.hN]; exact h1) s1 s2
    have pg2 : PG X (.Name y py) (gName j) := pg_name (by rw [C.hN]; exact C.nd) (by rw [C.hN]; exact h2) s3 s4
    have pg := pg_star (X := X) (sp := sp) (pos := tp) (k := k) C.calm (pgs_cons pg1 (pgs_cons pg2 pgs_nil)) rfl rfl rfl
    rw [C.hK] at pg
    have hs : swapsWithSole [.Tuple [.Name x px, .Starred (.Name y py) sp] k tp] e pos.line X.env = pure false := swaps_no h4 (some (.Tuple [.Name x px, .Starred (.Name y py) sp] k tp)) pos.line X.env
    have hw : swappedStores [.Tuple [.Name x px, .Starred (.Name y py) sp] k tp] e X.env = pure none := swap_none (by rw [h5]; rfl)
    refine (ps_asg g1 pg hs hw rfl).imp fun D σ H q => ?_
    obtain ⟨H0, F0, ρ, F, s, q⟩ := q
    simp only [exS, evT] at q
    have q := q.bind
    rw [postR_bind] at q
    refine tEv.mk s.env s.sm (PostR.mono q (fun _ _ q => q) fun _ _ q => errP.up q s) fun u v F1 H1 k1 a1 vk fr => ?_
    obtain ⟨d, hd, k1⟩ := k1.dat
    unfold PostO at k1
    rw [postR_map1] at k1
    have t1 := vk.tp a1.fh hd
    have main : ∀ {a : Addr} {vs : List V} {ds : List PyData} {d0 : PyData} {dr : List PyData}, ds = d0 :: dr → v = .ref a → (SqL S.K H1 a vs ∨ SqT S.K H1 a vs) → vs.length ≤ sizeLine → RpAll S.K F1 vs ds →
        (∀ σ' F' H', StOk S H0 F0 ((ρ.set i (some (.fz d0))).set j (some (.ow (.list dr)))) σ' F' H' → D.nx σ' H') → gStar S.K (gCons (gName i) (gCons (gName j) gNil)) v σ H1 D.nx := fun {a vs ds d0 dr} hds hv hq hz rr kk => by
      subst hds hv
      cases rr with
      | @cons v0 vr _ _ r1 r2 =>
        refine ⟨a, v0, vr, rfl, hq, fun p hp => ⟨v0, [.ref p], rfl, .ref p, [], rfl, rfl, ?_⟩⟩
        have a2 : Adv F1 H1 F1 (upd H1 p (.lst vr)) := .own a1.fh hp
        have hF : F1 p = none := by
          cases q : F1 p with
          | none => rfl
          | some u => have := a1.fh p u q; rw [hp] at this; cases this
        have s2 := s.step a1
        exact kk _ F1 _ (s2.store2 (u1 := .fz d0) (u2 := .ow (.list dr)) a2 (v1 := v0) (v2 := .ref p) (Tp.monoS (Same.refl _) (Same.refl _) r1.tp) ⟨p, rfl, hF, vr, upd_same, by simp only [List.length_cons] at hz; omega, r2⟩ .fz (fun d _ => ⟨p, rfl, hp⟩) (fun _ _ _ h => nomatch h) i j hij)
    cases t1 with
    | @lst a vs ds hq z rr =>
      cases ds with
      | nil => exact k1.elim
      | cons d0 dr => exact main rfl rfl (.inl hq) z rr k1
    | @tup a vs ds hq z rr =>
      cases ds with
      | nil => exact k1.elim
      | cons d0 dr => exact main rfl rfl (.inr (Same.sqt a1.fh.sm hq)) z rr k1
    | _ => exact k1.elim
  · cases h
end
end Wv
/-! Dicts. -/
namespace Wv
open PySem PySem.Spec PyProof.Rows L2
open LamX (Tabs TabS ExtN CodeO TabB)
variable [Tbs]
section
variable {T : Tx} {n : Nat} {N : List Str}
theorem F_none {F H : Hp} (e : Fit F H) {p : Addr} (n : H p = none) : F p = none := by
  cases q : F p with
  | none => rfl
  | some u => have := e p u q; rw [n] at this; cases this
/-- a new dict of one's own -/
theorem Want.dct {K : PySem.W.Frag} {fa : Nat → Option Addr} {F H : Hp} {Q : VK} {kvs : List (PyData × PyData)} {xs : List (Key × V)} (e : Fit F H) (h : Want K fa F H Q (.ow (.dict kvs))) (r : DRel K F xs kvs) : ∀ p, H p = none → Q (.ref p) (upd H p (.dK xs)) := fun p n =>
  h _ F _ (.own e n) ⟨p, rfl, F_none e n, xs, upd_same, r⟩ fun d _ => ⟨p, rfl, n⟩
theorem good_dnew : GoodE T n N .dnew := fun sc S X C e h => by
  simp only [chkE] at h
  split at h
  · rename_i he
    obtain ⟨pos, rfl⟩ := asDict_eq he
    have h4 : PE X (.Dict [] [] pos) (tEv S .dnew) := pe_dnewK.imp fun σ H Q q => by
      obtain ⟨ρ, F, en, sm, q⟩ := q
      simp only [ev] at q
      have w : Want S.K S.fa F H Q (.ow (.dict [])) := fun v F2 H2 a vk fr => q v F2 H2 a vk fun _ => fr
      exact w.dct sm .nil
    exact ⟨h4, pt_of C.hK h4 rfl⟩
  · cases h
theorem drel_gc {K : PySem.W.Frag} (F : Hp) : ∀ {kvs : List (Str × Gc)} {ks : List (Option Expr)} {vs : List Expr}, dispB kvs ks vs = true → DRel K F (kvK kvs) (gcD kvs)
  | [], _, _, _ => .nil
  | (k, c) :: r, some x0 :: ks, y :: vs, hd => by
    have h1 : Rp K F c.v c.d := gc_rp hd (List.lookup_cons_self) F
    simp only [dispB, Bool.and_eq_true] at hd
    exact .cons h1 (drel_gc F hd.2)
  | _ :: _, [], _, hd => by simp [dispB] at hd
  | _ :: _, none :: _, _, hd => by simp [dispB] at hd
  | _ :: _, some _ :: _, [], hd => by simp [dispB] at hd
theorem good_disp {kvs : List (Str × Gc)} : GoodE T n N (.disp kvs) := fun sc S X C e h => by
  simp only [chkE] at h
  split at h
  · rename_i ks vs hd
    simp only [Bool.and_eq_true, decide_eq_true_eq, Bool.not_eq_true'] at h
    obtain ⟨⟨h2, h3⟩, h4⟩ := h
    obtain ⟨dp, rfl⟩ := asDict_eq hd
    obtain ⟨p1, p2, p3, p4⟩ := pps_const (X := X) (pos := dp) h2
    have ne : ks ≠ [] := by
      intro z
      subst z
      cases kvs with
      | nil => cases h3
      | cons _ _ => cases p4
    have h5 : PE X (.Dict ks vs dp) (tEv S (.disp kvs)) := (pe_disp p1 p2 p3 ne (by omega)).imp fun σ H Q q => by
      obtain ⟨ρ, F, en, sm, q⟩ := q
      simp only [ev] at q
      have w : Want S.K S.fa F H Q (.ow (.dict (gcD kvs))) := fun v F2 H2 a vk fr => q v F2 H2 a vk fun _ => fr
      intro p hp
      refine pairs_const kvs σ _ _ ⟨upd_same, kvK kvs, rfl, by unfold kvK; rw [List.length_map]; exact h4, ?_⟩
      rw [upd_twice, merge_new (kvK kvs) [] (fun _ _ _ h => nomatch h) (disp_pw h2), List.nil_append]
      exact w.dct sm (drel_gc F h2) p hp
    exact ⟨h5, pt_of C.hK h5 rfl⟩
  · cases h
/-! ### looked up -/
theorem drel_lk {K : PySem.W.Frag} {F : Hp} {z : Str} : ∀ {xs : List (Key × V)} {kvs : List (PyData × PyData)}, DRel K F xs kvs → match lkD z kvs with
    | some d => ∃ v, valV xs (.inr z) = some v ∧ Rp K F v d
    | none => valV xs (.inr z) = none
  | _, _, .nil => rfl
  | _, _, .cons (x := x) (v := v) (d := d) h t => by
    unfold lkD
    by_cases e : z = x
    · subst e
      simp only [if_true]
      exact ⟨v, valV_pos rfl, h⟩
    · simp only [e, if_false]
      have ih := drel_lk (z := z) t
      rw [valV_neg (fun q => e (Sum.inr.inj q).symm)]
      exact ih
/-- who holds it -/
theorem dic_of {S : Sys} {F H : Hp} {v : V} {u : Vl} {kvs : List (PyData × PyData)} (vk : VOk S.K S.fa F H v u) (e : Fit F H) (h : dicV u = .ok kvs) : ∃ a xs, v = .ref a ∧ H a = some (.dK xs) ∧ DRel S.K F xs kvs := by
  cases u with
  | fd k =>
    cases h
    obtain ⟨a, xs, rfl, h2, h3⟩ := vk
    exact ⟨a, xs, rfl, e _ _ h2, h3⟩
  | ow d =>
    cases d with
    | dict k =>
      cases h
      obtain ⟨a, rfl, _, xs, h2, h3⟩ := vk
      exact ⟨a, xs, rfl, h2, h3⟩
    | _ => cases h
  | _ => cases h
theorem PostR.dic {u : Vl} {k : List (PyData × PyData) → Prop} {e : Nat → Prop} (h : PostR (dicV u) k e) : ∃ kvs, dicV u = .ok kvs ∧ k kvs := by
  cases u with
  | fd kvs => exact ⟨kvs, rfl, h⟩
  | ow d => cases d <;> first | exact ⟨_, rfl, h⟩ | exact h.elim
  | _ => exact h.elim
theorem good_dix {a b : Tm} (ga : GoodE T n N a) (gb : GoodE T n N b) : GoodE T n N (.dix a b) := fun sc S X C e h => by
  simp only [chkE] at h
  split at h
  · rename_i x y he
    simp only [Bool.and_eq_true] at h
    obtain ⟨⟨h1, h2⟩, h3⟩ := h
    obtain ⟨pos, rfl⟩ := asSub_eq he
    have hu := C.hu
    have h4 : PE X (.Subscript x y pos) (tEv S (.dix a b)) := (pe_dget (by omega) (ga sc S X C x h1).1 (gb sc S X C y h2).1 (plainIx h3)).imp fun σ H Q q => by
      obtain ⟨ρ, F, en, sm, q⟩ := q
      simp only [ev, postR_bind, postR_calm] at q
      refine tEv.mk en sm q fun u v F1 H1 k a1 vk fr => ?_
      obtain ⟨kvs, hk, k⟩ := k.dic
      obtain ⟨p, xs, rfl, hp, r⟩ := dic_of vk a1.fh hk
      refine tEv.mk (en.adv a1) a1.fh (k.mono (fun _ _ q => q) fun _ _ q => errP.mono q a1.hh) fun u2 v2 F2 H2 k2 a2 vk2 fr2 => ?_
      obtain ⟨d2, hd2, k2⟩ := k2.dat
      obtain ⟨w, hw, k2⟩ := k2.get
      have t2 := vk2.tp a2.fh hd2
      cases t2 with
      | str z hz oz =>
        simp only [dixD] at hw
        have lk := drel_lk (z := z) r
        split at hw
        · rename_i d hd
          cases hw
          rw [hd] at lk
          obtain ⟨v0, e1, e2⟩ := lk
          refine ⟨p, v0, rfl, ?_, k2 v0 F2 H2 (a1.trans a2) (e2.mono a2.ff).tp fun _ => .fz⟩
          rw [← e1]
          exact DGet.k (k := .inr z) (a2.hh.at_ hp)
        · cases hw
      | _ => cases hw
    exact ⟨h4, pt_of C.hK h4 rfl⟩
  · cases h
theorem good_dgt {a b c : Tm} (ga : GoodE T n N a) (gb : GoodE T n N b) (gc : GoodE T n N c) : GoodE T n N (.dgt a b c) := fun sc S X C e h => by
  simp only [chkE] at h
  split at h
  · rename_i o nm x y he
    simp only [Bool.and_eq_true, decide_eq_true_eq] at h
    obtain ⟨⟨⟨⟨⟨⟨rfl, h1⟩, h2⟩, h3⟩, h4⟩, h5⟩, h6⟩ := h
    obtain ⟨ap, pos, rfl, hl⟩ := asMeth_eq he
    have hu := C.hu
    have hb : attributeBase o "get" X.env (eval o X.env) = eval o X.env := by cases o <;> first | rfl | cases h1
    have m : M2 X o "get" ap x y pos := ⟨hb, few_ok (by simp [h5, h6]) (show 2 < 29 by decide), hl, by rw [starEach_cons h5, starEach_cons h6]; rfl⟩
    have h9 : PE X (.Call (.Attribute o "get" ap) [x, y] [] pos) (tEv S (.dgt a b c)) := (pe_dget2 (by omega) (ga sc S X C o h2).1 (gb sc S X C x h3).1 (gc sc S X C y h4).1 m).imp fun σ H Q q => by
      obtain ⟨ρ, F, en, sm, q⟩ := q
      simp only [ev, postR_bind] at q
      refine tEv.mk en sm q fun u v F1 H1 k a1 vk fr => ?_
      obtain ⟨kvs, hk, k⟩ := k.dic
      obtain ⟨p, xs, rfl, hp, r⟩ := dic_of vk a1.fh hk
      refine ⟨p, rfl, .inl ⟨xs, .inl hp⟩, tEv.mk (en.adv a1) a1.fh (k.mono (fun _ _ q => q) fun _ _ q => errP.mono q a1.hh) fun u2 v2 F2 H2 k2 a2 vk2 fr2 => ?_⟩
      obtain ⟨d2, hd2, k2⟩ := k2.dat
      have A2 := a1.trans a2
      rw [← postR_bind] at k2
      refine tEv.kept (en.adv A2) A2.fh (PostR.mono k2 (fun _ _ q => q) fun _ _ q => errP.mono q A2.hh) fun u3 v3 F3 H3 k3 a3 vk3 fr3 => ?_
      have t2 := (vk2.adv a3).tp a3.fh hd2
      cases t2 with
      | str z hz oz =>
        have lk := drel_lk (z := z) r
        refine ⟨valV xs (.inr z), DGet.k (k := .inr z) ((a2.trans a3).hh.at_ hp), ?_⟩
        have k3 : PostR (match lkD z kvs with | some d => R.ok (.fz d) | none => R.ok u3) _ _ := k3
        cases hd : lkD z kvs with
        | some d =>
          rw [hd] at lk k3
          obtain ⟨v0, e1, e2⟩ := lk
          rw [e1]
          exact k3 v0 F3 H3 (A2.trans a3) (e2.mono (a2.trans a3).ff).tp fun _ => .fz
        | none =>
          rw [hd] at lk k3
          rw [lk]
          exact k3 v3 F3 H3 (A2.trans a3) vk3 fun _ => fr3.back A2.hh
      | _ => exact k3.elim
    exact ⟨h9, pt_of C.hK h9 rfl⟩
  · cases h
/-! ### dict(d) -/
def rDcp : List V → Hp → VK → Prop := fun xs H Q => ∃ a kvs, xs = [.ref a] ∧ Rd H a (.dK kvs) ∧ ∀ p, H p = none → Q (.ref p) (upd H p (.dK kvs))
theorem call_dcopy {X : Cx} : CallR X (.type "dict") rDcp := by
  intro pins s σ H xs us Q I r h
  obtain ⟨a, kvs, rfl, e, q⟩ := h
  obtain ⟨u, rfl, rx⟩ := vals1 r
  cases rx
  exact d_copyOf I e fun p s' hp I' => ⟨.ref p, _, I', rfl, q p hp⟩
theorem ty_boot_dict : bootBuiltins "dict" = some (.type "dict") := by decide +kernel
theorem good_dcopy {a : Tm} (ga : GoodE T n N a) : GoodE T n N (.dcopy a) := fun sc S X C e h => by
  simp only [chkE] at h
  split at h
  · rename_i f x he
    simp only [Bool.and_eq_true, decide_eq_true_eq] at h
    obtain ⟨⟨⟨rfl, h1⟩, hs⟩, h2⟩ := h
    obtain ⟨p, pos, rfl⟩ := asCall_eq he
    have hm : X.mg "dict" = none := C.bl _ (by decide +kernel)
    have g1 := (ga sc S X C x h2).1
    have h5 : PE X (.Call (.Name "dict" p) [x] [] pos) (tEv S (.dcopy a)) :=
      (pe_callTy (call_dcopy (X := X)) (gl_of C h1) hm ty_boot_dict (pa_cons g1 pa_nil (starEach_cons hs [] X.env)) (by decide +kernel) (by decide +kernel) (starEach_cons hs [] X.env) rfl).imp fun σ H Q q => by
        obtain ⟨ρ, F, en, sm, q⟩ := q
        simp only [ev, postR_bind] at q
        refine tEv.mk en sm q fun u v F1 H1 k a1 vk fr => ?_
        obtain ⟨kvs, hk, k⟩ := k.dic
        obtain ⟨p, xs, rfl, hp, r⟩ := dic_of vk a1.fh hk
        have k : ∀ v F' H', Adv F H F' H' → VOk S.K S.fa F' H' v (.ow (.dict kvs)) → (isLoc (.dcopy a) = false → FreshV H v (.ow (.dict kvs))) → Q v H' := k
        exact ⟨p, xs, rfl, .inl hp, (Want.of a1 k).dct a1.fh r⟩
    exact ⟨h5, pt_of C.hK h5 rfl⟩
  · cases h
/-! ### d[k] = v -/
theorem drel_any {K : PySem.W.Frag} {F : Hp} {z : Str} : ∀ {xs : List (Key × V)} {kvs : List (PyData × PyData)}, DRel K F xs kvs → (xs.any fun kv => decide (kv.1 = .inr z)) = kvs.any (keyD z)
  | _, _, .nil => rfl
  | _, _, .cons (x := x) h t => by
    rw [List.any_cons, List.any_cons, drel_any t]
    have : decide ((Sum.inr x : Key) = .inr z) = decide (x = z) := decide_eq_decide.mpr ⟨Sum.inr.inj, fun h => by rw [h]⟩
    rw [this]
    rfl
theorem drel_map {K : PySem.W.Frag} {F : Hp} {z : Str} {v : V} {d : PyData} (hv : Rp K F v d) : ∀ {xs : List (Key × V)} {kvs : List (PyData × PyData)}, DRel K F xs kvs →
    DRel K F (xs.map fun kv => if kv.1 = .inr z then (kv.1, v) else kv) (kvs.map fun q => if keyD z q then (q.1, d) else q)
  | _, _, .nil => .nil
  | _, _, .cons (x := x) (v := v0) (d := d0) h t => by
    rw [List.map_cons, List.map_cons]
    by_cases e : x = z
    · subst e
      have h2 : keyD x (.str x, d0) = true := decide_eq_true rfl
      rw [if_pos rfl, h2, if_pos rfl]
      exact .cons hv (drel_map hv t)
    · have h2 : keyD z (.str x, d0) = false := decide_eq_false e
      rw [if_neg (fun q => e (Sum.inr.inj q)), h2]
      exact .cons h (drel_map hv t)
theorem drel_snoc {K : PySem.W.Frag} {F : Hp} {z : Str} {v : V} {d : PyData} (hv : Rp K F v d) : ∀ {xs : List (Key × V)} {kvs : List (PyData × PyData)}, DRel K F xs kvs → DRel K F (xs ++ [(.inr z, v)]) (kvs ++ [(.str z, d)])
  | _, _, .nil => .cons hv .nil
  | _, _, .cons h t => .cons h (drel_snoc hv t)
theorem drel_put {K : PySem.W.Frag} {F : Hp} {z : Str} {v : V} {d : PyData} (hv : Rp K F v d) {xs : List (Key × V)} {kvs : List (PyData × PyData)} (r : DRel K F xs kvs) : DRel K F (putK xs (.inr z) v) (putD z d kvs) := by
  unfold putK putD
  rw [drel_any r]
  split
  · exact drel_map hv r
  · exact drel_snoc hv r
theorem drel_len {K : PySem.W.Frag} {F : Hp} : ∀ {xs : List (Key × V)} {kvs : List (PyData × PyData)}, DRel K F xs kvs → xs.length = kvs.length
  | _, _, .nil => rfl
  | _, _, .cons _ t => congrArg (· + 1) (drel_len t)
theorem good_dput {i : Nat} {k t : Tm} (gk : GoodE T n N k) (ga : GoodE T n N t) : GoodS T n N (.dput i k t) := fun sc S X C st h => by
  simp only [chkS] at h
  split at h
  · rename_i x px ke sp e pos
    simp only [Bool.and_eq_true] at h
    obtain ⟨⟨⟨⟨h1, h2⟩, h3⟩, h4⟩, h5⟩ := h
    unfold slB at h1
    simp only [Bool.and_eq_true, decide_eq_true_eq] at h1
    obtain ⟨⟨n1, n2⟩, n3⟩ := h1
    have g1 := (ga sc S X C.toCtx e h3).1
    have g2 := (gk sc S X C.toCtx ke h2).1
    have pv : PE X (.Name x px) (tVar i) := pe_var (by rw [C.hN]; exact n1) (by rw [C.hsc]; exact visB_ok n2) (okB_1 n3) (okB_2 n3)
    have hu := C.toCtx.hu
    refine (ps_dput (by omega) pv g2 g1 (swaps_no h5 (some (.Subscript (.Name x px) ke sp)) pos.line X.env)).imp fun D σ H q => ?_
    obtain ⟨H0, F0, ρ, F, s, q⟩ := q
    simp only [exS, evD, evK] at q
    have q := q.bind
    rw [postR_bind, postR_bind] at q
    refine tEv.kept s.env s.sm (PostR.mono q (fun _ _ q => q) fun _ _ q => errP.up q s) fun u v F1 H1 k1 a1 vk fr => ?_
    obtain ⟨d, hd, k1⟩ := k1.dat
    have k1 := k1.plain
    obtain ⟨F2, a2, f2, vk2⟩ := settle a1 vk fr
    have rv := VOk.rp vk2 hd
    have s2 := s.step a2
    have k1 := PostO.bind k1
    obtain ⟨kvs, hxs, k1⟩ : ∃ kvs, ρ[i]? = some (some (.ow (.dict kvs))) ∧ PostO S H0 F0 D ((evT S.run k ρ).bind fun y => (dputD kvs y d).bind fun kvs2 => .ok (.nx (ρ.set i (some (.ow (.dict kvs2)))))) := by
      split at k1
      · rename_i kvs hkv
        exact ⟨kvs, hkv, k1⟩
      · exact k1.elim
    have k1 := PostO.bind k1
    unfold evT at k1
    rw [postR_bind] at k1
    obtain ⟨b, hb, _, _⟩ := s2.env.owAt hxs
    refine ⟨.ref b, hb, tEv.mk s2.env s2.sm (PostR.mono k1 (fun _ _ q => q) fun _ _ q => errP.up q s2) fun u3 v3 F3 H3 k3 a3 vk3 fr3 => ?_⟩
    obtain ⟨kd, hkd, k3⟩ := k3.dat
    have s3 := s2.step a3
    obtain ⟨b', hb', hF, ow⟩ := s3.env.owAt hxs
    rw [hb] at hb'
    cases hb'
    have tk := vk3.tp a3.fh hkd
    have k3 := PostO.bind k3
    obtain ⟨xs, hv, rr⟩ := ow
    cases tk with
    | str z hz oz =>
      simp only [dputD] at k3
      split at k3
      · rename_i hlen
        have hlx := drel_len rr
        have hsl : sizeLine = 16777216 := sizeLine_eq
        have k3 : PostO S H0 F0 D (.ok (.nx (ρ.set i (some (.ow (.dict (putD z d kvs))))))) := k3
        exact ⟨b, _, rfl, DPut.k (k := .inr z) hv (by omega), k3 σ F3 _ (s3.write hxs hb hF ⟨_, upd_same, drel_put (rv.mono a3.ff) rr⟩)⟩
      · exact k3.elim
    | _ => exact k3.elim
  · cases h
/-! ### a module's dict -/
theorem lk_gc (z : Str) : ∀ kvs : List (Str × Gc), lkD z (gcD kvs) = (kvs.lookup z).map Gc.d
  | [] => rfl
  | (k, c) :: r => by
    show (if z = k then some c.d else lkD z (gcD r)) = _
    by_cases e : z = k
    · subst e
      rw [if_pos rfl, List.lookup_cons_self]
      rfl
    · have : (z == k) = false := beq_eq_false_iff_ne.mpr e
      rw [if_neg e, List.lookup_cons, this, lk_gc z r]
theorem good_gix {x : Str} {kvs : List (Str × Gc)} {a : Tm} (ga : GoodE T n N a) : GoodE T n N (.gix x kvs a) := fun sc S X C e h => by
  simp only [chkE] at h
  split at h
  · rename_i o y he
    simp only [Bool.and_eq_true, decide_eq_true_eq] at h
    obtain ⟨⟨⟨⟨⟨h1, h2⟩, h6⟩, h3⟩, h4⟩, h5⟩ := h
    obtain ⟨pos, rfl⟩ := asSub_eq he
    obtain ⟨np, rfl⟩ := asName_eq h1
    obtain ⟨p, es, m, hm, kd, val⟩ := C.dics x kvs h3
    have h9 : PE X (.Subscript (.Name x np) y pos) (tEv S (.gix x kvs a)) := (pe_ix ix_kdict (pe_glob (v := .ref p) (gl_of C h2) hm rfl (okB_1 h6)) (ga sc S X C y h4).1 (plainIx h5)).imp fun σ H Q q => by
      obtain ⟨ρ, F, en, sm, q⟩ := q
      simp only [ev, postR_bind, postR_calm] at q
      refine tEv.mk en sm q fun u v F1 H1 k a1 vk fr => ?_
      obtain ⟨d, hd, k⟩ := k.dat
      obtain ⟨w, hw, k⟩ := k.get
      have t1 := vk.tp a1.fh hd
      cases t1 with
      | str z hz oz =>
        simp only [dixD, lk_gc] at hw
        have vz := val z
        cases hl : kvs.lookup z with
        | none => rw [hl] at hw; cases hw
        | some c =>
          rw [hl] at hw vz
          cases hw
          obtain ⟨u0, e1, e2, e3⟩ := vz
          exact ⟨p, z, c.v, rfl, rfl, ⟨es, m, u0, kd.at_, kd.lit, e1, e2⟩, k c.v F1 H1 a1 (by rw [← C.hK]; exact (e3 F1).tp) fun _ => .fz⟩
      | _ => cases hw
    exact ⟨h9, pt_of C.hK h9 rfl⟩
  · cases h
def tKGet (K : PySem.W.Frag) (p : Addr) (ty tx : TE) : TE := fun σ H Q => ty σ H fun y H2 => tx σ H2 fun z H3 => ∃ (k : Str) (o : Option Value), y = .str k ∧ PySem.W.nsIn K p k = some o ∧ match o with
  | some u => ∃ v, RelV v u ∧ Q v H3
  | none => Q z H3
theorem pe_kget2 {X : Cx} {o e f : Expr} {apos cpos : Pos} {ty tx : TE} {p : Addr} {es : Array DictEntry} {m : Nat} (kd : KDict X.K X.w p es m) (ho : PE X o (tC (.ref p))) (he : PE X e ty) (hf : PE X f tx) (m2 : M2 X o "get" apos e f cpos) :
    PE X (.Call (.Attribute o "get" apos) [e, f] [] cpos) (tKGet X.K p ty tx) := by
  refine ⟨fun pins s σ H Q I h => ?_⟩
  refine wpAny_Call_method m2.base m2.few m2.line PySem.F.plainAttrs_dict PySem.F.slot_dict_get PySem.F.type_dict_get (thn (ho.run pins s σ H (fun x H1 => x = .ref p ∧ tKGet X.K p ty tx σ H1 Q) I ⟨rfl, h⟩) fun u s1 ⟨x, H1, I1, rx, ex, q1⟩ => ?_)
  subst ex
  obtain rfl : u = Value.ref p := rx
  refine ⟨kd_type kd I1, fun b eb => ?_, ?_⟩
  · cases eb
    exact ⟨_, I1.kIn _ _ kd.at_, rfl⟩
  rw [m2.trees]
  refine Calls.callWith_builtin rfl (Calls.evalArgs_plain (Calls.spliced_cons (thn (he.run pins s1 σ H1 _ I1 q1) fun iv s2 ⟨y, H2, I2, ry, q2⟩ =>
    Calls.spliced_cons (thn (hf.run pins s2 σ H2 _ I2 q2) fun fv s3 ⟨z, H3, I3, rz, k, o, ey, en, q3⟩ => Calls.spliced_nil ?_))))
  subst ey
  obtain ⟨t, rfl⟩ := ry
  have hm := PySem.W.mapOf_K (prog := X.prog) (w := X.w) I3.kIn kd.at_ kd.lit
  refine call_meetsIn PySem.F.slot_dict_get hm.typeIs PySem.F.entry_dict_get (PySem.F.args_dict_get_3 _ _ _) (meets_dict_get_default (strKind X.prog X.w) p (PySem.strKind_is X.prog X.w k t) kd.low fv) ⟨_, hm, ?_⟩
  rw [PySem.W.find_K kd.at_ en]
  cases o with
  | some u => obtain ⟨v, r, q⟩ := q3; exact ⟨v, H3, I3.tok _, r, q⟩
  | none => exact ⟨z, H3, I3.tok _, rz, q3⟩
theorem good_gget {x : Str} {kvs : List (Str × Gc)} {a d : Tm} (ga : GoodE T n N a) (gd : GoodE T n N d) : GoodE T n N (.gget x kvs a d) := fun sc S X C e h => by
  simp only [chkE] at h
  split at h
  · rename_i o nm y z he
    simp only [Bool.and_eq_true, decide_eq_true_eq] at h
    obtain ⟨⟨⟨⟨⟨⟨⟨⟨rfl, h1⟩, h2⟩, h9⟩, h3⟩, h4⟩, h5⟩, h6⟩, h7⟩ := h
    obtain ⟨ap, pos, rfl, hl⟩ := asMeth_eq he
    obtain ⟨np, rfl⟩ := asName_eq h1
    obtain ⟨p, es, m, hm, kd, val⟩ := C.dics x kvs h3
    have m2 : M2 X (.Name x np) "get" ap y z pos := ⟨rfl, few_ok (by simp [h6, h7]) (show 2 < 29 by decide), hl, by rw [starEach_cons h6, starEach_cons h7]; rfl⟩
    have h8 : PE X (.Call (.Attribute (.Name x np) "get" ap) [y, z] [] pos) (tEv S (.gget x kvs a d)) := (pe_kget2 kd (pe_glob (v := .ref p) (gl_of C h2) hm rfl (okB_1 h9)) (ga sc S X C y h4).1 (gd sc S X C z h5).1 m2).imp fun σ H Q q => by
      obtain ⟨ρ, F, en, sm, q⟩ := q
      simp only [ev] at q
      rw [postR_bind, postR_bind] at q
      refine tEv.mk en sm q fun u v F1 H1 k a1 vk fr => ?_
      obtain ⟨w, hw, k⟩ := k.dat
      rw [postR_bind] at k
      refine tEv.kept (en.adv a1) a1.fh (PostR.mono k (fun _ _ q => q) fun _ _ q => errP.mono q a1.hh) fun u2 v2 F2 H2 k2 a2 vk2 fr2 => ?_
      have A2 := a1.trans a2
      have tv := (vk.adv a2).tp a2.fh hw
      cases tv with
      | str zz hz oz =>
        have vz := val zz
        have k2 : PostR (match kvs.lookup zz with | some c => R.ok (.fz c.d) | none => R.ok u2) _ _ := k2
        cases hk : kvs.lookup zz with
        | some c =>
          rw [hk] at vz k2
          obtain ⟨u0, e1, e2, e3⟩ := vz
          exact ⟨zz, some u0, rfl, e1, c.v, e2, k2 c.v F2 H2 A2 (by rw [← C.hK]; exact (e3 F2).tp) fun _ => .fz⟩
        | none =>
          rw [hk] at vz k2
          exact ⟨zz, none, rfl, vz, k2 v2 F2 H2 A2 vk2 fun _ => fr2.back a1.hh⟩
      | _ => exact k2.elim
    exact ⟨h8, pt_of C.hK h8 rfl⟩
  · cases h
end
end Wv
/-! sorted, min by key=lambda x: (len(x), x) or (-len(x), x). -/
namespace Wv
open PySem PySem.Spec PyProof.Rows L2
open LamX (Tabs TabS ExtN CodeO TabB)
variable [Tbs]
/-! ### such a lambda, called -/
theorem lenE_eq {x : Str} {e : Expr} (h : lenE x e = true) : ∃ p q r, e = .Call (.Name "len" p) [.Name x q] [] r := by
  unfold lenE at h
  split at h
  · simp only [Bool.and_eq_true, decide_eq_true_eq] at h
    obtain ⟨rfl, rfl⟩ := h
    exact ⟨_, _, _, rfl⟩
  · cases h
theorem keyE_eq {neg : Bool} {x : Str} {e : Expr} (h : keyE neg x e = true) : ∃ e1 y q k p, e = .Tuple [e1, .Name y q] k p ∧ y = x ∧ ((neg = true ∧ ∃ e2 p2, e1 = .UnaryOp .USub e2 p2 ∧ lenE x e2 = true) ∨ (neg = false ∧ lenE x e1 = true)) := by
  unfold keyE at h
  split at h
  · simp only [Bool.and_eq_true, decide_eq_true_eq] at h
    obtain ⟨⟨h1, h2⟩, h3⟩ := h
    exact ⟨_, _, _, _, _, rfl, h3, .inl ⟨h1, _, _, rfl, h2⟩⟩
  · simp only [Bool.and_eq_true, decide_eq_true_eq, Bool.not_eq_true'] at h
    obtain ⟨⟨h1, h2⟩, h3⟩ := h
    exact ⟨_, _, _, _, _, rfl, h3, .inr ⟨h1, h2⟩⟩
  · cases h
theorem lamArgs_eq {x : Str} {a : Arguments} (h : lamArgs x a = true) : ∃ p, a = ⟨[], [⟨x, none, p⟩], none, [], [], none, []⟩ := by
  unfold lamArgs at h
  split at h
  · simp only [decide_eq_true_eq] at h
    subst h
    exact ⟨_, rfl⟩
  · cases h
section
variable {prog : Program} {w : World} {A : Around} {E : Value → Shared → Prop} {s : Shared}
theorem ev_len {env : PySem.Env} {x : Str} {e : Expr} {m mg mb : Str → Option Value} {a : Addr} {its : Array Value} {Q : Value → Shared → Prop} (he : lenE x e = true) (hk : env.scope.kind = .function) (hx : env.kindOf x = some .local) (hl : env.kindOf "len" = some .globalImplicit)
    (hn : s.heap.Ns env.locals m) (hv : m x = some (.ref a)) (hg : s.heap.Ns env.globals mg) (mlen : mg "len" = none) (hb : s.heap.Ns env.builtins mb) (vlen : mb "len" = some (.builtin "len")) (ht : IsTup s.heap a its) (hz : (its.size : Int) < 2 ^ 63) (hd : (x == ("__debug__" : Str)) = false)
    (h : ∀ t tk, Q (.int its.size t) { s with toks := tk }) : wpAny (model prog w) A (eval e env) Q E s := by
  obtain ⟨p, q, r, rfl⟩ := lenE_eq he
  refine wpAny_Call_Name_kw (Calls.Name_function_global hk hl (Calls.loadGlobal_builtin hg mlen hb vlen ?_))
  refine PyProof.Rows.callWith_builtin1 (Calls.spliced_cons (wpAny_Name (wpAny_loadName_local hk hx hn hv (Calls.spliced_nil ?_)) hd)) rfl rfl
  exact len_tuple ht hz (h _ _)
theorem lam_bind {qual x : Str} {px : Pos} {body : Expr} {scope : Scope} {pm cv ctv v : Value} (h : x ∈ lamNms) : bindArgs (PySem.W.kla_fn "<lambda>" qual ⟨[], [⟨x, none, px⟩], none, [], [], none, []⟩ body scope [] pm cv ctv) ⟨[v], []⟩ = pure [(x, v)] := by
  simp only [lamNms, List.mem_cons, List.not_mem_nil, or_false] at h
  rcases h with rfl | rfl | rfl <;> rfl
theorem lam_dbg {x : Str} (h : x ∈ lamNms) : (x == ("__debug__" : Str)) = false := by
  simp only [lamNms, List.mem_cons, List.not_mem_nil, or_false] at h
  rcases h with rfl | rfl | rfl <;> decide
theorem lam_key {qual x : Str} {params : Arguments} {body : Expr} {scope : Scope} {pm ctv : Value} {c' f a : Addr} {neg : Bool} {mg mb : Str → Option Value} {its : Array Value} {Q : Value → Shared → Prop} (hroom : A.depth < recursionLimit)
    (ho : s.heap.get? f = some (PySem.W.kla_obj "<lambda>" qual params body scope [] pm c' ctv)) (hcd : s.heap.CodeRec (.ref c') qual) (hp : lamArgs x params = true) (hb : keyE neg x body = true) (hs : lamScope x scope = true) (hnm : x ∈ lamNms)
    (hg : s.heap.Ns mainGlobals mg) (mlen : mg "len" = none) (hbn : s.heap.Ns builtinsNs mb) (vlen : mb "len" = some (.builtin "len")) (lim : s.heap.NoLimit) (ht : IsTup s.heap a its) (hz : (its.size : Int) < 2 ^ 63)
    (h : ∀ h' tk p t, (∀ b o, s.heap.get? b = some o → h'.get? b = some o) → s.heap.get? p = none → h'.get? p = some { cls := .type "tuple", data := .seq #[.int (if neg = true then -(its.size : Int) else its.size) t, .ref a] 0 } → Q (.ref p) { s with heap := h', toks := tk }) :
    wpAny (model prog w) A (call (.ref f) [.ref a]) Q E s := by
  obtain ⟨px, rfl⟩ := lamArgs_eq hp
  have hd := lam_dbg hnm
  unfold lamScope at hs
  simp only [Bool.and_eq_true, decide_eq_true_eq, Bool.not_eq_true', List.all_eq_true, decide_eq_false_iff_not] at hs
  obtain ⟨⟨⟨⟨⟨hk, hco⟩, hgen⟩, hx⟩, hl⟩, hnames⟩ := hs
  refine wpAny_call (PySem.W.kla_callFunE hroom ho rfl hco hgen rfl hcd ?_)
  rw [lam_bind hnm]
  refine wpAny_pure (wpAny_newFunctionEnv (fun y hy => (hnames y hy).1) (fun y hy => by simp only [List.mem_singleton] at hy; subst hy; exact hx) (fun h₁ hns hsb => ⟨lim.fresh _ hsb, ?_⟩) hk)
  have hk₁ : ∀ b o, s.heap.get? b = some o → h₁.get? b = some o := fun b o e => hsb.extBut b o (Nat.ne_of_lt (Heap.lt_size e)) (Heap.get?_push_of_some _ e)
  refine PySem.W.kla_codeExpr ?_
  obtain ⟨e1, y, q, k, p, rfl, rfl, he1⟩ := keyE_eq hb
  have ht₁ : IsTup h₁ a its := by
    obtain ⟨o, e, c⟩ := ht
    exact ⟨o, hk₁ _ _ e, c⟩
  have hv : (fun z => ([(y, Value.ref a)].reverse).lookup z) y = some (.ref a) := by
    show List.lookup y [(y, Value.ref a)] = _
    rw [List.lookup_cons_self]
  have new : s.heap.get? h₁.objs.size = none := by
    cases e : s.heap.get? h₁.objs.size with
    | none => rfl
    | some o => exact absurd (Heap.lt_size (hk₁ _ _ e)) (Nat.lt_irrefl _)
  have fin : ∀ (t : Tok) (tk : Nat), Q (.ref h₁.objs.size) { s with heap := h₁.push { cls := .type "tuple", data := .seq #[.int (if neg = true then -(its.size : Int) else its.size) t, .ref a] }, toks := tk } := fun t tk =>
    h _ tk _ t (fun b o e => Heap.get?_push_of_some _ (hk₁ b o e)) new (Heap.get?_push_size _ rfl)
  have two : 2 ≤ sizeLine := by rw [sizeLine_eq]; decide
  refine wpAny_Tuple_spliced ?_
  rcases he1 with ⟨rfl, e2, p2, rfl, he2⟩ | ⟨rfl, he2⟩
  · refine Calls.spliced_cons (UnaryOp_ (ev_len he2 hk hx hl hns hv (hg.keeps hk₁) mlen (hbn.keeps hk₁) vlen ht₁ hz hd fun t tk => neg_int ?_))
    refine Calls.spliced_cons (wpAny_Name (wpAny_loadName_local hk hx hns hv (Calls.spliced_nil ⟨two, ?_⟩)) hd)
    exact fin _ _
  · obtain ⟨p3, q3, r3, rfl⟩ := lenE_eq he2
    refine Calls.spliced_cons (ev_len he2 hk hx hl hns hv (hg.keeps hk₁) mlen (hbn.keeps hk₁) vlen ht₁ hz hd fun t tk => ?_)
    refine Calls.spliced_cons (wpAny_Name (wpAny_loadName_local hk hx hns hv (Calls.spliced_nil ⟨two, ?_⟩)) hd)
    exact fin _ _
end
/-! ### such a lambda, made -/
theorem cloFrom_nil {cells : List (Str × Addr)} : ∀ {l : List (Str × NameKind)} {acc : List (Str × Addr)}, (∀ y ∈ l, y.2 ≠ .free) → cloFrom cells l acc = acc
  | [], _, _ => rfl
  | (x, k) :: l, acc, h => by
    have hk : (k == NameKind.free) = false := by
      have := h (x, k) List.mem_cons_self
      cases k <;> first | rfl | exact absurd rfl this
    show (if (k == NameKind.free) = true then _ else cloFrom cells l acc) = acc
    rw [hk]
    exact cloFrom_nil fun y hy => h y (List.mem_cons_of_mem _ hy)
section
variable {X : Cx} {pins : List (Addr × Obj)} {σ : L2.St} {H : Hp} {s : Shared}
theorem lam_mk {c P : Addr} {params : Arguments} {body : Expr} {scope : Scope} {pos : Pos} {E : Value → Shared → Prop} {Q : Value → Shared → Prop} (I : Inv X pins σ H s) (B : TabB X.base X.mg c P) (hcode : X.env.code = .ref c)
    (hm : (P, X.env.qual ++ "<lambda>") ∈ Tbs.T) (hu : ∀ p ∈ Tbs.T, p.1 = P → p.2 = X.env.qual ++ "<lambda>") (hT : Tabs Tbs.T H) (hdef : defaultsOf params X.env = ([], [])) (hfree : ∀ y ∈ scope.names, y.2 ≠ .free)
    (q : ∀ (f c' : Addr) (pm ctv : Value) (H1 : Hp) (s' : Shared), Inv X pins σ H1 s' → Ext H H1 → s'.heap.get? f = some (PySem.W.kla_obj "<lambda>" (X.env.qual ++ "<lambda>") params body scope [] pm c' ctv) → s'.heap.CodeRec (.ref c') (X.env.qual ++ "<lambda>") → Q (.ref f) s') :
    wpAny (model X.prog X.w) X.A (eval (.Lambda params body scope pos) X.env) Q E s := by
  obtain ⟨ps, hP, trip, told⟩ := hT _ hm
  have hP : H P = some (.tbl ps) := hP
  have clo : closureFor scope X.env = pure [] := by
    rw [closure_ok fun y hy e => absurd e (hfree y hy), cloFrom_nil hfree]
  have blt : s.heap.BuiltinsAt X.mg P := B.bm.keeps I.bk
  have atP : s.heap.get? P = some { cls := .none, data := .fields ps } := I.hok P _ hP
  refine PySem.W.kla_eval hdef ?_
  cases hc : codeAmong pos ps.toList with
  | some cv =>
    obtain ⟨c', rfl, hco⟩ := told pos cv hc
    refine PySem.W.kla_makeFunctionHit (P := P) (ps := ps) (c := c) (mg := X.mg) clo I.ok.glob (I.mod.glob.keeps I.bk) hcode (B.code.keeps I.bk) atP trip hc blt fun ctv h' tk keeps hsz => ?_
    have I1 : Inv X pins σ H { s with heap := h'.push (PySem.W.kla_obj "<lambda>" (X.env.qual ++ "<lambda>") params body scope [] ((X.mg "__name__").getD .none) c' ctv), toks := tk } := I.kept fun b o e => Heap.get?_push_of_some _ (keeps b o e)
    obtain ⟨⟨oc, vs, t, e1, e2, e3⟩, _⟩ := I1.hok c' _ hco
    exact q _ c' _ ctv H _ I1 (Ext.refl H) (Heap.get?_push_size _ rfl) ⟨c', oc, vs, t, rfl, e1, e2, e3⟩
  | none =>
    refine PySem.W.kla_makeFunction (P := P) (ps := ps) (c := c) (mg := X.mg) clo I.ok.glob (I.mod.glob.keeps I.bk) hcode (B.code.keeps I.bk) atP trip hc B.gP blt fun c' ctv h' tk butP above below rec grown => ?_
    obtain ⟨_, oc, vs, t, z, hoc, hd, hv⟩ := rec
    cases z
    have fr : H c' = none := I.hok.fresh above
    have Pc : P ≠ c' := ne_of_none hP fr
    have I1 := LamX.inv_table (t' := tk) (more := #[rawInt pos.line, rawInt pos.col, .ref c']) (h' := h'.push (PySem.W.kla_obj "<lambda>" (X.env.qual ++ "<lambda>") params body scope [] ((X.mg "__name__").getD .none) c' ctv)) I hP
      (fun b o hb e => Heap.get?_push_of_some _ (butP b o hb e)) (Heap.get?_push_of_some _ grown) above ⟨oc, vs, t, Heap.get?_push_of_some _ hoc, hd, hv⟩
    have stays : ExtN H (upd (upd H P (.tbl (ps ++ #[rawInt pos.line, rawInt pos.col, .ref c']))) c' (CodeO c' (X.env.qual ++ "<lambda>"))) := fun b o e n => by
      have hb : b ≠ P := by
        intro z
        rw [z, hP] at e
        exact n ps (Option.some.inj e).symm
      rw [upd_ne (ne_of_none e fr), upd_ne hb]
      exact e
    have row : (ps ++ #[rawInt pos.line, rawInt pos.col, .ref c']).toList = ps.toList ++ [rawInt pos.line, rawInt pos.col, .ref c'] := by simp
    have old : ∀ {d : Addr} {nm : Str}, H d = some (CodeO d nm) → upd (upd H P (.tbl (ps ++ #[rawInt pos.line, rawInt pos.col, .ref c']))) c' (CodeO c' (X.env.qual ++ "<lambda>")) d = some (CodeO d nm) := fun e => stays _ _ e LamX.codeO_ne
    refine q h'.objs.size c' _ ctv _ _ I1 ⟨stays, fun {b} e => ?_, fun t => ?_, fun b ps' e => ?_⟩ (Heap.get?_push_size _ rfl) ⟨c', oc, vs, t, rfl, Heap.get?_push_of_some _ hoc, hd, hv⟩
    · by_cases h1 : b = c'
      · rw [h1]; exact fr
      · rw [upd_ne h1] at e
        by_cases h2 : b = P
        · rw [h2, upd_same] at e; cases e
        · rwa [upd_ne h2] at e
    · intro p hp
      by_cases h2 : p.1 = P
      · rw [h2, hu p hp h2]
        refine ⟨_, by rw [upd_ne Pc, upd_same], by rw [row]; exact PySem.TriplesOk_snoc _ _ _ _ trip, fun pos' cv h3 => ?_⟩
        rw [row] at h3
        rcases LamX.among_app _ trip h3 with h4 | h4
        · obtain ⟨d, e1, e2⟩ := told pos' cv h4
          exact ⟨d, e1, old e2⟩
        · exact ⟨c', h4, upd_same⟩
      · obtain ⟨ps2, g1, g2, g3⟩ := t p hp
        refine ⟨ps2, by rw [upd_ne (ne_of_none g1 fr), upd_ne h2]; exact g1, g2, fun pos' cv h3 => ?_⟩
        obtain ⟨d, e1, e2⟩ := g3 pos' cv h3
        exact ⟨d, e1, old e2⟩
    · by_cases h2 : b = P
      · rw [h2]
        exact ⟨_, by rw [upd_ne Pc, upd_same]⟩
      · exact ⟨ps', by rw [upd_ne (ne_of_none e fr), upd_ne h2]; exact e⟩
end
/-! ### sorted(t, key=..) -/
mutual
theorem reads_noL {h : Heap} : ∀ (d : PyData) (v : Value) (as : List Addr), noL d = true → Reads h v d as → as = []
  | .none, _, _, _, r => by cases r; rfl
  | .bool _, _, _, _, r => by cases r; rfl
  | .int _, _, _, _, r => by cases r; rfl
  | .str _, _, _, _, r => by cases r; rfl
  | .list _, _, _, n, _ => by simp [noL] at n
  | .dict _, _, _, n, _ => by simp [noL] at n
  | .tuple xs, _, _, n, r => by
    cases r with
    | tuple _ _ _ ra => exact readsAll_noL xs _ _ (by simpa only [noL] using n) ra
theorem readsAll_noL {h : Heap} : ∀ (ds : List PyData) (vs : List Value) (as : List Addr), noLs ds = true → ReadsAll h vs ds as → as = []
  | [], _, _, _, r => by cases r; rfl
  | d :: ds, _, _, n, r => by
    simp only [noLs, Bool.and_eq_true] at n
    cases r with
    | cons h1 h2 => rw [reads_noL d _ _ n.1 h1, readsAll_noL ds _ _ n.2 h2]; rfl
end
def tKy (S : Sys) (mn neg : Bool) (t : Tm) : TE := fun σ H Q => ∃ ρ F, EnvOk S ρ σ F H ∧ Fit F H ∧
  PostR ((evT S.run t ρ).bind fun d => (byKey mn neg d).calm) (fun u => ∀ v F' H', Adv F H F' H' → VOk S.K S.fa F' H' v u → FreshV H v u → Q v H') (errP S σ H)
theorem byKey_list {mn neg : Bool} {d : PyData} {u : Vl} (h : byKey mn neg d = .ok u) : ∃ xs, d = .list xs ∧ keyOk neg xs = true := by
  cases d with
  | list xs =>
    simp only [byKey] at h
    split at h
    · rename_i hk
      exact ⟨xs, rfl, hk⟩
    · cases h
  | _ => cases h
section
variable {T : Tx} {n : Nat} {N : List Str}
theorem turn_key {S : Sys} {X : Cx} {pins : List (Addr × Obj)} {σ : L2.St} {F H : Hp} {s : Shared} (I : Inv X pins σ H s) (hroom : X.A.depth < recursionLimit) (mlen : X.mg "len" = none) (sm : Fit F H) {neg : Bool} {x q : Str} {params : Arguments} {body : Expr} {scope : Scope} {pm ctv : Value} {c' f : Addr}
    (hx : x ∈ lamNms) (hp : lamArgs x params = true) (hb : keyE neg x body = true) (hs : lamScope x scope = true) (hf : s.heap.get? f = some (PySem.W.kla_obj "<lambda>" q params body scope [] pm c' ctv)) (hrec : s.heap.CodeRec (.ref c') q)
    {v : Value} {d : PyData} (hR : Bears X.K F v d) (hd : isTupD d = true) (hn : noL d = true) {A : Around} (hA : A.depth = X.A.depth) (s1 : Shared) (keep : ∀ b o, s.heap.get? b = some o → s1.heap.get? b = some o) {Q : Value → Shared → Prop} {E : Value → Shared → Prop}
    (fin : ∀ h' tk p, (∀ b o, s1.heap.get? b = some o → h'.get? b = some o) → s1.heap.get? p = none → Reads h' (.ref p) (keyOfD neg d) [] → (∀ h2 : Heap, (∀ b o, s.heap.get? b = some o → h2.get? b = some o) → h2.get? p = h'.get? p → Reads h2 (.ref p) (keyOfD neg d) []) → Q (.ref p) { s1 with heap := h', toks := tk }) :
    wpAny (model X.prog X.w) A (call (.ref f) [v]) Q E s1 := by
  obtain ⟨y, ry, rp⟩ := hR
  cases d with
  | tuple ds =>
    have dp := rp.dp
    cases rp with
    | tup hsq z rr =>
      rename_i a vs
      obtain rfl : v = .ref a := ry
      have hH := Same.sqt sm.sm hsq
      obtain ⟨its, rv, ht, hz⟩ := I.tuple hH
      obtain ⟨as, r0⟩ := Dp.reads I (.tuple ds) (.ref a) (.ref a) ((Rp.tup hH z (rr.mono sm.sm)).dp) rfl
      have e0 := reads_noL _ _ _ hn r0
      subst e0
      obtain ⟨c, oc, ws, t, e1, g1, g2, g3⟩ := hrec
      obtain ⟨mb, b1, b2⟩ := I.mod.blt
      have l1 : its.toArray.size = ds.length := by rw [List.size_toArray, ← rv.length, rr.length]
      have hsl : sizeLine = 16777216 := sizeLine_eq
      have hlen := rr.length
      refine lam_key (x := x) (neg := neg) (its := its.toArray) (mg := X.mg) (mb := mb) (by rw [hA]; exact hroom) (keep _ _ hf) ⟨c, oc, ws, t, e1, keep _ _ g1, g2, g3⟩ hp hb hs hx ((I.mod.glob.keeps I.bk).keeps keep) mlen ((b1.keeps I.bk).keeps keep)
        ((b2 "len" (by decide)).trans (by decide +kernel)) ((I.mod.nolimit.keeps I.bk).keeps keep) (by obtain ⟨o, g4, g5⟩ := ht; exact ⟨o, keep _ _ g4, g5⟩) (by rw [l1]; omega) fun h' tk' p t keep' new hp' => ?_
      rw [l1] at hp'
      have key : ∀ h2 : Heap, (∀ b o, s.heap.get? b = some o → h2.get? b = some o) → h2.get? p = h'.get? p → Reads h2 (.ref p) (keyOfD neg (.tuple ds)) [] := fun h2 k2 e2 =>
        Reads.tuple (as := [] ++ ([] ++ [])) (e2.trans hp') rfl rfl (.cons (.int _ _) (.cons (PyProof.Rows.Reads.keeps k2 r0) .nil))
      exact fin h' tk' p keep' new (key h' (fun b o e => keep' b o (keep b o e)) rfl) key
  | _ => cases hd
theorem pe_skey {sc : Scope} {S : Sys} {X : Cx} {t : Tm} (C : CtxS T n N sc S X) (ga : GoodE T n N t) {neg : Bool} {y : Expr} {params : Arguments} {body : Expr} {scope : Scope} {p lpos kpos pos : Pos} (hx : glB sc "sorted" = true) (hst : notStar y = true) (hy : chkE T N sc t y = true)
    (hl : lamB neg params body scope = true) (hN : N ∈ T.lams) : PE X (.Call (.Name "sorted" p) [y] [⟨some "key", .Lambda params body scope lpos, kpos⟩] pos) (tKy S false neg t) := by
  refine ⟨fun pins s σ H Q I h => ?_⟩
  obtain ⟨ρ, F, en, sm, q⟩ := h
  unfold evT at q
  rw [postR_bind, postR_bind] at q
  obtain ⟨c, P, hcode, B, hm, hu⟩ := C.tab hN
  obtain ⟨x, hxm, hl⟩ := List.any_eq_true.mp hl
  simp only [Bool.and_eq_true] at hl
  obtain ⟨⟨l1, l2⟩, l3⟩ := hl
  obtain ⟨px, hpar⟩ := lamArgs_eq l1
  have hfree : ∀ y ∈ scope.names, y.2 ≠ .free := fun y hy => by
    unfold lamScope at l3
    simp only [Bool.and_eq_true, List.all_eq_true, Bool.not_eq_true', decide_eq_false_iff_not] at l3
    exact (l3.2 y hy).2
  have mS : X.mg "sorted" = none := C.bl _ (by decide +kernel)
  have mL : X.mg "len" = none := C.bl _ (by decide +kernel)
  have un := C.toCtx.hu
  have rm := C.room.dp
  have pa : PA X [y] (tCons (tEv S t) tNil) := pa_cons (ga sc S X C.toCtx y hy).1 pa_nil (starEach_cons hst [] X.env)
  refine wpAny_Call_Name_kw (ld_blt I (gl_of C.toCtx hx) mS (show bootBuiltins "sorted" = some (.builtin "sorted") by decide +kernel) ?_)
  refine PyProof.Rows.callWith_kw ?_ (by rw [starEach_cons hst [] X.env]; rfl) (by rw [starEach_cons hst [] X.env]; rfl) rfl rfl
  refine thn (pa.run pos pins s σ H (fun vs H1 => ∃ v u F1, vs = [v] ∧ Adv F H F1 H1 ∧ VOk S.K S.fa F1 H1 v u ∧ PostR (dat u) (fun d => PostR (byKey false neg d).calm (fun u => ∀ v F' H', Adv F H F' H' → VOk S.K S.fa F' H' v u → FreshV H v u → Q v H') (errP S σ H)) (errP S σ H)) I
    (tEv.mk en sm q fun u v F1 H1 k a1 vk fr => ⟨v, u, F1, rfl, a1, vk, k⟩)) fun us s1 h1 => ?_
  obtain ⟨vs, H1, I1, r1, v, u, F1, rfl, a1, vk, k⟩ := h1
  obtain ⟨u1, rfl, rv1⟩ := vals1 r1
  obtain ⟨d, hd, k⟩ := k.dat
  rw [postR_calm] at k
  obtain ⟨w, hw, k⟩ := k.get
  obtain ⟨xs, rfl, hk⟩ := byKey_list hw
  have tx := vk.tp a1.fh hd
  show wpAny _ _ (evalAll [do let v ← eval (.Lambda params body scope lpos) X.env; standAt pos; pure v]) _ _ s1
  refine wpAny_evalAll_cons (wpAny_bind (lam_mk I1 B hcode hm hu a1.fh.tb (by rw [hpar]; rfl) hfree fun f c' pm ctv H2 s2 I2 e2 hf hrec => wpAny_bind (wpAny_standAt (wpAny_pure (wpAny_evalAll_nil ?_)))))
  show wpAny _ _ (call (.builtin "sorted") [u1] [(Str.ofString "key", .ref f)]) _ _ s2
  have A2 : Adv F H F1 H2 := ⟨a1.hh.trans e2, a1.ff, a1.fh.ext e2, a1.nw, a1.f0⟩
  cases tx with
  | lst hL z rr =>
    rename_i a zs
    obtain rfl : u1 = .ref a := rv1
    have hk2 := hk
    unfold keyOk at hk2
    rw [Bool.and_eq_true, List.all_eq_true] at hk2
    obtain ⟨k1, k2⟩ := hk2
    have k3 : ∀ d ∈ xs, isTupD d = true ∧ noL d = true ∧ d.depth ≤ 60 := fun d hd => by
      have := k2 d hd
      simp only [Bool.and_eq_true, decide_eq_true_eq] at this
      exact ⟨this.1.1, this.1.2, this.2⟩
    rw [← C.hK] at hL rr
    obtain ⟨its, rv, pl, _⟩ := I2.list (e2.sql hL)
    have hlen := rr.length
    refine PySem.W.sorted_key_data (R := Bears X.K F1) (bs := xs) (keyOfD neg) pl.isList (each_of rv rr) (alikeB_ok k1) ?_ (by rw [← rr.length]; exact z) (fun x hx => ?_) (PyProof.Rows.ksk_s1 _ _) (fun _ => PyProof.Rows.ksk_l1 _ _) (fun b => PyProof.Rows.ksk_t1 f b)
      (fun v d hR hd h tk keep => turn_key (S := S) (A := X.A.in1.in1) I2 (by omega) mL A2.fh hxm l1 l2 l3 hf hrec hR (k3 d hd).1 (k3 d hd).2.1 rfl { s2 with heap := h, toks := tk } keep fun h' tk' p keep' _ r _ => ⟨h', tk', rfl, keep', r⟩) fun out c2 h' tk keep fresh hD hol he => ?_
    · refine .inl fun d hd => ?_
      obtain ⟨d0, hd0, rfl⟩ := List.mem_map.mp hd
      have := (k3 d0 hd0).1
      cases d0 with
      | tuple ds => exact ⟨_, _, rfl⟩
      | _ => cases this
    · have := (k3 x hx).2.2
      have t1 := (k3 x hx).1
      cases x with
      | tuple ds =>
        simp only [keyOfD, PyData.depth, PyData.depthAll] at this ⊢
        omega
      | _ => cases t1
    · simp only [byKey, hk, if_true, Bool.false_eq_true, if_false] at hw
      cases hw
      obtain ⟨xs', hv, hr⟩ := of_each he
      have hn : H2 (s2.heap.objs.size + 1) = none := I2.hok.fresh (Nat.le_succ _)
      have hl2 : xs'.length ≤ sizeLine := by rw [hv.length, hol, ← rr.length]; exact z
      have A3 := A2.trans (Adv.own (o := .lst xs') A2.fh hn)
      refine ⟨.ref (s2.heap.objs.size + 1), upd H2 (s2.heap.objs.size + 1) (.lst xs'), I2.laid (t' := tk) (fun b o hb => keep b o hb) (Nat.le_succ _) ⟨hl2, out, c2, hv, hD⟩, rfl, k _ F1 _ A3 ?_ fun d hd => ?_⟩
      · rw [C.hK] at hr
        exact ⟨_, rfl, A2.fh.none hn, xs', upd_same, hl2, hr⟩
      · exact ⟨_, rfl, A2.hh.free hn⟩
theorem pe_mkey {sc : Scope} {S : Sys} {X : Cx} {t : Tm} (C : CtxS T n N sc S X) (ga : GoodE T n N t) {neg : Bool} {y : Expr} {params : Arguments} {body : Expr} {scope : Scope} {p lpos kpos pos : Pos} (hx : glB sc "min" = true) (hst : notStar y = true) (hy : chkE T N sc t y = true)
    (hl : lamB neg params body scope = true) (hN : N ∈ T.lams) : PE X (.Call (.Name "min" p) [y] [⟨some "key", .Lambda params body scope lpos, kpos⟩] pos) (tKy S true neg t) := by
  refine ⟨fun pins s σ H Q I h => ?_⟩
  obtain ⟨ρ, F, en, sm, q⟩ := h
  unfold evT at q
  rw [postR_bind, postR_bind] at q
  obtain ⟨c, P, hcode, B, hm, hu⟩ := C.tab hN
  obtain ⟨x, hxm, hl⟩ := List.any_eq_true.mp hl
  simp only [Bool.and_eq_true] at hl
  obtain ⟨⟨l1, l2⟩, l3⟩ := hl
  obtain ⟨px, hpar⟩ := lamArgs_eq l1
  have hfree : ∀ y ∈ scope.names, y.2 ≠ .free := fun y hy => by
    unfold lamScope at l3
    simp only [Bool.and_eq_true, List.all_eq_true, Bool.not_eq_true', decide_eq_false_iff_not] at l3
    exact (l3.2 y hy).2
  have mS : X.mg "min" = none := C.bl _ (by decide +kernel)
  have mL : X.mg "len" = none := C.bl _ (by decide +kernel)
  have un := C.toCtx.hu
  have rm := C.room.dp
  have pa : PA X [y] (tCons (tEv S t) tNil) := pa_cons (ga sc S X C.toCtx y hy).1 pa_nil (starEach_cons hst [] X.env)
  refine wpAny_Call_Name_kw (ld_blt I (gl_of C.toCtx hx) mS (show bootBuiltins "min" = some (.builtin "min") by decide +kernel) ?_)
  refine PyProof.Rows.callWith_kw ?_ (by rw [starEach_cons hst [] X.env]; rfl) (by rw [starEach_cons hst [] X.env]; rfl) rfl rfl
  refine thn (pa.run pos pins s σ H (fun vs H1 => ∃ v u F1, vs = [v] ∧ Adv F H F1 H1 ∧ VOk S.K S.fa F1 H1 v u ∧ PostR (dat u) (fun d => PostR (byKey true neg d).calm (fun u => ∀ v F' H', Adv F H F' H' → VOk S.K S.fa F' H' v u → FreshV H v u → Q v H') (errP S σ H)) (errP S σ H)) I
    (tEv.mk en sm q fun u v F1 H1 k a1 vk fr => ⟨v, u, F1, rfl, a1, vk, k⟩)) fun us s1 h1 => ?_
  obtain ⟨vs, H1, I1, r1, v, u, F1, rfl, a1, vk, k⟩ := h1
  obtain ⟨u1, rfl, rv1⟩ := vals1 r1
  obtain ⟨d, hd, k⟩ := k.dat
  rw [postR_calm] at k
  obtain ⟨w, hw, k⟩ := k.get
  obtain ⟨xs, rfl, hk⟩ := byKey_list hw
  have tx := vk.tp a1.fh hd
  show wpAny _ _ (evalAll [do let v ← eval (.Lambda params body scope lpos) X.env; standAt pos; pure v]) _ _ s1
  refine wpAny_evalAll_cons (wpAny_bind (lam_mk I1 B hcode hm hu a1.fh.tb (by rw [hpar]; rfl) hfree fun f c' pm ctv H2 s2 I2 e2 hf hrec => wpAny_bind (wpAny_standAt (wpAny_pure (wpAny_evalAll_nil ?_)))))
  show wpAny _ _ (call (.builtin "min") [u1] [(Str.ofString "key", .ref f)]) _ _ s2
  have A2 : Adv F H F1 H2 := ⟨a1.hh.trans e2, a1.ff, a1.fh.ext e2, a1.nw, a1.f0⟩
  cases tx with
  | lst hL z rr =>
    rename_i a zs
    obtain rfl : u1 = .ref a := rv1
    have hk2 := hk
    unfold keyOk at hk2
    rw [Bool.and_eq_true, List.all_eq_true] at hk2
    obtain ⟨k1, k2⟩ := hk2
    have k3 : ∀ d ∈ xs, isTupD d = true ∧ noL d = true ∧ d.depth ≤ 60 := fun d hd => by
      have := k2 d hd
      simp only [Bool.and_eq_true, decide_eq_true_eq] at this
      exact ⟨this.1.1, this.1.2, this.2⟩
    rw [← C.hK] at hL rr
    obtain ⟨its, rv, pl, _⟩ := I2.list (e2.sql hL)
    have hlen := rr.length
    have hlen2 := rv.length
    simp only [byKey, hk, if_true] at hw
    cases xs with
    | nil => cases hw
    | cons d0 r =>
      cases hw
      have bear : ∀ (i : Nat) (v : Value), its.toArray[i]? = some v → ∃ d, (d0 :: r)[i]? = some d ∧ Bears X.K F1 v d := fun i v hv0 => by
        have hv : (its : List Value)[i]? = some v := by rw [List.getElem?_toArray] at hv0; exact hv0
        obtain ⟨yv, hy1, hy2⟩ : ∃ yv, zs[i]? = some yv ∧ RelV yv v := by
          have hi : i < zs.length := by rw [hlen2]; exact (List.getElem?_eq_some_iff.mp hv).1
          obtain ⟨v', hv', r'⟩ := rv.get (List.getElem?_eq_getElem hi)
          rw [hv] at hv'
          cases hv'
          exact ⟨_, List.getElem?_eq_getElem hi, r'⟩
        obtain ⟨d, e1, e2⟩ := rr.getV hy1
        exact ⟨d, e1, yv, hy2, e2⟩
      refine call_min_walkK (PySem.W.iter_listW (A := X.A.in1) (I2.ok.hd C.calm) pl.isList fun s3 e3 W st hfp hw3 hk3 => ?_)
      have s3n : s3.heap.objs.size = s2.heap.objs.size + 1 := by rw [e3]; exact Heap.size_push _ _
      refine ⟨_, _, _, _, _, _, _, (fun s' => ∃ h' tk, s' = { s2 with heap := h', toks := tk } ∧ ∀ b o, s2.heap.get? b = some o → h'.get? b = some o), (fun i kv s' => ∃ d p, (d0 :: r)[i]? = some d ∧ kv = .ref p ∧ p ≠ s2.heap.objs.size ∧ p ≠ s3.heap.objs.size ∧ (∃ o, s'.heap.get? p = some o) ∧
          ∀ h2 : Heap, (∀ b o, s2.heap.get? b = some o → h2.get? b = some o) → h2.get? p = s'.heap.get? p → Reads h2 (.ref p) (keyOfD neg d) []), (fun i j => PySem.W.dataLt (keyOfD neg ((d0 :: r).getD i .none)) (keyOfD neg ((d0 :: r).getD j .none))), rfl, W, st, hfp, by rw [List.size_toArray]; simp only [List.length_cons] at hlen; omega, ⟨?_, ?_, ?_, ?_⟩, ⟨s3.heap, s3.toks, by rw [e3], hk3⟩, fun v' s' hP hJ => ?_⟩
      · rintro sa sb ⟨h', tk, rfl, kp⟩ m
        refine ⟨sb.heap, sb.toks, ?_, fun b o e => m.heap b o (fun hb => ?_) (kp b o e)⟩
        · obtain ⟨hp, g, dd, tk2, os⟩ := sb
          have h1 : g = s2.gens := m.gens
          have h2 : dd = s2.drawn := m.drawn
          have h3 : os = s2.os := m.os
          subst h1 h2 h3
          rfl
        · have hlt := Heap.lt_size e
          simp only [List.mem_cons, List.not_mem_nil, or_false] at hb
          rcases hb with rfl | rfl
          · rw [s3n] at hlt
            exact absurd (Nat.lt_trans (Nat.lt_succ_self _) hlt) (Nat.lt_irrefl _)
          · exact Nat.lt_irrefl _ hlt
      · rintro i kv sa sb ⟨d, p, h1, rfl, h2, h3, ⟨o, h4⟩, h5⟩ m
        have h6 := m.heap p o (fun hb => by
          simp only [List.mem_cons, List.not_mem_nil, or_false] at hb
          rcases hb with rfl | rfl
          · exact h3 rfl
          · exact h2 rfl) h4
        exact ⟨d, p, h1, rfl, h2, h3, ⟨o, h6⟩, fun g kg eg => h5 g kg (by rw [eg, h6, h4])⟩
      · intro i v sa o Q' E' hi hP hJ hst hS cont
        obtain ⟨h', tk, rfl, kp⟩ := hJ
        obtain ⟨d, e1, hR⟩ := bear i v hP
        have hdm := List.mem_of_getElem? e1
        refine turn_key (S := S) (A := X.A.in1) I2 (by omega) mL A2.fh hxm l1 l2 l3 hf hrec hR (k3 d hdm).1 (k3 d hdm).2.1 rfl ({ s2 with heap := h', toks := tk } : Shared) kp fun h3 tk3 p keep new rd key => cont (.ref p) _ ⟨h3, tk3, rfl, fun b o e => keep b o (kp b o e)⟩ ?_ (keep _ _ hS) ?_ ?_
        · obtain ⟨⟨o1, g1, g2⟩, ⟨o2, g3, g4⟩⟩ := hst
          exact ⟨⟨o1, keep _ _ g1, g2⟩, ⟨o2, keep _ _ g3, g4⟩⟩
        · refine ⟨d, p, e1, rfl, fun z => ?_, fun z => ?_, ?_, key⟩
          · obtain ⟨⟨o1, g1, g2⟩, _⟩ := hst
            rw [z] at new
            exact absurd (g1.symm.trans new) (by simp)
          · rw [z] at new
            exact absurd (hS.symm.trans new) (by simp)
          · have hd1 := (k3 d hdm).1
            cases d with
            | tuple ds =>
              have rd' : Reads h3 (.ref p) (.tuple [.int (if neg then -(ds.length : Int) else ds.length), .tuple ds]) [] := rd
              cases rd' with
              | tuple g1 _ _ _ => exact ⟨_, g1⟩
            | _ => cases hd1
        · rintro j kj ⟨d2, p2, q1, rfl, q2, q3, ⟨o2, q4⟩, q5⟩
          have q6 := keep _ _ q4
          exact ⟨d2, p2, q1, rfl, q2, q3, ⟨o2, q6⟩, fun g kg eg => q5 g kg (by rw [eg, q6, q4])⟩
      · rintro i j ki kj sa Q' E' ⟨h', tk, rfl, kp⟩ ⟨d, p, h1, rfl, _, _, _, h5⟩ ⟨d2, p2, g1, rfl, _, _, _, g5⟩ hq
        have m1 := List.mem_of_getElem? h1
        have m2 := List.mem_of_getElem? g1
        have ea : (d0 :: r).getD i .none = d := by rw [List.getD_eq_getElem?_getD, h1]; rfl
        have eb : (d0 :: r).getD j .none = d2 := by rw [List.getD_eq_getElem?_getD, g1]; rfl
        rw [ea, eb] at hq
        have t1 := k3 d m1
        refine PySem.W.rcLt_alike (keyOfD neg d) (keyOfD neg d2) X.A.in1 _ _ _ [] [] (h5 h' kp rfl) (g5 h' kp rfl) (alikeB_ok k1 _ (List.mem_map.mpr ⟨d, m1, rfl⟩) _ (List.mem_map.mpr ⟨d2, m2, rfl⟩)) ?_ ?_ X.prog X.w E' Q' hq
        · cases d with
          | tuple ds => exact fun z => nomatch z
          | _ => cases t1.1
        · cases d with
          | tuple ds =>
            have := t1.2.2
            show X.A.units + 1 + _ < _
            simp only [keyOfD, PyData.depth, PyData.depthAll] at this ⊢
            omega
          | _ => cases t1.1
      · obtain ⟨h', tk, rfl, kp⟩ := hJ
        obtain ⟨d, e1, yv, ry, rp⟩ := bear _ v' hP
        have e5 := (PySem.W.argBest_fold (fun a b => PySem.W.dataLt (keyOfD neg a) (keyOfD neg b)) PyData.none d0 r r.length (Nat.le_refl _)).2
        rw [List.take_length] at e5
        have e6 : its.toArray.size - 1 = r.length := by rw [List.size_toArray]; simp only [List.length_cons] at hlen; omega
        rw [e6] at e1
        rw [List.getD_eq_getElem?_getD, e1] at e5
        have e7 : d = leastK neg d0 r := e5
        rw [← e7] at k
        have I3 : Inv X pins σ H2 { s2 with heap := h', toks := tk } := I2.kept kp
        rw [C.hK] at rp
        exact ⟨yv, H2, I3, ry, k yv F1 H2 A2 rp.tp .fz⟩
theorem good_retK {mn neg : Bool} {t : Tm} (ga : GoodE T n N t) : GoodS T n N (.retK mn neg t) := fun sc S X C st h => by
  simp only [chkS] at h
  split at h
  · rename_i f fp y k params body scope lpos kpos cpos pos
    simp only [Bool.and_eq_true, decide_eq_true_eq] at h
    obtain ⟨⟨⟨⟨⟨⟨h1, h2⟩, h3⟩, h4⟩, h5⟩, h6⟩, h7⟩ := h
    subst h4
    have hp : PE X (.Call (.Name f fp) [y] [⟨some "key", .Lambda params body scope lpos, kpos⟩] cpos) (tKy S mn neg t) := by
      cases mn with
      | true =>
        simp only [if_true] at h1
        subst h1
        exact pe_mkey C ga h2 h3 h5 h6 h7
      | false =>
        simp only [Bool.false_eq_true, if_false] at h1
        subst h1
        exact pe_skey C ga h2 h3 h5 h6 h7
    · refine (ps_ret hp).imp fun D σ H q => ?_
      obtain ⟨H0, F0, ρ, F, s, q⟩ := q
      simp only [exS] at q
      refine ⟨ρ, F, s.env, s.sm, ?_⟩
      unfold PostO at q
      rw [postR_bind] at q ⊢
      refine PostR.mono q (fun d _ q => ?_) fun _ _ q => errP.up q s
      rw [postR_bind] at q
      exact PostR.mono q (fun u _ q v F' H' a vk fr => q v F' H' (s.adv.trans a) vk (fr.back s.adv.hh)) fun _ _ q => errP.up q s
  · cases h
theorem good_asgK {i : Nat} {mn neg : Bool} {t : Tm} (ga : GoodE T n N t) : GoodS T n N (.asgK i mn neg t) := fun sc S X C st h => by
  simp only [chkS] at h
  split at h
  · rename_i x xp f fp y k params body scope lpos kpos cpos pos
    simp only [Bool.and_eq_true, decide_eq_true_eq] at h
    obtain ⟨⟨g1, g2⟩, ⟨⟨⟨⟨⟨⟨h1, h2⟩, h3⟩, h4⟩, h5⟩, h6⟩, h7⟩⟩ := h
    subst h4
    obtain ⟨s1, s2⟩ := C.st x g2
    have pg : PG X (.Name x xp) (gName i) := pg_name (by rw [C.hN]; exact C.nd) (by rw [C.hN]; exact g1) s1 s2
    have hp : PE X (.Call (.Name f fp) [y] [⟨some "key", .Lambda params body scope lpos, kpos⟩] cpos) (tKy S mn neg t) := by
      cases mn with
      | true =>
        simp only [if_true] at h1
        subst h1
        exact pe_mkey C ga h2 h3 h5 h6 h7
      | false =>
        simp only [Bool.false_eq_true, if_false] at h1
        subst h1
        exact pe_skey C ga h2 h3 h5 h6 h7
    · have hs := swaps_no (e := .Call (.Name f fp) [y] [⟨some "key", .Lambda params body scope lpos, kpos⟩] cpos) rfl (some (.Name x xp)) pos.line X.env
      refine (ps_asg hp pg hs).imp fun D σ H q => ?_
      obtain ⟨H0, F0, ρ, F, s, q⟩ := q
      simp only [exS] at q
      refine ⟨ρ, F, s.env, s.sm, ?_⟩
      unfold PostO at q
      rw [postR_bind] at q ⊢
      refine PostR.mono q (fun d _ q => ?_) fun _ _ q => errP.up q s
      rw [postR_bind] at q
      exact PostR.mono q (fun u _ q v F' H' a vk fr => q _ F' H' (s.store a vk fr _)) fun _ _ q => errP.up q s
  · cases h
end
end Wv
namespace Wv
open PySem PySem.Spec PyProof.Rows L2
open LamX (Tabs TabS ExtN CodeO TabB)
variable [Tbs]
section
variable {T : Tx} {n : Nat} {N : List Str}
theorem goods_nil : GoodSs T n N .nil := fun sc S X C xs h => by
  simp only [chkSs, List.isEmpty_iff] at h
  subst h
  refine pss_nil.imp fun D σ H q => ?_
  obtain ⟨H0, F0, ρ, F, s, q⟩ := q
  simp only [exs] at q
  exact q σ F H s
theorem goods_cons {s : Sm} {r : Sms} (gs : GoodS T n N s) (gr : GoodSs T n N r) : GoodSs T n N (.cons s r) := fun sc S X C xs h => by
  cases xs with
  | nil => simp [chkSs] at h
  | cons x xs =>
    simp only [chkSs, Bool.and_eq_true] at h
    refine (pss_cons (gs sc S X C x h.1) (gr sc S X C xs h.2)).imp fun D σ H q => ?_
    obtain ⟨H0, F0, ρ, F, st, q⟩ := q
    simp only [exs] at q
    refine ⟨H0, F0, ρ, F, st, PostR.mono q.bind (fun o _ q => ?_) fun _ _ q => q⟩
    cases o with
    | nx ρ1 => exact fun σ1 F1 H1 s1 => ⟨H0, F0, ρ1, F1, s1, q⟩
    | rt u => exact q
theorem goods_fz {is : List Nat} {r : Sms} (gr : GoodSs T n N r) : GoodSs T n N (.fz is r) := fun sc S X C xs h => by
  simp only [chkSs] at h
  refine (gr sc S X C xs h).imp fun D σ H q => ?_
  obtain ⟨H0, F0, ρ, F, st, q⟩ := q
  simp only [exs] at q
  obtain ⟨F1, s1⟩ := st.frz is
  exact ⟨H0, F0, _, F1, s1, q⟩
mutual
theorem allE : ∀ t : Tm, GoodE T n N t
  | .non => good_non
  | .bl b => good_bl b
  | .int i => good_int i
  | .str x => good_str x
  | .loc i => good_loc i
  | .glo x d => good_glo x d
  | .op o a b => good_op (allE a) (allE b)
  | .chain o p a b c => good_chain (allE a) (allE b) (allE c)
  | .neg a => good_neg (allE a)
  | .not a => good_not (allE a)
  | .and es => good_and (allEs es).1
  | .or es => good_or (allEs es).1
  | .ite c a b => good_ite (allE c) (allE a) (allE b)
  | .tup es => good_tup (allEs es).1
  | .lst es => good_lst (allEs es).1
  | .ix a b => good_ix (allE a) (allE b)
  | .sl a lo hi => good_sl (allE a) (allEs lo).1 (allEs hi).1 (allEs lo).2 (allEs hi).2
  | .isi a ts => good_isi (allE a)
  | .bi f es => good_bi (allEs es).1
  | .lenset a => good_lenset (allE a)
  | .dget kvs a d => good_dget (allE a) (allE d)
  | .dkeys x tg tu it own => good_dkeys (allIt it) (allE x)
  | .trng es => good_trng (allEs es).1 (allEs es).2
  | .trng2 a b => good_trng2 (allE a) (allE b)
  | .ptup es => good_ptup (allEs es).1
  | .ptl a => good_ptl (allE a)
  | .ptr a => good_ptr (allE a)
  | .ptr2 a b => good_ptr2 (allE a) (allE b)
  | .tix a b => good_tix (allE a) (allE b)
  | .dnew => good_dnew
  | .disp kvs => good_disp
  | .dix a b => good_dix (allE a) (allE b)
  | .dgt a b c => good_dgt (allE a) (allE b) (allE c)
  | .dcopy a => good_dcopy (allE a)
  | .gget x kvs a d => good_gget (allE a) (allE d)
  | .gix x kvs a => good_gix (allE a)
  | .no => good_no
  | .sortset a => good_sortset (allE a)
  | .rep a k => good_rep (allE a) (allE k)
  | .rev a => good_rev (allE a)
  | .lrng es => good_lrng (allEs es).1 (allEs es).2
  | .mt m a es => good_mt (allE a) (allEs es).1
  | .call f es => good_call (allEs es).1
  | .comp x tg tu it c own => good_comp (allIt it) (allE x) (allEs c).1
  | .comp2 x tg tu it c tg1 tu1 it1 c1 own => good_comp2 (allIt it) (allEs c).1 (allIt it1) (allEs c1).1 (allE x)
theorem allEs : ∀ es : Tms, GoodEs T n N es ∧ ∀ b r, es = .cons b r → GoodE T n N b
  | .nil => ⟨good_nil, fun _ _ h => nomatch h⟩
  | .cons a r => ⟨good_cons (allE a) (allEs r).1, fun b r' h => by cases h; exact allE a⟩
theorem allIt : ∀ it : It, GoodIt T n N it
  | .tm t => good_tm (allE t)
  | .rng es => good_rng (allEs es).1
  | .enum t => good_enum (allE t)
  | .zip a b => good_zip (allE a) (allE b)
end
theorem swap_all : ∀ t : Tm, ∀ sc S X, Ctx T n N sc S X → ∀ y gs sc1 pos, chkE T N sc t (.ListComp y gs sc1 pos) = true → ∀ (i : Nat) (x : Str) (px spos : Pos), N[i]? = some x →
      X.env.scope.names.lookup x = some .local → swapsWith (.ListComp y gs sc1 pos) (some (.Name x px)) spos.line X.env = pure true → ∃ te, PS X (.Assign [.Name x px] (.ListComp y gs sc1 pos) spos) (tAsg te (gName i)) ∧ ∀ σ H Q, tEv S t σ H Q → te σ H Q := fun t => by
  cases t with
  | comp x tg tu it c own => exact swap_comp (allIt it) (allE x) (allEs c).1
  | comp2 x tg tu it c tg1 tu1 it1 c1 own => exact swap_comp2 (allIt it) (allEs c).1 (allIt it1) (allEs c1).1 (allE x)
  | _ =>
    intro sc S X C y gs sc1 pos h
    exfalso
    first
      | (simp [chkE, asConst, asName, asBin, asCmp, asUn, asBool, asIf, asTup, asLst, asSub, asCall, asMeth, asDict] at h; done)
      | (revert h; simp only [chkE, asConst, asName, asBin, asCmp, asUn, asBool, asIf, asTup, asLst, asSub, asCall, asMeth, asDict]; decide)
mutual
theorem allS : ∀ s : Sm, GoodS T n N s
  | .asg i t => good_asg (fun sc S X C e h => (allE t sc S X C e h).1) (swap_all t)
  | .asgT is t => good_asgT (allE t)
  | .par i j a b => good_par (allE a) (allE b)
  | .aug i o t => good_aug (allE t)
  | .setix i k t => good_setix (allE k) (allE t)
  | .mut m i es => good_mut (allEs es).1
  | .if_ c a b => good_if (allE c) (allSs a) (allSs b)
  | .for_ tg tu it b => good_for (allIt it) (allSs b)
  | .while_ c b => good_while (allE c) (allSs b)
  | .ret t => good_ret (allE t)
  | .retN => good_retN
  | .exp t => good_exp (allE t)
  | .raise _ => fun sc S X C e h => by simp [chkS] at h
  | .pass => good_pass
  | .star i j t => good_star (allE t)
  | .dput i k t => good_dput (allE k) (allE t)
  | .retK mn neg t => good_retK (allE t)
  | .asgK i mn neg t => good_asgK (allE t)
  | .no => good_noS
theorem allSs : ∀ s : Sms, GoodSs T n N s
  | .nil => goods_nil
  | .cons s r => goods_cons (allS s) (allSs r)
  | .fz is r => goods_fz (allSs r)
end
end
end Wv
/-! Defs. -/
namespace Wv
open PySem PySem.Spec PyProof.Rows L2
open LamX (Tabs TabS ExtN CodeO TabB)
variable [Tbs]
/-- a def of the text as it stands behind the top -/
def DefOk (T : Tx) (tb : List Fd) (K : PySem.W.Frag) (mg : Str → Option Value) (fa : Nat → Option Addr) (f : Nat) (x : Str) : Prop :=
  ∃ a fd d params body scope ps, fa f = some a ∧ mg x = some (.ref a) ∧ tb[f]? = some d ∧ FunD K x x params body scope [] [] a fd ∧ FnScope d.N ps scope ∧ ps.length = d.np ∧ Binds K fd ps [] ∧ chkSs T d.N scope d.body body = true
structure TopOk (T : Tx) (tb : List Fd) (w : World) (K : PySem.W.Frag) (mg : Str → Option Value) (fa : Nat → Option Addr) : Prop where
  bl : ∀ x ∈ bltN, mg x = none
  cons : ∀ x c, T.cons.lookup x = some c → ∃ u v, mg x = some u ∧ RelV v u ∧ ∀ F, Rp K F v c.d
  dics : ∀ x kvs, T.dics.lookup x = some kvs → DicOk K w mg x kvs
  defs : ∀ f x, T.fns[f]? = some x → DefOk T tb K mg fa f x
/-- the code object of the function at a -/
def codeA (K : PySem.W.Frag) (a : Addr) : Addr := match K.lookup a with
  | some ⟨_, _, .func fd, _⟩ => (match fd.code with
    | .ref c => c
    | _ => 0)
  | _ => 0
/-- the tables of the defs that hold lambdas, over a base -/
def TabOk (T : Tx) (tb : List Fd) (K : PySem.W.Frag) (mg : Str → Option Value) (fa : Nat → Option Addr) (base : Heap) : Prop :=
  ∀ f x d a, T.fns[f]? = some x → tb[f]? = some d → d.N ∈ T.lams → fa f = some a →
    ∃ P, TabB base mg (codeA K a) P ∧ (P, x ++ ".<locals>." ++ "<lambda>") ∈ Tbs.T ∧ ∀ p ∈ Tbs.T, p.1 = P → p.2 = x ++ ".<locals>." ++ "<lambda>"
/-- HandS's rule for a def, with its code object told -/
theorem funD_okC {P : Program} {w : World} {K : PySem.W.Frag} {mg : Str → Option Value} {base : Heap} {x qual : Str} {params : Arguments} {body : List Stmt} {scope : Scope} {dvs : List V} {kws : List (Str × V)} {f : Addr} {fd : FuncData}
    {CX : CXT} {N ps : List Str} {k : Nat} {sp : Sp} (F : FunD K x qual params body scope dvs kws f fd) (S : FnScope N ps scope) (len : ∀ vs H Q E, sp vs H Q E → vs.length = ps.length)
    (hbody : ∀ (cdv : Value) (A : Around) (outer : List PySem.Env) (s : Shared) (H : Hp) (vs : List V) (Q : VK) (E : XK), cdv = .ref (codeA K f) → Room k (A.deeper (envOfC qual scope s.heap.objs.size f cdv)) → sp vs H Q E →
      ∃ t, PSs (cxOf CX P w K mg base N qual scope f cdv A outer s H E) body t ∧ t { nx := fun _ H' => Q .non H', rt := Q } (start N vs) H) : FnOk P w K mg base CX (k + 1) f fd ps sp := by
  obtain ⟨oc, od, dV, kV, doc, pm, an, cdv, ct, osl, rfl, lk, hcd, _, _⟩ := F.ex
  obtain ⟨c, rfl⟩ := He.codeIn_ref hcd
  have hc : Value.ref c = .ref (codeA K f) := by
    unfold codeA
    rw [lk]
  exact fn_of lk hcd S len fun A outer s H vs Q E hr hsp => hbody _ A outer s H vs Q E hc hr hsp
section
variable {T : Tx} {tb : List Fd} {P : Program} {w : World} {K : PySem.W.Frag} {mg : Str → Option Value} {base : Heap} {fa : Nat → Option Addr} {cl : Nat → Value}
theorem runF_ok {n f : Nat} {d : Fd} {us : List Vl} (h : tb[f]? = some d) : runF tb (n + 1) f us = if us.length = d.np then map1 (exs (runF tb n) d.body (us.map some ++ List.replicate (d.N.length - d.np) none)) fin else .bad := by
  show (match tb[f]? with
    | none => R.bad
    | some d => if us.length = d.np then map1 (exs (runF tb n) d.body (us.map some ++ List.replicate (d.N.length - d.np) none)) fin else .bad) = _
  rw [h]
theorem spF_len {n f : Nat} {d : Fd} (h : tb[f]? = some d) {vs : List V} {H : Hp} {Q : VK} {E : XK} (q : spF K fa cl (runF tb n) f vs H Q E) : vs.length = d.np := by
  obtain ⟨F, us, _, va, _, q⟩ := q
  cases n with
  | zero => exact q.elim
  | succ n =>
    rw [runF_ok h] at q
    split at q
    · rename_i hl
      rw [va.length]; exact hl
    · exact q.elim
theorem VAll.get {S : Sys} {F H : Hp} : ∀ {vs : List V} {us : List Vl} {i : Nat} {u : Vl}, VAll S F H vs us → us[i]? = some u → ∃ v, vs[i]? = some v ∧ VOk S.K S.fa F H v u
  | _, _, _, _, .nil, e => by simp at e
  | _, _, 0, _, .cons h _, e => by simp at e; subst e; exact ⟨_, rfl, h⟩
  | _, _, i + 1, d, .cons _ t, e => by
    obtain ⟨v, h1, h2⟩ := VAll.get (i := i) (u := d) t (by simpa using e)
    exact ⟨v, by simpa using h1, h2⟩
theorem start_at {us : List Vl} {k i : Nat} {u : Vl} (h : (us.map some ++ List.replicate k (none : Option Vl))[i]? = some (some u)) : us[i]? = some u := by
  by_cases hi : i < us.length
  · rw [List.getElem?_append_left (by simpa using hi), List.getElem?_map] at h
    cases e : us[i]? with
    | none => rw [e] at h; cases h
    | some a => rw [e] at h; cases h; rfl
  · rw [List.getElem?_append_right (by simpa using hi), List.getElem?_replicate] at h
    split at h <;> cases h
/-- what the defs keep at a level -/
def AllAt (T : Tx) (tb : List Fd) (P : Program) (w : World) (K : PySem.W.Frag) (mg : Str → Option Value) (base : Heap) (fa : Nat → Option Addr) (cl : Nat → Value) (n : Nat) : Prop :=
  ∀ f x, T.fns[f]? = some x → ∃ a fd ps, fa f = some a ∧ mg x = some (.ref a) ∧ PySem.W.keepIn K (.ref a) = true ∧
    FnOk P w K mg base (L2.CX P w) n a fd ps (spF K fa cl (runF tb n) f) ∧ Binds K fd ps [] ∧ ∀ vs H Q E, spF K fa cl (runF tb n) f vs H Q E → vs.length = ps.length
theorem fn_one (C : TopOk T tb w K mg fa) (ht : TabOk T tb K mg fa base) {n : Nat} (ih : AllAt T tb P w K mg base fa cl n) {f : Nat} {x : Str} {a : Addr} {fd : FuncData} {d : Fd} {params : Arguments} {body : List Stmt} {scope : Scope} {ps : List Str}
    (h0 : T.fns[f]? = some x) (h1 : fa f = some a) (h3 : tb[f]? = some d) (h4 : FunD K x x params body scope [] [] a fd) (h5 : FnScope d.N ps scope) (h6 : ps.length = d.np) (h8 : chkSs T d.N scope d.body body = true) :
    FnOk P w K mg base (L2.CX P w) (n + 1) a fd ps (spF K fa cl (runF tb (n + 1)) f) := by
  have len : ∀ vs H Q E, spF K fa cl (runF tb (n + 1)) f vs H Q E → vs.length = ps.length := fun vs H Q E q => by rw [h6]; exact spF_len h3 q
  refine funD_okC h4 h5 len fun cdv A outer s H vs Q E hcdv hr q => ?_
  let S : Sys := ⟨K, fa, cl, fun cls d _ H => E cls d H, runF tb n⟩
  let X := cxOf (L2.CX P w) P w K mg base d.N x scope a cdv A outer s H E
  have CS : CtxS T n d.N scope S X := {
    hK := rfl
    hN := rfl
    hsc := rfl
    nd := h5.nd
    calm := rfl
    room := hr
    bl := C.bl
    cons := C.cons
    dics := C.dics
    fns := ih
    tk := takes_of rfl rfl rfl rfl
    st := fun y hy => ⟨locB_ok hy, .inl rfl⟩
    po := passes_of rfl
    tab := fun hN => by
      obtain ⟨P, B, m, u⟩ := ht f x d a h0 h3 hN h1
      exact ⟨_, P, hcdv, B, m, u⟩ }
  refine ⟨tSs S d.body, allSs d.body scope S X CS body h8, ?_⟩
  have hl := len vs H Q E q
  obtain ⟨F, us, sm, va, no, q⟩ := q
  rw [runF_ok h3] at q
  split at q
  · rename_i hu
    rw [postR_map1] at q
    have hv : vs.length = us.length := va.length
    have hρ : L2.start d.N vs = vs.map some ++ List.replicate (d.N.length - d.np) none := by
      unfold L2.start
      rw [hv, hu]
    have va' : VAll S F H vs us := VAll.resys (S := ⟨K, fa, cl, fun _ _ _ _ => False, runF tb (n + 1)⟩) (S' := S) rfl rfl va
    refine ⟨H, F, us.map some ++ List.replicate (d.N.length - d.np) none, F, ⟨.refl sm, ⟨?_, fun i u hi => ?_⟩, fun i e b hi _ => ?_, fun i j e e' b _ hi _ _ _ => ?_⟩, ?_⟩
    · rw [hρ, List.length_append, List.length_append, List.length_map, List.length_map, List.length_replicate, List.length_replicate, hv]
    · obtain ⟨v, e1, e2⟩ := va'.get (start_at hi)
      refine ⟨v, ?_, e2⟩
      have hlt : i < vs.length := (List.getElem?_eq_some_iff.mp e1).1
      rw [hρ, List.getElem?_append_left (by simpa using hlt), List.getElem?_map, e1]
      rfl
    · exact absurd rfl (no _ (List.mem_of_getElem? (start_at hi)) e)
    · exact absurd rfl (no _ (List.mem_of_getElem? (start_at hi)) e)
    · refine PostR.mono q (fun o _ q => ?_) fun x _ q H' e σ' => q H' e
      cases o with
      | nx ρ' => exact fun σ' F' H' s' => q .non F' H' s'.adv .non .fz
      | rt u => exact q
  · exact q.elim
theorem fn_ok (C : TopOk T tb w K mg fa) (ht : TabOk T tb K mg fa base) : ∀ n, AllAt T tb P w K mg base fa cl n
  | 0 => fun f x hx => by
    obtain ⟨a, fd, d, params, body, scope, ps, h1, h2, h3, h4, h5, h6, h7, h8⟩ := C.defs f x hx
    have no : ∀ vs H Q E, ¬ spF K fa cl (runF tb 0) f vs H Q E := fun vs H Q E q => by
      obtain ⟨F, us, _, va, _, q⟩ := q
      exact q.elim
    exact ⟨a, fd, ps, h1, h2, h4.kp, ⟨fun vs H Q E q => absurd q (no _ _ _ _), fun A outer s H args us vs Q E _ _ _ _ q => absurd q (no _ _ _ _)⟩, h7, fun vs H Q E q => absurd q (no _ _ _ _)⟩
  | n + 1 => fun f x hx => by
    obtain ⟨a, fd, d, params, body, scope, ps, h1, h2, h3, h4, h5, h6, h7, h8⟩ := C.defs f x hx
    exact ⟨a, fd, ps, h1, h2, h4.kp, fn_one C ht (fn_ok C ht n) hx h1 h3 h4 h5 h6 h8, h7, fun vs H Q E q => by rw [h6]; exact spF_len h3 q⟩
end
/-! ### the law -/
/-- an exception at any world -/
def CXa (P : Program) : CXT := fun outer H s E u s' => ∃ w, L2.CX P w outer H s E u s'
theorem _root_.L2.FnOk.any {P : Program} {w : World} {K : PySem.W.Frag} {mg : Str → Option Value} {base : Heap} {k : Nat} {f : Addr} {fd : FuncData} {ps : List Str} {sp : Sp} (F : L2.FnOk P w K mg base (L2.CX P w) k f fd ps sp) :
    L2.FnOk P w K mg base (CXa P) k f fd ps sp := ⟨F.len, fun A outer s H args us vs Q E hr he hb hv hs => codeAny_mono (F.run A outer s H args us vs Q E hr he hb hv hs) fun r s' q => by
  cases r with
  | ok fl => cases fl <;> exact q
  | error e => exact ⟨w, q⟩⟩
theorem CXa.no {P : Program} (H : Hp) (s : Shared) (e : Value) (s' : Shared) (h : CXa P [] H s (fun _ _ _ => False) e s') : False := by
  obtain ⟨w, a, B, H', cls, d, _, _, _, _, _, _, _, h⟩ := h
  exact h
theorem rp_intsL {K : PySem.W.Frag} {F : Hp} {a : Addr} {ns : List Int} (h : SqL K F a (ns.map V.int)) (hl : ns.length ≤ sizeLine) : Rp K F (.ref a) (.list (ns.map PyData.int)) := .lst h (by rw [List.length_map]; exact hl) (rp_ints ns)
/-- without the tables -/
def offT (H : Hp) : Hp := fun b => match H b with
  | some (.tbl _) => none
  | x => x
theorem offT_of {H : Hp} {b : Addr} {o : HO} (h : offT H b = some o) : H b = some o ∧ ∀ ps, o ≠ .tbl ps := by
  unfold offT at h
  split at h
  · cases h
  · rename_i n
    exact ⟨h, fun ps z => n ps (by rw [h, z])⟩
theorem offT_at {H : Hp} {b : Addr} {o : HO} (h : H b = some o) (n : ∀ ps, o ≠ .tbl ps) : offT H b = some o := by
  unfold offT
  split
  · rename_i ps e
    rw [h] at e
    exact absurd (Option.some.inj e) (n ps)
  · exact h
theorem fit_offT {H : Hp} (t : Tabs Tbs.T H) : Fit (offT H) H := ⟨fun b o h => (offT_of h).1, fun b ps h => (offT_of h).2 ps rfl, t⟩
theorem sql_offT {K : PySem.W.Frag} {H : Hp} {a : Addr} {xs : List V} (h : SqL K H a xs) : SqL K (offT H) a xs := h.imp (fun h => by
  rcases h with h | ⟨o, h⟩
  · exact .inl (offT_at h (by intro ps z; cases z))
  · exact .inr ⟨o, offT_at h (by intro ps z; cases z)⟩) id
/-- what the law's walk wants, of the law's plain reading -/
theorem law_sp {K : PySem.W.Frag} {fa : Nat → Option Addr} {cl : Nat → Value} {run : Nat → List Vl → R Vl} {f n : Nat} (hn : n ≤ sizeLine) (hp : ∀ ns : List Int, ns.length ≤ n → run f [.fz (.list (ns.map PyData.int))] = .ok (.fz (.bool true)))
    (H : Hp) (hT : Tabs Tbs.T H) (a : Addr) (ns : List Int) (hl : ns.length ≤ n) (hS : SqL K H a (ns.map V.int)) : spF K fa cl run f [.ref a] H (fun v _ => v = .bl true) fun _ _ _ => False := by
  refine ⟨offT H, [.fz (.list (ns.map PyData.int))], fit_offT hT, .cons (rp_intsL (sql_offT hS) (Nat.le_trans hl hn)).tp .nil, fun u hu d => ?_, ?_⟩
  · rcases List.mem_cons.mp hu with rfl | hu
    · exact fun z => nomatch z
    · cases hu
  · rw [hp ns hl]
    intro v F' H' _ vk _
    cases vk
    rfl
/-! ### a module's constants -/
theorem rp_strs {K : PySem.W.Frag} {F : Hp} : ∀ {zs : List Str}, (zs.all fun z => decide (z.length ≤ 1000) && PyData.strOk z) = true → RpAll K F (zs.map V.str) (zs.map PyData.str)
  | [], _ => .nil
  | z :: zs, h => by
    simp only [List.all_cons, Bool.and_eq_true, decide_eq_true_eq] at h
    have : sizeLine = 16777216 := sizeLine_eq
    exact .cons (.str z (by omega) h.1.2) (rp_strs (by simpa only [Bool.and_eq_true, decide_eq_true_eq] using h.2))
theorem strs_rp {K : PySem.W.Frag} {x : Str} {zs : List Str} (h : He.tupB K x (zs.map He.Dv.str) = true) (hl : zs.length ≤ 1000) (hz : (zs.all fun z => decide (z.length ≤ 1000) && PyData.strOk z) = true) (F : Hp) : Rp K F (.ref (He.ga K x)) (Gc.strs zs).d := by
  have e : (zs.map He.Dv.str).map (He.Dv.v K) = zs.map V.str := by rw [List.map_map]; rfl
  have h1 := He.tupB_ok h F
  rw [e] at h1
  have : sizeLine = 16777216 := sizeLine_eq
  exact .tup h1 (by rw [List.length_map]; omega) (rp_strs hz)
theorem str_rp {K : PySem.W.Frag} {z : Str} (hz : (decide (z.length ≤ 1000) && PyData.strOk z) = true) (F : Hp) : Rp K F (.str z) (Gc.str z).d := by
  rw [Bool.and_eq_true, decide_eq_true_eq] at hz
  have : sizeLine = 16777216 := sizeLine_eq
  exact .str z (by omega) hz.2
/-! ### a module's dict, by the head's facts -/
def gcDv : Gc → He.Dv
  | .int i => .int i
  | .str x => .str x
  | .strs _ => .non
theorem keys_all {P : Params} : ∀ {l : List DictEntry} {ks : List Str}, l.map He.keyOf = He.keysIn P ks → ∀ z, (l.any (·.refKey)) = false ∧ ((l.find? (·.key.isStr z)).isSome = true → z ∈ ks)
  | [], _, _, z => ⟨rfl, fun h => by cases h⟩
  | e :: r, [], h, z => by cases h
  | e :: r, k :: ks, h, z => by
    have h1 : He.keyOf e :: r.map He.keyOf = some (k, PyData.keyHash P k) :: He.keysIn P ks := h
    injection h1 with h2 h3
    obtain ⟨i1, i2⟩ := keys_all h3 z
    unfold He.keyOf at h2
    split at h2
    · rename_i x t q
      have h4 := Option.some.inj h2
      obtain ⟨h5, h6⟩ := Prod.mk.inj h4
      refine ⟨?_, fun hf => ?_⟩
      · rw [List.any_cons, i1]
        simp only [DictEntry.refKey, q, Bool.or_self]
      · by_cases hz : z = k
        · rw [hz]; exact List.mem_cons_self
        · rw [List.find?_cons] at hf
          have : e.key.isStr z = false := by
            rw [q]
            simp only [Value.isStr]
            rw [h5]
            simpa using fun q => hz q.symm
          rw [this] at hf
          exact List.mem_cons_of_mem _ (i2 hf)
    · cases h2
theorem ns_out {K : PySem.W.Frag} {w : World} {a : Addr} {ks : List Str} (h : He.dicW K a = some (He.keysIn w.params ks)) {z : Str} (hz : z ∉ ks) : PySem.W.nsIn K a z = some none := by
  unfold He.dicW at h
  unfold PySem.W.nsIn
  split at h
  · rename_i c es m sl hl
    rw [hl]
    split at h
    · have h1 := Option.some.inj h
      obtain ⟨i1, i2⟩ := keys_all h1 z
      dsimp only
      cases hf : es.toList.find? (·.key.isStr z) with
      | none => rw [i1]; rfl
      | some e => exact absurd (i2 (by rw [hf]; rfl)) hz
    · cases h
  · cases h
theorem dic_ok {K : PySem.W.Frag} {w : World} {mg : Str → Option Value} {x : Str} {a : Addr} {kvs : List (Str × Gc)} (hm : mg x = some (.ref a)) (hd : He.dicW K a = some (He.keysIn w.params (kvs.map (·.1)))) (hv : He.valsB K a (kvs.map fun q => (q.1, gcDv q.2)) = true)
    (hk : (kvs.all fun q => match q.2 with | .int _ => true | .str z => decide (z.length ≤ 1000) && PyData.strOk z | .strs _ => false) = true) : DicOk K w mg x kvs := by
  obtain ⟨es, m, kd⟩ := He.dicW_ok hd
  refine ⟨a, es, m, hm, kd, fun z => ?_⟩
  cases hl : kvs.lookup z with
  | none =>
    refine ns_out hd fun hz => ?_
    obtain ⟨q, hq, rfl⟩ := List.mem_map.mp hz
    have : ∀ l : List (Str × Gc), q ∈ l → l.lookup q.1 ≠ none := fun l => by
      induction l with
      | nil => intro h; cases h
      | cons y l ih =>
        intro h
        rw [List.lookup_cons]
        split
        · exact fun h => nomatch h
        · rename_i hne
          rcases List.mem_cons.mp h with rfl | h
          · simp at hne
          · exact ih h
    exact this kvs hq hl
  | some c =>
    have hmem := mem_of_lookup hl
    obtain ⟨u, e1, e2⟩ := He.valsB_ok hv (List.mem_map.mpr ⟨(z, c), hmem, rfl⟩)
    have hc := List.all_eq_true.mp hk _ hmem
    refine ⟨u, e1, ?_, fun F => ?_⟩
    · cases c with
      | int i => exact e2
      | str y => exact e2
      | «strs» _ => cases hc
    · cases c with
      | int i => exact .int i
      | str y =>
        simp only [Bool.and_eq_true, decide_eq_true_eq] at hc
        have : sizeLine = 16777216 := sizeLine_eq
        exact .str y (by omega) hc.2
      | «strs» _ => cases hc
theorem tab_at {fa : List He.Fa} {fn : List He.DefD} {ts : List He.Tab} {w : World} {K : PySem.W.Frag} (c : He.SaysT fa fn ts w K) (i : Nat) {t : He.Tab} (h : ts[i]? = some t) : He.dicW K (t.1 K) = some (He.keysIn w.params t.2) := by
  have e : ts.map (fun t => He.dicW K (t.1 K)) = ts.map fun t => some (He.keysIn w.params t.2) := congrArg (fun z : He.AlT => z.2) c
  have e2 : (ts.map fun t => He.dicW K (t.1 K))[i]? = (ts.map fun t => some (He.keysIn w.params t.2))[i]? := by rw [e]
  rw [List.getElem?_map, List.getElem?_map, h] at e2
  exact Option.some.inj e2
/-! ### the tables of the defs that hold lambdas -/
theorem mem_at {α : Type} {l : List α} {i : Nat} {a : α} (h : l[i]? = some a) : a ∈ l := List.mem_of_getElem? h
def tabsApart (tf : List He.Defn) (K : PySem.W.Frag) : Bool := tf.all fun p => tf.all fun q => decide (p.1 = q.1) || !decide ((He.cT K p).2 = (He.cT K q).2)
@[reducible] def tbsOf (tf : List He.Defn) (K : PySem.W.Frag) : Tbs := ⟨tf.map fun p => ((He.cT K p).2, p.1 ++ ".<locals>." ++ "<lambda>")⟩
theorem tbs_in {tf : List He.Defn} {K : PySem.W.Frag} {p : He.Defn} (h : p ∈ tf) : ((He.cT K p).2, p.1 ++ ".<locals>." ++ "<lambda>") ∈ (tbsOf tf K).T := List.mem_map.mpr ⟨p, h, rfl⟩
theorem tbs_one {tf : List He.Defn} {K : PySem.W.Frag} (ha : tabsApart tf K = true) {p : He.Defn} (h : p ∈ tf) : ∀ q ∈ (tbsOf tf K).T, q.1 = (He.cT K p).2 → q.2 = p.1 ++ ".<locals>." ++ "<lambda>" := fun q hq e => by
  obtain ⟨r, hr, rfl⟩ := List.mem_map.mp hq
  have h1 := List.all_eq_true.mp (List.all_eq_true.mp ha p h) r hr
  rw [Bool.or_eq_true, decide_eq_true_eq, Bool.not_eq_true', decide_eq_false_iff_not] at h1
  rcases h1 with h1 | h1
  · show r.1 ++ ".<locals>." ++ "<lambda>" = _
    rw [h1]
  · exact absurd e.symm h1
theorem tbs_nil {tf : List He.Defn} {K : PySem.W.Frag} {H : Hp} (h : ∀ p ∈ tf.map (He.cT K), H p.2 = some (.tbl #[])) : Tabs (tbsOf tf K).T H := fun q hq => by
  obtain ⟨r, hr, rfl⟩ := List.mem_map.mp hq
  exact LamX.TabS.nil (h _ (List.mem_map.mpr ⟨r, hr, rfl⟩))
/-- no tables -/
instance (priority := low) noTbs : Tbs := ⟨[]⟩
end Wv
/-! Plain facts of the reading, of no text. -/
namespace Wv
open PySem PySem.Spec PyProof.Rows L2
/-- a def's run, by its body -/
theorem run_of {tb : List Fd} {n f : Nat} {d : Fd} {us : List Vl} (h : tb[f]? = some d) (hl : us.length = d.np) : runF tb (n + 1) f us = map1 (exs (runF tb n) d.body (us.map some ++ List.replicate (d.N.length - d.np) none)) fin := by
  rw [runF_ok h, if_pos hl]
theorem atI_cast {α : Type} (xs : List α) (j : Nat) : L2.atI xs (j : Int) = xs[j]? := by
  unfold L2.atI L2.ixN
  rw [if_pos (by omega)]
  by_cases h : (j : Int) < (xs.length : Int)
  · rw [if_pos h]
    show xs[(j : Int).toNat]? = _
    rw [Int.toNat_natCast]
  · rw [if_neg h, List.getElem?_eq_none (by omega)]
    rfl
theorem atI_pos {α : Type} (xs : List α) {i : Int} (h : 0 ≤ i) : L2.atI xs i = xs[i.toNat]? := by
  obtain ⟨j, rfl⟩ := Int.eq_ofNat_of_zero_le h
  rw [atI_cast]
  rfl
theorem atI_0 {α : Type} (xs : List α) : L2.atI xs 0 = xs[0]? := atI_cast xs 0
theorem atI_1 {α : Type} (xs : List α) : L2.atI xs 1 = xs[1]? := atI_cast xs 1
theorem atI_2 {α : Type} (xs : List α) : L2.atI xs 2 = xs[2]? := atI_cast xs 2
/-! ### loops -/
theorem forL_ok {bnd : PyData → Env → R Env} {body : Env → R Out} (I : Nat → Env → Prop) : ∀ {ds : List PyData} {ρ : Env} (k : Nat), (∀ i d ρ, ds[i]? = some d → I (k + i) ρ → ∃ ρ1 ρ2, bnd d ρ = .ok ρ1 ∧ body ρ1 = .ok (.nx ρ2) ∧ I (k + i + 1) ρ2) → I k ρ →
    ∃ ρ', forL bnd body ds ρ = .ok (.nx ρ') ∧ I (k + ds.length) ρ'
  | [], ρ, k, _, h0 => ⟨ρ, rfl, h0⟩
  | d :: ds, ρ, k, step, h0 => by
    obtain ⟨ρ1, ρ2, h1, h2, h3⟩ := step 0 d ρ rfl h0
    obtain ⟨ρ', h4, h5⟩ := forL_ok I (ds := ds) (ρ := ρ2) (k + 1) (fun i e ρ he hi => by
      have := step (i + 1) e ρ (by simpa using he) (by rw [← Nat.add_assoc, Nat.add_right_comm]; exact hi)
      rw [← Nat.add_assoc, Nat.add_right_comm k i 1] at this
      exact this) h3
    refine ⟨ρ', ?_, ?_⟩
    · unfold forL
      rw [h1]
      show (body ρ1).bind _ = _
      rw [h2]
      exact h4
    · rw [List.length_cons, Nat.add_comm ds.length 1, ← Nat.add_assoc]
      exact h5
/-- a loop that keeps I, counted from 0 -/
theorem for_ok {bnd : PyData → Env → R Env} {body : Env → R Out} (I : Nat → Env → Prop) {ds : List PyData} {ρ : Env} (h0 : I 0 ρ) (step : ∀ i d ρ, ds[i]? = some d → I i ρ → ∃ ρ1 ρ2, bnd d ρ = .ok ρ1 ∧ body ρ1 = .ok (.nx ρ2) ∧ I (i + 1) ρ2) :
    ∃ ρ', forL bnd body ds ρ = .ok (.nx ρ') ∧ I ds.length ρ' := by
  obtain ⟨ρ', h1, h2⟩ := forL_ok I (ds := ds) (ρ := ρ) 0 (fun i d ρ hd hi => by rw [Nat.zero_add] at hi ⊢; exact step i d ρ hd hi) h0
  rw [Nat.zero_add] at h2
  exact ⟨ρ', h1, h2⟩
theorem rng_get {n : Nat} {i : Nat} {d : PyData} (h : ((List.range n).map fun (i : Nat) => PyData.int (i : Int))[i]? = some d) : i < n ∧ d = .int (i : Int) := by
  rw [List.getElem?_map] at h
  by_cases hi : i < n
  · rw [List.getElem?_range hi] at h
    exact ⟨hi, (Option.some.inj h).symm⟩
  · rw [List.getElem?_eq_none (by simpa using hi)] at h
    cases h
theorem rng_len (n : Nat) : ((List.range n).map fun (i : Nat) => PyData.int (i : Int)).length = n := by rw [List.length_map, List.length_range]
theorem lim_eq : (lim : Int) = 1000000 := rfl
end Wv
namespace Wv
open PySem PySem.Spec PyProof.Rows L2
theorem sIx_pos {n d : Nat} {i : Int} (h : 0 ≤ i) : HT.sIx n d (some i) = min i.toNat n := by
  show (if i < 0 then (i + (n : Int)).toNat else min i.toNat n) = _
  rw [if_neg (by omega)]
theorem cut_from {α : Type} (xs : List α) {i : Int} (h : 0 ≤ i) : cut xs (some i) none = xs.drop i.toNat := by
  unfold cut
  rw [sIx_pos h, HT.sIx_none]
  by_cases hk : i.toNat ≤ xs.length
  · rw [Nat.min_eq_left hk, List.take_of_length_le (by rw [List.length_drop]; omega)]
  · rw [Nat.min_eq_right (by omega), List.drop_of_length_le (Nat.le_refl _), List.drop_of_length_le (by omega)]
    simp
theorem cut_to {α : Type} (xs : List α) {i : Int} (h : 0 ≤ i) : cut xs none (some i) = xs.take i.toNat := by
  unfold cut
  rw [sIx_pos h, HT.sIx_none, List.drop_zero, Nat.sub_zero]
  by_cases hk : i.toNat ≤ xs.length
  · rw [Nat.min_eq_left hk]
  · rw [Nat.min_eq_right (by omega), List.take_of_length_le (Nat.le_refl _), List.take_of_length_le (by omega)]
theorem cut_ft {α : Type} (xs : List α) {i j : Int} (h : 0 ≤ i) (h2 : 0 ≤ j) : cut xs (some i) (some j) = (xs.take j.toNat).drop i.toNat := by
  unfold cut
  rw [sIx_pos h, sIx_pos h2, List.drop_take]
  by_cases hk : i.toNat ≤ xs.length
  · rw [Nat.min_eq_left hk]
    by_cases hj : j.toNat ≤ xs.length
    · rw [Nat.min_eq_left hj]
    · rw [Nat.min_eq_right (by omega), List.take_of_length_le (by rw [List.length_drop]; omega), List.take_of_length_le (by rw [List.length_drop]; omega)]
  · rw [List.drop_of_length_le (show xs.length ≤ min i.toNat xs.length by omega), List.drop_of_length_le (show xs.length ≤ i.toNat by omega), List.take_nil, List.take_nil]
theorem atI_mod {α : Type} {xs : List α} (a : Int) (h : 0 < xs.length) : ∃ j, j < xs.length ∧ a % (xs.length : Int) = (j : Int) ∧ ∃ d, xs[j]? = some d := by
  have h0 := Int.emod_nonneg a (show ((xs.length : Nat) : Int) ≠ 0 by omega)
  have h1 := Int.emod_lt_of_pos a (show (0 : Int) < ((xs.length : Nat) : Int) by omega)
  refine ⟨(a % (xs.length : Int)).toNat, by omega, by omega, ?_⟩
  exact ⟨_, List.getElem?_eq_getElem (by omega)⟩
/-! ### data without dicts, no row longer than k -/
mutual
def wd (k : Nat) : PyData → Bool
  | .list xs => Nat.ble xs.length k && wdL k xs
  | .tuple xs => Nat.ble xs.length k && wdL k xs
  | .dict _ => false
  | .none => true
  | .bool _ => true
  | .int _ => true
  | .str _ => true
def wdL (k : Nat) : List PyData → Bool
  | [] => true
  | x :: r => wd k x && wdL k r
end
theorem wdL_iff {k : Nat} : ∀ {xs : List PyData}, wdL k xs = true ↔ ∀ x ∈ xs, wd k x = true
  | [] => by simp [wdL]
  | x :: r => by simp [wdL, wdL_iff (xs := r)]
theorem wd_list {k : Nat} {xs : List PyData} : wd k (.list xs) = true ↔ xs.length ≤ k ∧ wdL k xs = true := by simp [wd]
theorem wd_tuple {k : Nat} {xs : List PyData} : wd k (.tuple xs) = true ↔ xs.length ≤ k ∧ wdL k xs = true := by simp [wd]
theorem wd_nodict {k : Nat} {d : PyData} (h : wd k d = true) : isDict d = false := by cases d <;> first | rfl | (simp [wd] at h)
mutual
theorem wd_mono {k m : Nat} (h : k ≤ m) : ∀ d : PyData, wd k d = true → wd m d = true
  | .list xs, q => by
    obtain ⟨q1, q2⟩ := wd_list.mp q
    exact wd_list.mpr ⟨Nat.le_trans q1 h, wdL_mono h xs q2⟩
  | .tuple xs, q => by
    obtain ⟨q1, q2⟩ := wd_tuple.mp q
    exact wd_tuple.mpr ⟨Nat.le_trans q1 h, wdL_mono h xs q2⟩
  | .dict _, q => by simp [wd] at q
  | .none, _ => rfl
  | .bool _, _ => rfl
  | .int _, _ => rfl
  | .str _, _ => rfl
theorem wdL_mono {k m : Nat} (h : k ≤ m) : ∀ xs : List PyData, wdL k xs = true → wdL m xs = true
  | [], _ => rfl
  | x :: r, q => by
    simp only [wdL, Bool.and_eq_true] at q ⊢
    exact ⟨wd_mono h x q.1, wdL_mono h r q.2⟩
end
theorem wdL_append {k : Nat} {xs ys : List PyData} (h1 : wdL k xs = true) (h2 : wdL k ys = true) : wdL k (xs ++ ys) = true := wdL_iff.mpr fun x hx => (List.mem_append.mp hx).elim (wdL_iff.mp h1 x) (wdL_iff.mp h2 x)
theorem wdL_take {k : Nat} {xs : List PyData} (j : Nat) (h1 : wdL k xs = true) : wdL k (xs.take j) = true := wdL_iff.mpr fun x hx => wdL_iff.mp h1 x (List.mem_of_mem_take hx)
theorem wdL_drop {k : Nat} {xs : List PyData} (j : Nat) (h1 : wdL k xs = true) : wdL k (xs.drop j) = true := wdL_iff.mpr fun x hx => wdL_iff.mp h1 x (List.mem_of_mem_drop hx)
theorem wdL_set {k : Nat} {xs : List PyData} {d : PyData} (j : Nat) (h1 : wdL k xs = true) (h2 : wd k d = true) : wdL k (xs.set j d) = true := wdL_iff.mpr fun x hx => (List.mem_or_eq_of_mem_set hx).elim (wdL_iff.mp h1 x) fun e => by rw [e]; exact h2
theorem wdL_get {k : Nat} {xs : List PyData} {d : PyData} {j : Nat} (h1 : wdL k xs = true) (h : xs[j]? = some d) : wd k d = true := wdL_iff.mp h1 d (List.mem_of_getElem? h)
theorem iL_loc (i : Nat) : isLoc (.loc i) = true := rfl
theorem iL_non  : isLoc (.non ) = false := rfl
theorem iL_bl {a0} : isLoc (.bl a0) = false := rfl
theorem iL_int {a0} : isLoc (.int a0) = false := rfl
theorem iL_str {a0} : isLoc (.str a0) = false := rfl
theorem iL_glo {a0} {a1} : isLoc (.glo a0 a1) = false := rfl
theorem iL_op {a0} {a1} {a2} : isLoc (.op a0 a1 a2) = false := rfl
theorem iL_chain {a0} {a1} {a2} {a3} {a4} : isLoc (.chain a0 a1 a2 a3 a4) = false := rfl
theorem iL_neg {a0} : isLoc (.neg a0) = false := rfl
theorem iL_not {a0} : isLoc (.not a0) = false := rfl
theorem iL_and {a0} : isLoc (.and a0) = false := rfl
theorem iL_or {a0} : isLoc (.or a0) = false := rfl
theorem iL_ite {a0} {a1} {a2} : isLoc (.ite a0 a1 a2) = false := rfl
theorem iL_tup {a0} : isLoc (.tup a0) = false := rfl
theorem iL_lst {a0} : isLoc (.lst a0) = false := rfl
theorem iL_ix {a0} {a1} : isLoc (.ix a0 a1) = false := rfl
theorem iL_sl {a0} {a1} {a2} : isLoc (.sl a0 a1 a2) = false := rfl
theorem iL_isi {a0} {a1} : isLoc (.isi a0 a1) = false := rfl
theorem iL_bi {a0} {a1} : isLoc (.bi a0 a1) = false := rfl
theorem iL_lenset {a0} : isLoc (.lenset a0) = false := rfl
theorem iL_sortset {a0} : isLoc (.sortset a0) = false := rfl
theorem iL_rep {a0} {a1} : isLoc (.rep a0 a1) = false := rfl
theorem iL_rev {a0} : isLoc (.rev a0) = false := rfl
theorem iL_lrng {a0} : isLoc (.lrng a0) = false := rfl
theorem iL_mt {a0} {a1} {a2} : isLoc (.mt a0 a1 a2) = false := rfl
theorem iL_call {a0} {a1} : isLoc (.call a0 a1) = false := rfl
theorem iL_comp {a0} {a1} {a2} {a3} {a4} {a5} : isLoc (.comp a0 a1 a2 a3 a4 a5) = false := rfl
theorem iL_comp2 {a0} {a1} {a2} {a3} {a4} {a5} {a6} {a7} {a8} {a9} : isLoc (.comp2 a0 a1 a2 a3 a4 a5 a6 a7 a8 a9) = false := rfl
theorem iL_dget {a0} {a1} {a2} : isLoc (.dget a0 a1 a2) = false := rfl
theorem iL_dkeys {a0} {a1} {a2} {a3} {a4} : isLoc (.dkeys a0 a1 a2 a3 a4) = false := rfl
theorem iL_trng {a0} : isLoc (.trng a0) = false := rfl
theorem iL_ptup {a0} : isLoc (.ptup a0) = false := rfl
theorem iL_ptl {a0} : isLoc (.ptl a0) = false := rfl
theorem iL_ptr {a0} : isLoc (.ptr a0) = false := rfl
theorem iL_ptr2 {a0 a1} : isLoc (.ptr2 a0 a1) = false := rfl
theorem iL_tix {a0 a1} : isLoc (.tix a0 a1) = false := rfl
theorem iL_dnew : isLoc .dnew = false := rfl
theorem iL_disp {a0} : isLoc (.disp a0) = false := rfl
theorem iL_dix {a0 a1} : isLoc (.dix a0 a1) = false := rfl
theorem iL_dgt {a0 a1 a2} : isLoc (.dgt a0 a1 a2) = false := rfl
theorem iL_dcopy {a0} : isLoc (.dcopy a0) = false := rfl
theorem iL_gget {a0 a1 a2 a3} : isLoc (.gget a0 a1 a2 a3) = false := rfl
theorem iL_gix {a0 a1 a2} : isLoc (.gix a0 a1 a2) = false := rfl
theorem dicV_ow (kvs : List (PyData × PyData)) : dicV (.ow (.dict kvs)) = .ok kvs := rfl
theorem dicV_fd (kvs : List (PyData × PyData)) : dicV (.fd kvs) = .ok kvs := rfl
theorem keepV_pt (l : Bool) (ds : List PyData) : keepV l (.pt ds) = .ok (.pt ds) := rfl
theorem dat_pt (ds : List PyData) : dat (.pt ds) = .ok (.tuple ds) := rfl
theorem argV_pt (ds : List PyData) : argV (.pt ds) = .pt ds := rfl
theorem iL_trng2 {a0 a1} : isLoc (.trng2 a0 a1) = false := rfl
theorem b_ok {α β : Type} (a : α) (f : α → R β) : R.bind (.ok a) f = f a := rfl
theorem b_err {α β : Type} (x : Nat) (f : α → R β) : R.bind (.err x) f = .err x := rfl
theorem b_bad {α β : Type} (f : α → R β) : R.bind .bad f = .bad := rfl
theorem k_ok {α : Type} (a : α) : R.calm (.ok a) = .ok a := rfl
theorem m_ok {α β : Type} (a : α) (f : α → β) : map1 (.ok a) f = .ok (f a) := rfl
theorem dat_fz (d : PyData) : dat (.fz d) = .ok d := rfl
theorem dat_ow (d : PyData) : dat (.ow d) = plain d := rfl
theorem keepV_no (v : Vl) : keepV false v = .ok v := by cases v <;> rfl
theorem keepV_fz (l : Bool) (d : PyData) : keepV l (.fz d) = .ok (.fz d) := rfl
theorem boolV_bl (b : Bool) : boolV (.fz (.bool b)) = .ok b := rfl
theorem fin_rt (v : Vl) : fin (.rt v) = v := rfl
theorem fin_nx (ρ : Env) : fin (.nx ρ) = .fz .none := rfl
theorem argV_fz (d : PyData) : argV (.fz d) = .fz d := rfl
theorem argV_ow (d : PyData) : argV (.ow d) = frzV d := rfl
theorem frzV_lst (xs : List PyData) : frzV (.list xs) = .fz (.list xs) := rfl
theorem frzV_tup (xs : List PyData) : frzV (.tuple xs) = .fz (.tuple xs) := rfl
theorem frzV_dct (kvs : List (PyData × PyData)) : frzV (.dict kvs) = .fd kvs := rfl
theorem frzV_nd {d : PyData} (h : isDict d = false) : frzV d = .fz d := by cases d <;> first | rfl | cases h
theorem compL_gen {bnd : PyData → R Env} {cond : Env → R Bool} {elt : Env → R PyData} (c : PyData → Bool) (f : PyData → PyData) : ∀ {ds : List PyData}, (∀ d ∈ ds, ∃ ρ, bnd d = .ok ρ ∧ cond ρ = .ok (c d) ∧ (c d = true → elt ρ = .ok (f d))) → compL bnd cond elt ds = .ok ((ds.filter c).map f)
  | [], _ => rfl
  | d :: ds, h => by
    obtain ⟨ρ, h1, h2, h3⟩ := h d List.mem_cons_self
    have ih := compL_gen c f (ds := ds) fun e he => h e (List.mem_cons_of_mem _ he)
    unfold compL
    rw [h1, b_ok, h2, b_ok]
    cases hc : c d with
    | true => rw [if_pos rfl, h3 hc, b_ok, ih, m_ok, List.filter_cons_of_pos hc, List.map_cons]
    | false => rw [if_neg (by simp), ih, List.filter_cons_of_neg (by simp [hc])]
theorem compL_map {bnd : PyData → R Env} {cond : Env → R Bool} {elt : Env → R PyData} (f : PyData → PyData) {ds : List PyData} (h : ∀ d ∈ ds, ∃ ρ, bnd d = .ok ρ ∧ cond ρ = .ok true ∧ elt ρ = .ok (f d)) : compL bnd cond elt ds = .ok (ds.map f) := by
  rw [compL_gen (fun _ => true) f fun d hd => by
    obtain ⟨ρ, h1, h2, h3⟩ := h d hd
    exact ⟨ρ, h1, h2, fun _ => h3⟩]
  rw [List.filter_eq_self.mpr fun _ _ => rfl]
theorem plain_non : plain .none = .ok .none := rfl
theorem plain_bl (b : Bool) : plain (.bool b) = .ok (.bool b) := rfl
theorem plain_int (i : Int) : plain (.int i) = .ok (.int i) := rfl
theorem plain_str (x : Str) : plain (.str x) = .ok (.str x) := rfl
theorem plain_lst (xs : List PyData) : plain (.list xs) = .ok (.list xs) := rfl
theorem plain_tup (xs : List PyData) : plain (.tuple xs) = .ok (.tuple xs) := rfl
theorem isDict_non : isDict .none = false := rfl
theorem isDict_bl (b : Bool) : isDict (.bool b) = false := rfl
theorem isDict_int (i : Int) : isDict (.int i) = false := rfl
theorem isDict_str (x : Str) : isDict (.str x) = false := rfl
theorem isDict_lst (xs : List PyData) : isDict (.list xs) = false := rfl
theorem isDict_tup (xs : List PyData) : isDict (.tuple xs) = false := rfl
theorem eqD_int (a b : Int) : eqD (.int a) (.int b) = .ok (decide (a = b)) := by
  have h : eqOk (.int a) (.int b) = true := rfl
  unfold eqD
  rw [h, if_pos rfl]
  show R.ok (a == b) = _
  by_cases hab : a = b
  · subst hab; simp
  · simp [hab]
theorem eqD_bool (a b : Bool) : eqD (.bool a) (.bool b) = .ok (a == b) := by
  have h : eqOk (.bool a) (.bool b) = true := rfl
  unfold eqD
  rw [h, if_pos rfl]
  show R.ok (a == b) = _
  rfl
theorem eqD_str (a b : Str) : eqD (.str a) (.str b) = .ok (a == b) := by
  have h : eqOk (.str a) (.str b) = true := rfl
  unfold eqD
  rw [h, if_pos rfl]
  show R.ok (a == b) = _
  rfl
theorem ltD_int (a b : Int) : ltD (.int a) (.int b) = .ok (decide (a < b)) := rfl
theorem lvl {L k : Nat} (h : k + 1 ≤ L) : ∃ n, L = n + 1 ∧ k ≤ n := ⟨L - 1, by omega, by omega⟩
/-- a value's data -/
def Is (v : Vl) (d : PyData) : Prop := v = .fz d ∨ v = .ow d
theorem Is.dat {v : Vl} {d : PyData} (h : Is v d) (hd : isDict d = false) : Wv.dat v = .ok d := by
  rcases h with rfl | rfl
  · rfl
  · show plain d = _
    unfold plain
    rw [hd]
    rfl
theorem Is.keep {v : Vl} {d : PyData} (h : Is v d) : keepV false v = .ok v := by rcases h with rfl | rfl <;> rfl
theorem Is.arg {v : Vl} {d : PyData} (h : Is v d) (hd : isDict d = false) : argV v = .fz d := by
  rcases h with rfl | rfl
  · rfl
  · exact frzV_nd hd
theorem plain_nd {d : PyData} (h : isDict d = false) : plain d = .ok d := by unfold plain; rw [h]; rfl
end Wv
/-! Plain facts of the reading, of no text: data with Lean values, comprehensions, loops. -/
namespace Wv
open PySem PySem.Spec PyProof.Rows L2
instance : Inhabited PyData := ⟨.none⟩
/-! ### data that are Lean values -/
structure GoodD {α : Type} [DecidableEq α] (f : α → PyData) (k : Nat) : Prop where
  eqv : ∀ a b, PyData.eqv (f a) (f b) = decide (a = b)
  dep : ∀ a, (f a).depth ≤ k
  nd : ∀ a, isDict (f a) = false
section
variable {α β : Type} [DecidableEq α] [DecidableEq β] {f : α → PyData} {g : β → PyData} {k m : Nat}
theorem GoodD.pl (h : GoodD f k) (a : α) : plain (f a) = .ok (f a) := plain_nd (h.nd a)
theorem GoodD.eq (h : GoodD f k) (hk : k ≤ 64) (a b : α) : eqD (f a) (f b) = .ok (decide (a = b)) := by
  have e : eqOk (f a) (f b) = true := by
    unfold eqOk
    rw [h.nd a, h.nd b]
    simp only [Bool.not_false, Bool.true_and, decide_eq_true_eq]
    exact Nat.le_trans (Nat.min_le_left _ _) (Nat.le_trans (h.dep a) hk)
  unfold eqD
  rw [if_pos e, h.eqv]
theorem GoodD.isIn (h : GoodD f k) (hk : k ≤ 64) (a : α) (l : List α) : inD (f a) (l.map f) = .ok (decide (a ∈ l)) := by
  have e : inOk (f a) (l.map f) = true := by
    unfold inOk
    rw [h.nd a]
    simp only [Bool.not_false, Bool.true_and, decide_eq_true_eq]
    exact Nat.le_trans (Nat.min_le_left _ _) (Nat.le_trans (h.dep a) hk)
  unfold inD
  rw [if_pos e]
  congr 1
  rw [List.any_map]
  rw [Bool.eq_iff_iff, List.any_eq_true, decide_eq_true_eq]
  constructor
  · rintro ⟨x, hx, he⟩
    have he : PyData.eqv (f x) (f a) = true := he
    rw [h.eqv, decide_eq_true_eq] at he
    rw [← he]; exact hx
  · intro ha
    exact ⟨a, ha, by show PyData.eqv (f a) (f a) = true; rw [h.eqv]; simp⟩
theorem eqvAll_mapD (h : GoodD f k) : ∀ xs ys : List α, PyData.eqvAll (xs.map f) (ys.map f) = decide (xs = ys)
  | [], [] => by simp only [List.map_nil, PyData.eqvAll, decide_true]
  | [], _ :: _ => by simp [PyData.eqvAll]
  | _ :: _, [] => by simp [PyData.eqvAll]
  | x :: xs, y :: ys => by
    rw [List.map_cons, List.map_cons, PyData.eqvAll, h.eqv x y, eqvAll_mapD h xs ys, ← Bool.decide_and]
    exact decide_eq_decide.mpr (by rw [List.cons.injEq])
theorem depthAll_mapD (h : GoodD f k) : ∀ xs : List α, PyData.depthAll (xs.map f) ≤ k
  | [] => Nat.zero_le _
  | x :: xs => by
    rw [List.map_cons, PyData.depthAll]
    exact Nat.max_le.mpr ⟨h.dep x, depthAll_mapD h xs⟩
theorem GoodD.tup (h : GoodD f k) : GoodD (fun xs : List α => PyData.tuple (xs.map f)) (k + 1) where
  eqv xs ys := by simp only [PyData.eqv]; exact eqvAll_mapD h xs ys
  dep xs := by simp only [PyData.depth]; exact Nat.succ_le_succ (depthAll_mapD h xs)
  nd _ := rfl
theorem GoodD.lst (h : GoodD f k) : GoodD (fun xs : List α => PyData.list (xs.map f)) (k + 1) where
  eqv xs ys := by simp only [PyData.eqv]; exact eqvAll_mapD h xs ys
  dep xs := by simp only [PyData.depth]; exact Nat.succ_le_succ (depthAll_mapD h xs)
  nd _ := rfl
theorem GoodD.two (h : GoodD f k) (h2 : GoodD g m) : GoodD (fun p : α × β => PyData.tuple [f p.1, g p.2]) (max k m + 1) where
  eqv p q := by
    simp only [PyData.eqv, PyData.eqvAll]
    rw [h.eqv, h2.eqv, Bool.and_true, ← Bool.decide_and]
    exact decide_eq_decide.mpr ⟨fun e => Prod.ext e.1 e.2, fun e => by rw [e]; exact ⟨rfl, rfl⟩⟩
  dep p := by
    simp only [PyData.depth, PyData.depthAll]
    exact Nat.succ_le_succ (Nat.max_le.mpr ⟨Nat.le_trans (h.dep p.1) (Nat.le_max_left _ _), Nat.max_le.mpr ⟨Nat.le_trans (h2.dep p.2) (Nat.le_max_right _ _), Nat.zero_le _⟩⟩)
  nd _ := rfl
end
theorem beq_dec {α : Type} [BEq α] [LawfulBEq α] [DecidableEq α] (a b : α) : (a == b) = decide (a = b) := by
  rw [Bool.eq_iff_iff, beq_iff_eq, decide_eq_true_eq]
theorem gd_int : GoodD PyData.int 0 := ⟨fun a b => by simp only [PyData.eqv]; exact beq_dec a b, fun _ => Nat.le_refl _, fun _ => rfl⟩
theorem gd_bool : GoodD PyData.bool 0 := ⟨fun a b => by simp only [PyData.eqv]; exact beq_dec a b, fun _ => Nat.le_refl _, fun _ => rfl⟩
theorem gd_str : GoodD PyData.str 0 := ⟨fun a b => by simp only [PyData.eqv]; exact beq_dec a b, fun _ => Nat.le_refl _, fun _ => rfl⟩
/-- a number from nought on -/
def nD (n : Nat) : PyData := .int n
/-- a pair of such -/
def prD (p : Nat × Nat) : PyData := .tuple [.int (p.1 : Nat), .int (p.2 : Nat)]
theorem gd_n : GoodD nD 0 := ⟨fun a b => by
  show PyData.eqv (.int a) (.int b) = _
  rw [gd_int.eqv]
  exact decide_eq_decide.mpr Int.ofNat_inj, fun _ => Nat.le_refl _, fun _ => rfl⟩
theorem gd_pr : GoodD prD 1 := gd_n.two gd_n
/-- a web: its knots, its ties -/
structure Web where
  n : Nat
  t : List (Nat × Nat)
  deriving DecidableEq
def tiesD (t : List (Nat × Nat)) : PyData := .tuple (t.map prD)
def wbD (w : Web) : PyData := .tuple [.int (w.n : Nat), .tuple (w.t.map prD)]
theorem gd_ties : GoodD tiesD 2 := gd_pr.tup
theorem gd_wb : GoodD wbD 3 := ⟨fun a b => by
  show PyData.eqv (PyData.tuple [nD a.n, tiesD a.t]) (.tuple [nD b.n, tiesD b.t]) = _
  rw [(gd_n.two gd_ties).eqv (a.n, a.t) (b.n, b.t)]
  exact decide_eq_decide.mpr ⟨fun h => by cases a; cases b; cases h; rfl, fun h => by rw [h]⟩, fun a => (gd_n.two gd_ties).dep (a.n, a.t), fun _ => rfl⟩
/-- row: a tuple of numbers; lists of such -/
def tnD (r : List Nat) : PyData := .tuple (r.map nD)
def lnD (r : List Nat) : PyData := .list (r.map nD)
theorem gd_tn : GoodD tnD 1 := gd_n.tup
theorem gd_ln : GoodD lnD 1 := gd_n.lst
theorem m_err {α β : Type} (x : Nat) (f : α → β) : map1 (.err x) f = .err x := rfl
theorem m_bad {α β : Type} (f : α → β) : map1 .bad f = .bad := rfl
/-! ### sizes -/
theorem inN_nat {n k : Nat} (h : n ≤ k) : inN (n : Int) k = true := inN_iff.mpr ⟨by omega, by omega⟩
theorem rng_1 {n : Nat} (h : n ≤ 1000000) : rngD [.int (n : Int)] = .ok ((List.range n).map nD) := by
  have : inN (n : Int) lim = true := inN_nat h
  show (if inN (n : Int) lim = true then _ else _) = _
  rw [if_pos this, Int.toNat_natCast]
  try rfl
theorem rng_2 {a b : Nat} (ha : a ≤ 1000000) (hb : b ≤ 1000000) : rngD [.int (a : Int), .int (b : Int)] = .ok ((List.range' a (b - a)).map nD) := by
  have h1 : inN (a : Int) lim = true := inN_nat ha
  have h2 : inN (b : Int) lim = true := inN_nat hb
  show (if (inN (a : Int) lim && inN (b : Int) lim) = true then _ else _) = _
  rw [h1, h2]
  show R.ok (List.map (fun (i : Nat) => PyData.int ((a : Int) + i)) (List.range ((b : Int) - a).toNat)) = _
  have : ((b : Int) - a).toNat = b - a := by omega
  rw [this, List.range'_eq_map_range, List.map_map]
  have e : (fun (i : Nat) => PyData.int ((a : Int) + i)) = nD ∘ fun x => a + x := by
    funext i
    show PyData.int ((a : Int) + i) = PyData.int ((a + i : Nat) : Int)
    rw [Int.natCast_add]
  rw [e]
/-! ### comprehensions -/
/-- a walk over Lean values that keeps some -/
def selL {α : Type} (g : α → R (Option PyData)) : List α → R (List PyData)
  | [] => .ok []
  | x :: xs => (g x).bind fun o => map1 (selL g xs) fun r => match o with
    | some d => d :: r
    | none => r
theorem compL_sel {α : Type} {bnd : PyData → R Env} {cond : Env → R Bool} {elt : Env → R PyData} {enc : α → PyData} : ∀ {xs : List α}, compL bnd cond elt (xs.map enc) = selL (fun x => (bnd (enc x)).bind fun ρ => (cond ρ).bind fun b => if b = true then map1 (elt ρ) some else .ok none) xs
  | [] => rfl
  | x :: xs => by
    rw [List.map_cons]
    unfold compL selL
    cases bnd (enc x) with
    | ok ρ =>
      rw [b_ok, b_ok]
      cases h2 : cond ρ with
      | ok b =>
        rw [b_ok, b_ok]
        cases b with
        | true =>
          rw [if_pos rfl, if_pos rfl]
          cases h3 : elt ρ with
          | ok d => rw [b_ok, m_ok, b_ok, compL_sel (xs := xs)]
          | err x => rfl
          | bad => rfl
        | false =>
          rw [if_neg (by simp), if_neg (by simp), b_ok, compL_sel (xs := xs)]
          cases selL _ xs <;> rfl
      | err x => rfl
      | bad => rfl
    | err x => rfl
    | bad => rfl
theorem compL_raw {bnd : PyData → R Env} {cond : Env → R Bool} {elt : Env → R PyData} {xs : List PyData} : compL bnd cond elt xs = selL (fun x => (bnd x).bind fun ρ => (cond ρ).bind fun b => if b = true then map1 (elt ρ) some else .ok none) xs := by
  have := compL_sel (bnd := bnd) (cond := cond) (elt := elt) (enc := id) (xs := xs)
  rwa [List.map_id] at this
theorem selL_congr {α : Type} {g g' : α → R (Option PyData)} : ∀ {xs : List α}, (∀ x ∈ xs, g x = g' x) → selL g xs = selL g' xs
  | [], _ => rfl
  | x :: xs, h => by
    unfold selL
    rw [h x List.mem_cons_self, selL_congr fun y hy => h y (List.mem_cons_of_mem _ hy)]
theorem selL_some {α : Type} (f : α → PyData) : ∀ (xs : List α), selL (fun x => .ok (some (f x))) xs = .ok (xs.map f)
  | [] => rfl
  | x :: xs => by
    unfold selL
    rw [b_ok, selL_some f xs, m_ok]
    rfl
theorem selL_if {α : Type} (c : α → Bool) (f : α → PyData) : ∀ (xs : List α), selL (fun x => if c x = true then .ok (some (f x)) else .ok none) xs = .ok ((xs.filter c).map f)
  | [] => rfl
  | x :: xs => by
    unfold selL
    rw [selL_if c f xs]
    cases h : c x with
    | true => rw [if_pos rfl, b_ok, m_ok, List.filter_cons_of_pos h]; rfl
    | false => rw [if_neg (by simp), b_ok, m_ok, List.filter_cons_of_neg (by simp [h])]
/-- a walk in which each step gives, under what is known of its item -/
theorem selL_ok {α : Type} {g : α → R (Option PyData)} (c : α → Bool) (f : α → PyData) {xs : List α} (h : ∀ x ∈ xs, g x = if c x = true then .ok (some (f x)) else .ok none) : selL g xs = .ok ((xs.filter c).map f) := by
  rw [selL_congr h, selL_if]
theorem selL_all {α : Type} {g : α → R (Option PyData)} (f : α → PyData) {xs : List α} (h : ∀ x ∈ xs, g x = .ok (some (f x))) : selL g xs = .ok (xs.map f) := by
  rw [selL_congr h, selL_some]
/-- .. of two clauses -/
theorem flatL_map {α : Type} {g : PyData → R (List PyData)} {enc : α → PyData} (f : α → List PyData) : ∀ {xs : List α}, (∀ x ∈ xs, g (enc x) = .ok (f x)) → flatL g (xs.map enc) = .ok (xs.flatMap f)
  | [], _ => rfl
  | x :: xs, h => by
    rw [List.map_cons]
    unfold flatL
    rw [h x List.mem_cons_self, b_ok, flatL_map f fun y hy => h y (List.mem_cons_of_mem _ hy), m_ok, List.flatMap_cons]
def flatT {α : Type} (g : α → R (List PyData)) : List α → R (List PyData)
  | [] => .ok []
  | x :: xs => (g x).bind fun l => map1 (flatT g xs) (l ++ ·)
theorem flatL_sel {α : Type} {g : PyData → R (List PyData)} {enc : α → PyData} : ∀ {xs : List α}, flatL g (xs.map enc) = flatT (fun x => g (enc x)) xs
  | [] => rfl
  | x :: xs => by
    rw [List.map_cons]
    unfold flatL flatT
    rw [flatL_sel (xs := xs)]
theorem flatT_some {α : Type} (f : α → List PyData) : ∀ (xs : List α), flatT (fun x => .ok (f x)) xs = .ok (xs.flatMap f)
  | [] => rfl
  | x :: xs => by
    unfold flatT
    rw [b_ok, flatT_some f xs, m_ok, List.flatMap_cons]
theorem flatT_ok {α : Type} {g : α → R (List PyData)} (f : α → List PyData) {xs : List α} (h : ∀ x ∈ xs, g x = .ok (f x)) : flatT g xs = .ok (xs.flatMap f) := by
  have : ∀ {ys : List α}, (∀ x ∈ ys, g x = .ok (f x)) → flatT g ys = flatT (fun x => .ok (f x)) ys := fun {ys} hy => by
    induction ys with
    | nil => rfl
    | cons y ys ih =>
      unfold flatT
      rw [hy y List.mem_cons_self, ih fun z hz => hy z (List.mem_cons_of_mem _ hz)]
  rw [this h, flatT_some]
/-! ### built-ins -/
theorem bools_map {α : Type} (c : α → Bool) : ∀ xs : List α, boolsOf (xs.map fun x => PyData.bool (c x)) = some (xs.map c)
  | [] => rfl
  | x :: xs => by rw [List.map_cons, boolsOf, bools_map c xs]; rfl
theorem allD_m {α : Type} (c : α → Bool) (xs : List α) : allD (.list (xs.map fun x => PyData.bool (c x))) = .ok (.fz (.bool (xs.all c))) := by
  show (match boolsOf _ with | some bs => kB (bs.all id) | none => .bad) = _
  rw [bools_map]
  show R.ok (Vl.fz (.bool ((xs.map c).all id))) = _
  rw [List.all_map]
  rfl
theorem anyD_m {α : Type} (c : α → Bool) (xs : List α) : anyD (.list (xs.map fun x => PyData.bool (c x))) = .ok (.fz (.bool (xs.any c))) := by
  show (match boolsOf _ with | some bs => kB (bs.any id) | none => .bad) = _
  rw [bools_map]
  show R.ok (Vl.fz (.bool ((xs.map c).any id))) = _
  rw [List.any_map]
  rfl
theorem ints_map {α : Type} (c : α → Int) : ∀ xs : List α, intsOf (xs.map fun x => PyData.int (c x)) = some (xs.map c)
  | [] => rfl
  | x :: xs => by rw [List.map_cons, intsOf, ints_map c xs]; rfl
theorem ints_n (xs : List Nat) : intsOf (xs.map nD) = some (xs.map fun (i : Nat) => (i : Int)) := ints_map _ xs
theorem sumD_n (xs : List Nat) : sumD (.list (xs.map nD)) = .ok (.fz (.int ((xs.sum : Nat) : Int))) := by
  show (match intsOf _ with | some ns => kI ns.sum | none => .bad) = _
  rw [ints_n]
  show R.ok (Vl.fz (.int _)) = _
  congr 3
  induction xs with
  | nil => rfl
  | cons x xs ih => rw [List.map_cons, List.sum_cons, List.sum_cons, ih]; omega
/-! ### indices and slices -/
theorem atI_f {α : Type} (f : α → PyData) (xs : List α) (i : Nat) : L2.atI (xs.map f) (i : Int) = (xs[i]?).map f := by rw [atI_cast, List.getElem?_map]
theorem atI_at {α : Type} (f : α → PyData) {xs : List α} {i : Nat} {x : α} (h : xs[i]? = some x) : L2.atI (xs.map f) (i : Int) = some (f x) := by rw [atI_f, h]; rfl
theorem atI_d {α : Type} [Inhabited α] (f : α → PyData) {xs : List α} {i : Nat} (h : i < xs.length) : L2.atI (xs.map f) (i : Int) = some (f xs[i]!) := by
  rw [atI_f, List.getElem?_eq_getElem h, getElem!_pos xs i h]; rfl
theorem cut_nn {α : Type} (xs : List α) (i j : Nat) : cut xs (some (i : Int)) (some (j : Int)) = (xs.take j).drop i := by rw [cut_ft xs (by omega) (by omega)]; rfl
theorem cut_n1 {α : Type} (xs : List α) (i : Nat) : cut xs (some (i : Int)) none = xs.drop i := by rw [cut_from xs (by omega)]; rfl
theorem cut_n2 {α : Type} (xs : List α) (i : Nat) : cut xs none (some (i : Int)) = xs.take i := by rw [cut_to xs (by omega)]; rfl
theorem cut_map {α β : Type} (f : α → β) (xs : List α) (lo hi : Option Int) : cut (xs.map f) lo hi = (cut xs lo hi).map f := by
  unfold cut
  rw [List.length_map, List.map_take, List.map_drop]
/-! ### loops -/
/-- a loop over Lean values: I s ρ holds of a state and the slots -/
theorem forL_st {α σ : Type} {bnd : PyData → Env → R Env} {body : Env → R Out} {enc : α → PyData} (I : σ → Env → Prop) (step : σ → α → σ) : ∀ {xs : List α} {s0 : σ} {ρ0 : Env}, I s0 ρ0 →
    (∀ s ρ x, x ∈ xs → I s ρ → ∃ ρ1 ρ2, bnd (enc x) ρ = .ok ρ1 ∧ body ρ1 = .ok (.nx ρ2) ∧ I (step s x) ρ2) → ∃ ρ', forL bnd body (xs.map enc) ρ0 = .ok (.nx ρ') ∧ I (xs.foldl step s0) ρ'
  | [], s0, ρ0, h0, _ => ⟨ρ0, rfl, h0⟩
  | x :: xs, s0, ρ0, h0, h => by
    obtain ⟨ρ1, ρ2, h1, h2, h3⟩ := h s0 ρ0 x List.mem_cons_self h0
    obtain ⟨ρ', h4, h5⟩ := forL_st I step (xs := xs) h3 fun s ρ y hy => h s ρ y (List.mem_cons_of_mem _ hy)
    refine ⟨ρ', ?_, h5⟩
    rw [List.map_cons]
    unfold forL
    rw [h1, b_ok, h2, b_ok]
    exact h4
/-- a fold that may end early -/
def foldE {α σ ε : Type} (step : σ → α → σ ⊕ ε) : List α → σ → σ ⊕ ε
  | [], s => .inl s
  | x :: xs, s => match step s x with
    | .inl s' => foldE step xs s'
    | .inr e => .inr e
/-- a loop that may return -/
theorem forL_ret {α σ : Type} {bnd : PyData → Env → R Env} {body : Env → R Out} {enc : α → PyData} (I : σ → Env → Prop) (step : σ → α → σ ⊕ Vl) : ∀ {xs : List α} {s0 : σ} {ρ0 : Env}, I s0 ρ0 →
    (∀ s ρ x, x ∈ xs → I s ρ → ∃ ρ1, bnd (enc x) ρ = .ok ρ1 ∧ match step s x with
      | .inl s' => ∃ ρ2, body ρ1 = .ok (.nx ρ2) ∧ I s' ρ2
      | .inr v => body ρ1 = .ok (.rt v)) →
    match foldE step xs s0 with
      | .inl s' => ∃ ρ', forL bnd body (xs.map enc) ρ0 = .ok (.nx ρ') ∧ I s' ρ'
      | .inr v => forL bnd body (xs.map enc) ρ0 = .ok (.rt v)
  | [], s0, ρ0, h0, _ => ⟨ρ0, rfl, h0⟩
  | x :: xs, s0, ρ0, h0, h => by
    obtain ⟨ρ1, h1, h2⟩ := h s0 ρ0 x List.mem_cons_self h0
    have e : ∀ r, body ρ1 = r → forL bnd body ((x :: xs).map enc) ρ0 = r.bind fun o => match o with
        | .nx ρ2 => forL bnd body (xs.map enc) ρ2
        | .rt v => .ok (.rt v) := fun r hr => by
      rw [List.map_cons]
      show (bnd (enc x) ρ0).bind _ = _
      rw [h1, b_ok, hr]
      all_goals (cases r with
        | ok o => cases o <;> rfl
        | err z => rfl
        | bad => rfl)
    unfold foldE
    cases hs : step s0 x with
    | inl s' =>
      rw [hs] at h2
      obtain ⟨ρ2, h2, h3⟩ := h2
      have ih := forL_ret I step (xs := xs) h3 fun s ρ y hy => h s ρ y (List.mem_cons_of_mem _ hy)
      have e := e _ h2
      simp only [b_ok] at e
      show (match foldE step xs s' with | _ => _)
      rw [e]
      exact ih
    | inr v =>
      rw [hs] at h2
      have e := e _ h2
      simp only [b_ok] at e
      exact e
/-- a loop that goes through: nothing but what it keeps is known -/
theorem forL_all {α : Type} {bnd : PyData → Env → R Env} {body : Env → R Out} {enc : α → PyData} (I : Env → Prop) {xs : List α} {ρ0 : Env} (h0 : I ρ0)
    (h : ∀ ρ x, x ∈ xs → I ρ → ∃ ρ1 ρ2, bnd (enc x) ρ = .ok ρ1 ∧ body ρ1 = .ok (.nx ρ2) ∧ I ρ2) : ∃ ρ', forL bnd body (xs.map enc) ρ0 = .ok (.nx ρ') ∧ I ρ' := by
  obtain ⟨ρ', h1, h2⟩ := forL_st (σ := Unit) (fun _ => I) (fun _ _ => ()) (s0 := ()) h0 fun s ρ x hx hI => h ρ x hx hI
  exact ⟨ρ', h1, h2⟩
end Wv
/-! The operations at what is known of their data: each by its case alone. -/
namespace Wv
open PySem PySem.Spec PyProof.Rows L2
section
variable {xs ys ds : List PyData} {d e : PyData} {i j : Int} {b c : Bool} {x y : Str}
theorem q_tn : truthD .none = .ok false := rfl
theorem q_tb : truthD (.bool b) = .ok b := rfl
theorem q_ti : truthD (.int i) = .ok (i != 0) := rfl
theorem q_tl : truthD (.list xs) = .ok (!xs.isEmpty) := rfl
theorem q_tt : truthD (.tuple xs) = .ok (!xs.isEmpty) := rfl
theorem q_addi : addD (.int i) (.int j) = .ok (.fz (.int (i + j))) := rfl
theorem q_adds : addD (.str x) (.str y) = if x.length + y.length ≤ lim then .ok (.fz (.str (x ++ y))) else .bad := rfl
theorem q_addl : addD (.list xs) (.list ys) = if xs.length + ys.length ≤ lim then .ok (.ow (.list (xs ++ ys))) else .bad := rfl
theorem q_addt : addD (.tuple xs) (.tuple ys) = if xs.length + ys.length ≤ lim then .ok (.fz (.tuple (xs ++ ys))) else .bad := rfl
theorem q_sub : subD (.int i) (.int j) = .ok (.fz (.int (i - j))) := rfl
theorem q_mul : mulD (.int i) (.int j) = if (smallI i || smallI j) = true then .ok (.fz (.int (i * j))) else .bad := rfl
theorem q_fdiv : fdivD (.int i) (.int j) = if (decide (0 < j) && leN j 1073741823) = true then .ok (.fz (.int (i / j))) else .bad := rfl
theorem q_mod : modD (.int i) (.int j) = if 0 < j then .ok (.fz (.int (i % j))) else .bad := rfl
theorem q_pow : powD (.int i) (.int j) = if (decide (0 ≤ j) && leN j 1000 && smallI i) = true then .ok (.fz (.int (i ^ j.toNat))) else .bad := rfl
theorem q_le : leD (.int i) (.int j) = .ok (.fz (.bool (decide (i ≤ j)))) := rfl
theorem q_gt : gtD (.int i) (.int j) = .ok (.fz (.bool (decide (j < i)))) := rfl
theorem q_ge : geD (.int i) (.int j) = .ok (.fz (.bool (decide (j ≤ i)))) := rfl
theorem q_neg : negD (.int i) = .ok (.fz (.int (-i))) := rfl
theorem q_inl : isinD d (.list xs) = inD d xs := by cases d <;> rfl
theorem q_int : isinD d (.tuple xs) = inD d xs := by cases d <;> rfl
theorem q_ins : isinD (.str x) (.str y) = .ok (!(Builtin.Str.occurrences y x 0 y.length 1).isEmpty) := rfl
theorem q_add : op2D .add d e = addD d e := rfl
theorem q_sub2 : op2D .sub d e = subD d e := rfl
theorem q_mul2 : op2D .mul d e = mulD d e := rfl
theorem q_fdiv2 : op2D .fdiv d e = fdivD d e := rfl
theorem q_mod2 : op2D .mod d e = modD d e := rfl
theorem q_pow2 : op2D .pow d e = powD d e := rfl
theorem q_eq : op2D .eq d e = map1 (eqD d e) fun b => .fz (.bool b) := rfl
theorem q_ne : op2D .ne d e = map1 (eqD d e) fun b => .fz (.bool (!b)) := rfl
theorem q_lt : op2D .lt d e = map1 (ltD d e) fun b => .fz (.bool b) := rfl
theorem q_le2 : op2D .le d e = leD d e := rfl
theorem q_gt2 : op2D .gt d e = gtD d e := rfl
theorem q_ge2 : op2D .ge d e = geD d e := rfl
theorem q_in : op2D .isin d e = map1 (isinD d e) fun b => .fz (.bool b) := rfl
theorem q_ni : op2D .notin d e = map1 (isinD d e) fun b => .fz (.bool (!b)) := rfl
theorem q_is : op2D .is_ d .none = .ok (.fz (.bool (isNon d))) := rfl
theorem q_isn : op2D .isnot d .none = .ok (.fz (.bool (!isNon d))) := rfl
theorem q_non : isNon .none = true := rfl
theorem q_nob : isNon (.bool b) = false := rfl
theorem q_noi : isNon (.int i) = false := rfl
theorem q_nos : isNon (.str x) = false := rfl
theorem q_nol : isNon (.list xs) = false := rfl
theorem q_not : isNon (.tuple xs) = false := rfl
theorem q_ixl : ixD (.list xs) (.int i) = match L2.atI xs i with
  | some d => .ok (.fz d)
  | none => .bad := rfl
theorem q_ixt : ixD (.tuple xs) (.int i) = match L2.atI xs i with
  | some d => .ok (.fz d)
  | none => .bad := rfl
theorem q_ixs : ixD (.str x) (.int i) = match L2.atI x.cps.toList i with
  | some c => .ok (.fz (.str ⟨#[c]⟩))
  | none => .bad := rfl
theorem q_bn0 : bndD [] = .ok none := rfl
theorem q_bn1 : bndD [.int i] = .ok (some i) := rfl
theorem q_sll {l h : Option Int} : slD (.list xs) l h = .ok (.ow (.list (cut xs l h))) := rfl
theorem q_slt {l h : Option Int} : slD (.tuple xs) l h = .ok (.fz (.tuple (cut xs l h))) := rfl
theorem q_sls {l h : Option Int} : slD (.str x) l h = .ok (.fz (.str ⟨(cut x.cps.toList l h).toArray⟩)) := rfl
theorem q_lenl : lenD (.list xs) = .ok (.fz (.int (xs.length : Nat))) := rfl
theorem q_lent : lenD (.tuple xs) = .ok (.fz (.int (xs.length : Nat))) := rfl
theorem q_lens : lenD (.str x) = .ok (.fz (.int (x.length : Nat))) := rfl
theorem q_tul : tupleD (.list xs) = .ok (.fz (.tuple xs)) := rfl
theorem q_tut : tupleD (.tuple xs) = .ok (.fz (.tuple xs)) := rfl
theorem q_lil : listD (.list xs) = .ok (.ow (.list xs)) := rfl
theorem q_lit : listD (.tuple xs) = .ok (.ow (.list xs)) := rfl
theorem q_ini : intD (.int i) = .ok (.fz (.int i)) := rfl
theorem q_inb : intD (.bool b) = .ok (.fz (.int (if b = true then 1 else 0))) := rfl
theorem q_str : strD (.int i) = if smallI i = true then .ok (.fz (.str (toString i))) else .bad := rfl
theorem q_rep : reprD (.bool b) = .ok (.fz (.str (if b = true then strT else strF))) := rfl
theorem q_itl : itemsD (.list xs) = .ok xs := rfl
theorem q_itt : itemsD (.tuple xs) = .ok xs := rfl
theorem q_its : itemsD (.str x) = .ok (x.cps.toList.map fun c => .str ⟨#[c]⟩) := rfl
theorem q_enl : enumD (.list xs) = .ok (enumL xs) := rfl
theorem q_ent : enumD (.tuple xs) = .ok (enumL xs) := rfl
theorem q_zll : zipD (.list xs) (.list ys) = .ok (zipL xs ys) := rfl
theorem q_ztt : zipD (.tuple xs) (.tuple ys) = .ok (zipL xs ys) := rfl
theorem q_app : muD .append (.list xs) [d] = if xs.length < lim then .ok (.list (xs ++ [d])) else .bad := rfl
theorem q_ins2 : muD .insert (.list xs) [.int i, d] = if xs.length < lim ∧ 0 ≤ i ∧ i ≤ xs.length then .ok (.list (xs.take i.toNat ++ d :: xs.drop i.toNat)) else .bad := rfl
theorem q_set : setD (.list xs) (.int i) d = match L2.ixN xs.length i with
  | some j => .ok (.list (xs.set j d))
  | none => .bad := rfl
theorem q_revl : revD (.list xs) = .ok (.ow (.list xs.reverse)) := rfl
theorem q_revt : revD (.tuple xs) = .ok (.fz (.tuple xs.reverse)) := rfl
theorem q_repd : repD d (.int i) = if inN i lim = true then .ok (.ow (.list (List.replicate i.toNat d))) else .bad := rfl
theorem q_isi {ts : List Ty} (h : isDict d = false) : isiD ts d = .ok (.fz (.bool (ts.any fun t => tyB t d))) := by unfold isiD; rw [h]; rfl
theorem q_isin {ts : List Ty} : isiD ts .none = .ok (.fz (.bool (ts.any fun t => tyB t .none))) := rfl
theorem q_isib {ts : List Ty} : isiD ts (.bool b) = .ok (.fz (.bool (ts.any fun t => tyB t (.bool b)))) := rfl
theorem q_isii {ts : List Ty} : isiD ts (.int i) = .ok (.fz (.bool (ts.any fun t => tyB t (.int i)))) := rfl
theorem q_isis {ts : List Ty} : isiD ts (.str x) = .ok (.fz (.bool (ts.any fun t => tyB t (.str x)))) := rfl
theorem q_isil {ts : List Ty} : isiD ts (.list xs) = .ok (.fz (.bool (ts.any fun t => tyB t (.list xs)))) := rfl
theorem q_isit {ts : List Ty} : isiD ts (.tuple xs) = .ok (.fz (.bool (ts.any fun t => tyB t (.tuple xs)))) := rfl
theorem q_bi (f : Bi) : biD f [d] = bi1 f d := rfl
theorem q_b1 : bi1 .len d = lenD d := rfl
theorem q_b2 : bi1 .all d = allD d := rfl
theorem q_b3 : bi1 .any d = anyD d := rfl
theorem q_b4 : bi1 .sum d = sumD d := rfl
theorem q_b5 : bi1 .max d = maxD d := rfl
theorem q_b6 : bi1 .min d = minD d := rfl
theorem q_b7 : bi1 .sorted d = sortD d := rfl
theorem q_b8 : bi1 .tuple d = tupleD d := rfl
theorem q_b9 : bi1 .list d = listD d := rfl
theorem q_b10 : bi1 .int d = intD d := rfl
theorem q_b11 : bi1 .str d = strD d := rfl
theorem q_b12 : bi1 .repr d = reprD d := rfl
theorem q_bt1 {k : Nat} {ρ : Env} : bindT [k] false d ρ = .ok (ρ.set k (some (.fz d))) := rfl
theorem q_bt2 {k m : Nat} {ρ : Env} : bindT [k, m] true (.tuple [d, e]) ρ = .ok ((ρ.set k (some (.fz d))).set m (some (.fz e))) := rfl
theorem q_btp {k m : Nat} {ρ : Env} {p : Nat × Nat} : bindT [k, m] true (prD p) ρ = .ok ((ρ.set k (some (.fz (.int (p.1 : Nat))))).set m (some (.fz (.int (p.2 : Nat))))) := rfl
theorem q_dgt {kvs : List (Str × Gc)} {v : Vl} : dgetD kvs (.str x) v = match kvs.lookup x with
  | some c => .ok (.fz c.d)
  | none => .ok v := rfl
theorem pl_n (n : Nat) : plain (nD n) = .ok (nD n) := rfl
theorem pl_pr (p : Nat × Nat) : plain (prD p) = .ok (prD p) := rfl
theorem pl_wb (w : Web) : plain (wbD w) = .ok (wbD w) := rfl
theorem pl_tn (r : List Nat) : plain (tnD r) = .ok (tnD r) := rfl
theorem q_nD (n : Nat) : nD n = .int (n : Nat) := rfl
end
/-- in a row of Lean values -/
theorem in_of {α : Type} [DecidableEq α] {f : α → PyData} {k : Nat} (h : GoodD f k) (hk : k ≤ 64) {I : α → List α → Bool} (hI : ∀ a l, I a l = true ↔ a ∈ l) (a : α) (l : List α) : inD (f a) (l.map f) = .ok (I a l) := by
  rw [h.isIn hk]
  congr 1
  rw [Bool.eq_iff_iff, decide_eq_true_eq, hI]
theorem in_pr (p : Nat × Nat) (l : List (Nat × Nat)) : inD (prD p) (l.map prD) = .ok (decide (p ∈ l)) := in_of gd_pr (by decide) (fun a l => decide_eq_true_iff) p l
theorem in_n (p : Nat) (l : List Nat) : inD (nD p) (l.map nD) = .ok (decide (p ∈ l)) := in_of gd_n (by decide) (fun a l => decide_eq_true_iff) p l
theorem in_i (p : Nat) (l : List Nat) : inD (.int (p : Nat)) (l.map nD) = .ok (decide (p ∈ l)) := in_n p l
theorem in_ni (p : Nat) (l : List Nat) : inD (.int (p : Nat)) (l.map fun i => PyData.int (i : Nat)) = .ok (decide (p ∈ l)) := in_n p l
theorem in_tn (p : List Nat) (l : List (List Nat)) : inD (tnD p) (l.map tnD) = .ok (decide (p ∈ l)) := in_of gd_tn (by decide) (fun a l => decide_eq_true_iff) p l
theorem in_wb (p : Web) (l : List Web) : inD (wbD p) (l.map wbD) = .ok (decide (p ∈ l)) := in_of gd_wb (by decide) (fun a l => decide_eq_true_iff) p l
theorem eq_pr (p q : Nat × Nat) : eqD (prD p) (prD q) = .ok (decide (p = q)) := gd_pr.eq (by decide) p q
theorem eq_wb (p q : Web) : eqD (wbD p) (wbD q) = .ok (decide (p = q)) := gd_wb.eq (by decide) p q
theorem eq_i (p q : Nat) : eqD (.int (p : Nat)) (.int (q : Nat)) = .ok (decide (p = q)) := gd_n.eq (by decide) p q
theorem eq_tn (p q : List Nat) : eqD (.tuple (p.map nD)) (.tuple (q.map nD)) = .ok (decide (p = q)) := gd_tn.eq (by decide) p q
theorem eq_ln (p q : List Nat) : eqD (.list (p.map nD)) (.list (q.map nD)) = .ok (decide (p = q)) := gd_ln.eq (by decide) p q
theorem eq_tp (p q : List (Nat × Nat)) : eqD (.tuple (p.map prD)) (.tuple (q.map prD)) = .ok (decide (p = q)) := gd_ties.eq (by decide) p q
theorem eq_l0 {α : Type} (f : α → PyData) (p : List α) : eqD (.list (p.map f)) (.list []) = .ok p.isEmpty := by
  have e : eqOk (.list (p.map f)) (.list []) = true := by
    unfold eqOk
    simp only [isDict, Bool.not_false, Bool.true_and, decide_eq_true_eq]
    exact Nat.le_trans (Nat.min_le_right _ _) (by decide)
  unfold eqD
  rw [if_pos e]
  cases p <;> simp [PyData.eqv, PyData.eqvAll]
theorem eq_l00 : eqD (.list []) (.list []) = .ok true := rfl
theorem eq_nn : eqD .none .none = .ok true := rfl
theorem str_tf (a b : Bool) : ((if a = true then strT else strF) == (if b = true then strT else strF)) = (a == b) := by cases a <;> cases b <;> decide +kernel
theorem all_tt {α : Type} (l : List α) : (l.all fun _ => true) = true := by induction l <;> simp_all
theorem any_ff {α : Type} (l : List α) : (l.any fun _ => false) = false := by induction l <;> simp_all
theorem and_b (c t : Bool) : (if c = true then R.ok (Vl.fz (.bool t)) else R.ok (Vl.fz (.bool c))) = .ok (.fz (.bool (c && t))) := by cases c <;> rfl
theorem or_b (c t : Bool) : (if c = true then R.ok (Vl.fz (.bool c)) else R.ok (Vl.fz (.bool t))) = .ok (.fz (.bool (c || t))) := by cases c <;> rfl
theorem b_ite {α β : Type} {c : Prop} [Decidable c] (a b : R α) (f : α → R β) : (if c then a else b).bind f = if c then a.bind f else b.bind f := by split <;> rfl
theorem k_ite {α : Type} {c : Prop} [Decidable c] (a b : R α) : (if c then a else b).calm = if c then a.calm else b.calm := by split <;> rfl
theorem m_ite {α β : Type} {c : Prop} [Decidable c] (a b : R α) (f : α → β) : map1 (if c then a else b) f = if c then map1 a f else map1 b f := by split <;> rfl
theorem dec_t (b : Bool) : decide (b = true) = b := by cases b <;> rfl
end Wv
/-! Order of data that are Lean values; sorting. -/
namespace Wv
open PySem PySem.Spec PyProof.Rows L2
structure OrdD {α : Type} [DecidableEq α] (f : α → PyData) (k : Nat) (lt : α → α → Bool) : Prop where
  good : GoodD f k
  al : ∀ a b, W.alike (f a) (f b) = true
  lt_eq : ∀ a b, W.dataLt (f a) (f b) = lt a b
section
variable {α β : Type} [DecidableEq α] [DecidableEq β] {f : α → PyData} {g : β → PyData} {k m : Nat} {lt : α → α → Bool} {lt' : β → β → Bool}
def ltList (lt : α → α → Bool) : List α → List α → Bool
  | [], [] => false
  | [], _ :: _ => true
  | _ :: _, [] => false
  | x :: xs, y :: ys => if x = y then ltList lt xs ys else lt x y
theorem alikeAll_f (h : OrdD f k lt) : ∀ xs ys : List α, W.alikeAll (xs.map f) (ys.map f) = true
  | [], _ => by rw [List.map_nil, W.alikeAll]
  | _ :: _, [] => by rw [List.map_nil, List.map_cons, W.alikeAll]
  | x :: xs, y :: ys => by
    rw [List.map_cons, List.map_cons, W.alikeAll, h.al x y, alikeAll_f h xs ys]
    rfl
theorem lexAll_f (h : OrdD f k lt) : ∀ xs ys : List α, PyProof.Rows.lexLt itemOrd (W.keyToksAll (xs.map f)) (W.keyToksAll (ys.map f)) = ltList lt xs ys
  | [], [] => lex_irrefl _
  | [], y :: ys => by
    rw [List.map_nil, List.map_cons, W.toks_all_cons]
    simp only [W.keyToksAll]
    rw [lex_diff (O := itemOrd) (by simp)]
    rfl
  | x :: xs, [] => by
    rw [List.map_nil, List.map_cons, W.toks_all_cons]
    simp only [W.keyToksAll]
    rw [lex_diff (O := itemOrd) (by simp)]
    rfl
  | x :: xs, y :: ys => by
    rw [List.map_cons, List.map_cons, ltList]
    by_cases e : x = y
    · rw [if_pos e, W.dataLt_all_yes (h.al x y) (by rw [h.good.eqv, decide_eq_true_eq]; exact e), lexAll_f h xs ys]
    · rw [if_neg e, W.dataLt_all_no (h.al x y) (by rw [h.good.eqv, decide_eq_false_iff_not]; exact e)]
      exact h.lt_eq x y
theorem OrdD.lst (h : OrdD f k lt) : OrdD (fun xs : List α => PyData.list (xs.map f)) (k + 1) (ltList lt) where
  good := h.good.lst
  al xs ys := by show W.alike (.list _) (.list _) = true; simp only [W.alike]; exact alikeAll_f h xs ys
  lt_eq xs ys := (W.dataLt_list _ _).trans (lexAll_f h xs ys)
theorem OrdD.tup (h : OrdD f k lt) : OrdD (fun xs : List α => PyData.tuple (xs.map f)) (k + 1) (ltList lt) where
  good := h.good.tup
  al xs ys := by show W.alike (.tuple _) (.tuple _) = true; simp only [W.alike]; exact alikeAll_f h xs ys
  lt_eq xs ys := (W.dataLt_tuple _ _).trans (lexAll_f h xs ys)
def ltTwo (lt : α → α → Bool) (lt' : β → β → Bool) (p q : α × β) : Bool := if p.1 = q.1 then lt' p.2 q.2 else lt p.1 q.1
theorem OrdD.two (h : OrdD f k lt) (h2 : OrdD g m lt') : OrdD (fun p : α × β => PyData.tuple [f p.1, g p.2]) (max k m + 1) (ltTwo lt lt') where
  good := h.good.two h2.good
  al p q := by
    show W.alike (.tuple [_, _]) (.tuple [_, _]) = true
    simp only [W.alike, W.alikeAll, h.al, h2.al, Bool.and_self]
  lt_eq p q := by
    refine (W.dataLt_tuple _ _).trans ?_
    unfold ltTwo
    by_cases e : p.1 = q.1
    · rw [if_pos e, W.dataLt_all_yes (h.al p.1 q.1) (by rw [h.good.eqv, decide_eq_true_eq]; exact e)]
      by_cases e2 : p.2 = q.2
      · rw [W.dataLt_all_yes (h2.al p.2 q.2) (by rw [h2.good.eqv, decide_eq_true_eq]; exact e2), lex_irrefl, e2]
        exact ((W.dataLt_self _).symm.trans (h2.lt_eq q.2 q.2))
      · rw [W.dataLt_all_no (h2.al p.2 q.2) (by rw [h2.good.eqv, decide_eq_false_iff_not]; exact e2)]
        exact h2.lt_eq p.2 q.2
    · rw [if_neg e, W.dataLt_all_no (h.al p.1 q.1) (by rw [h.good.eqv, decide_eq_false_iff_not]; exact e)]
      exact h.lt_eq p.1 q.1
/-- sorted(..) -/
def sortBy (lt : α → α → Bool) (l : List α) : List α := l.mergeSort fun a b => !lt b a
theorem OrdD.sort (h : OrdD f k lt) (hk : k ≤ 64) (sh : (∀ a, tupB (f a) = true) ∨ ∀ a, othB (f a) = true) (l : List α) : sortD (.list (l.map f)) = .ok (.ow (.list ((sortBy lt l).map f))) := by
  have ok : sortOk (l.map f) = true := by
    unfold sortOk alikeB
    have h1 : ((l.map f).all fun d => (l.map f).all fun e => W.alike d e) = true := by
      rw [List.all_eq_true]
      intro d hd
      rw [List.all_eq_true]
      intro e he
      obtain ⟨a, _, rfl⟩ := List.mem_map.mp hd
      obtain ⟨b, _, rfl⟩ := List.mem_map.mp he
      exact h.al a b
    have h2 : ((l.map f).all fun d => decide (d.depth ≤ 64)) = true := by
      rw [List.all_eq_true]
      intro d hd
      obtain ⟨a, _, rfl⟩ := List.mem_map.mp hd
      exact decide_eq_true (Nat.le_trans (h.good.dep a) hk)
    have h3 : ((l.map f).all tupB || (l.map f).all othB) = true := by
      rw [Bool.or_eq_true, List.all_eq_true, List.all_eq_true]
      rcases sh with s | s
      · refine .inl fun d hd => ?_
        obtain ⟨a, _, rfl⟩ := List.mem_map.mp hd
        exact s a
      · refine .inr fun d hd => ?_
        obtain ⟨a, _, rfl⟩ := List.mem_map.mp hd
        exact s a
    rw [h1, h2, h3]
    rfl
  show (if sortOk (l.map f) = true then _ else _) = _
  rw [if_pos ok]
  unfold sortBy
  rw [List.map_mergeSort (s := W.dataLe false id) fun a _ b _ => by
    show (!lt b a) = !W.dataLt (f b) (f a)
    rw [h.lt_eq]]
theorem OrdD.ltT (h : OrdD f k lt) (hk : k ≤ 64) {a b : α} {xs ys : List PyData} (ha : f a = .tuple xs) (hb : f b = .tuple ys) : ltD (.tuple xs) (.tuple ys) = .ok (lt a b) := by
  have ok : ltOk (.tuple xs) (.tuple ys) = true := by
    unfold ltOk
    rw [← ha, ← hb, h.al]
    exact decide_eq_true (Nat.le_trans (h.good.dep a) hk)
  show (if ltOk (.tuple xs) (.tuple ys) = true then R.ok _ else R.bad) = _
  rw [if_pos ok, ← ha, ← hb, h.lt_eq]
end
def ltN (a b : Nat) : Bool := decide (a < b)
theorem ord_n : OrdD nD 0 ltN := ⟨gd_n, fun a b => by show W.alike (.int _) (.int _) = true; simp only [W.alike], fun a b => (W.dataLt_int _ _).trans (by unfold ltN; exact decide_eq_decide.mpr Int.ofNat_lt)⟩
def ltP : Nat × Nat → Nat × Nat → Bool := ltTwo ltN ltN
theorem ord_pr : OrdD prD 1 ltP := ord_n.two ord_n
theorem ord_ties : OrdD tiesD 2 (ltList ltP) := ord_pr.tup
theorem ord_tn : OrdD tnD 1 (ltList ltN) := ord_n.tup
def ltW (v w : Web) : Bool := ltTwo ltN (ltList ltP) (v.n, v.t) (w.n, w.t)
theorem ord_wb : OrdD wbD 3 ltW := ⟨gd_wb, fun a b => (ord_n.two ord_ties).al (a.n, a.t) (b.n, b.t), fun a b => (ord_n.two ord_ties).lt_eq (a.n, a.t) (b.n, b.t)⟩
def sortN (l : List Nat) : List Nat := sortBy ltN l
def sortP (l : List (Nat × Nat)) : List (Nat × Nat) := sortBy ltP l
def sortW (l : List Web) : List Web := sortBy ltW l
theorem sort_n (l : List Nat) : sortD (.list (l.map nD)) = .ok (.ow (.list ((sortN l).map nD))) := ord_n.sort (by decide) (.inr fun _ => rfl) l
theorem sort_p (l : List (Nat × Nat)) : sortD (.list (l.map prD)) = .ok (.ow (.list ((sortP l).map prD))) := ord_pr.sort (by decide) (.inl fun _ => rfl) l
theorem sort_w (l : List Web) : sortD (.list (l.map wbD)) = .ok (.ow (.list ((sortW l).map wbD))) := ord_wb.sort (by decide) (.inl fun _ => rfl) l
theorem lt_pr (p q : Nat × Nat) : ltD (prD p) (prD q) = .ok (ltP p q) := ord_pr.ltT (a := p) (b := q) (by decide) rfl rfl
theorem lt_wb (p q : Web) : ltD (wbD p) (wbD q) = .ok (ltW p q) := ord_wb.ltT (a := p) (b := q) (by decide) rfl rfl
theorem lt_tn (p q : List Nat) : ltD (.tuple (p.map nD)) (.tuple (q.map nD)) = .ok (ltList ltN p q) := ord_tn.ltT (a := p) (b := q) (by decide) rfl rfl
theorem sort_2 (a b : Nat) : sortD (.list [.int (a : Nat), .int (b : Nat)]) = .ok (.ow (.list ((sortN [a, b]).map nD))) := sort_n [a, b]
/-! ### strict total orders -/
structure Tot {α : Type} (lt : α → α → Bool) : Prop where
  irr : ∀ a, lt a a = false
  tr : ∀ a b c, lt a b = true → lt b c = true → lt a c = true
  tot : ∀ a b, lt a b = false → lt b a = false → a = b
section
variable {α β : Type} [DecidableEq α] [DecidableEq β] {lt : α → α → Bool} {lt' : β → β → Bool}
theorem Tot.asym (h : Tot lt) {a b : α} (q : lt a b = true) : lt b a = false := by
  cases e : lt b a with
  | false => rfl
  | true => have := h.tr a b a q e; rw [h.irr] at this; cases this
theorem tot_n : Tot ltN := ⟨fun a => by simp [ltN], fun a b c h1 h2 => by simp [ltN] at *; omega, fun a b h1 h2 => by simp [ltN] at *; omega⟩
theorem Tot.two (h : Tot lt) (h2 : Tot lt') : Tot (ltTwo lt lt') where
  irr a := by simp [ltTwo, h2.irr]
  tr a b c p q := by
    unfold ltTwo at *
    by_cases e1 : a.1 = b.1
    · rw [if_pos e1] at p
      by_cases e2 : b.1 = c.1
      · rw [if_pos e2] at q
        rw [if_pos (e1.trans e2)]
        exact h2.tr _ _ _ p q
      · rw [if_neg e2] at q
        rw [if_neg (by rw [e1]; exact e2), e1]
        exact q
    · rw [if_neg e1] at p
      by_cases e2 : b.1 = c.1
      · rw [if_neg (by rw [← e2]; exact e1), ← e2]
        exact p
      · rw [if_neg e2] at q
        have := h.tr _ _ _ p q
        rw [if_neg fun e => ?_]
        · exact this
        · rw [e] at this; rw [h.irr] at this; cases this
  tot a b p q := by
    unfold ltTwo at *
    by_cases e : a.1 = b.1
    · rw [if_pos e] at p
      rw [if_pos e.symm] at q
      exact Prod.ext e (h2.tot _ _ p q)
    · rw [if_neg e] at p
      rw [if_neg (Ne.symm e)] at q
      exact absurd (h.tot _ _ p q) e
theorem ltList_cons (x : α) (xs : List α) (y : α) (ys : List α) : ltList lt (x :: xs) (y :: ys) = if x = y then ltList lt xs ys else lt x y := rfl
theorem Tot.lst (h : Tot lt) : Tot (ltList lt) where
  irr a := by
    induction a with
    | nil => rfl
    | cons x xs ih => rw [ltList_cons, if_pos rfl]; exact ih
  tr a := by
    induction a with
    | nil =>
      intro b c p q
      cases b with
      | nil => cases p
      | cons y ys =>
        cases c with
        | nil => cases q
        | cons z zs => rfl
    | cons x xs ih =>
      intro b c p q
      cases b with
      | nil => cases p
      | cons y ys =>
        cases c with
        | nil => cases q
        | cons z zs =>
          rw [ltList_cons] at p q ⊢
          by_cases e1 : x = y
          · rw [if_pos e1] at p
            by_cases e2 : y = z
            · rw [if_pos e2] at q
              rw [if_pos (e1.trans e2)]
              exact ih ys zs p q
            · rw [if_neg e2] at q
              rw [if_neg (by rw [e1]; exact e2), e1]
              exact q
          · rw [if_neg e1] at p
            by_cases e2 : y = z
            · rw [if_neg (by rw [← e2]; exact e1), ← e2]
              exact p
            · rw [if_neg e2] at q
              have := h.tr _ _ _ p q
              rw [if_neg fun e => ?_]
              · exact this
              · rw [e] at this; rw [h.irr] at this; cases this
  tot a := by
    induction a with
    | nil =>
      intro b p q
      cases b with
      | nil => rfl
      | cons y ys => cases p
    | cons x xs ih =>
      intro b p q
      cases b with
      | nil => cases q
      | cons y ys =>
        rw [ltList_cons] at p q
        by_cases e : x = y
        · rw [if_pos e] at p
          rw [if_pos e.symm] at q
          rw [e, ih ys p q]
        · rw [if_neg e] at p
          rw [if_neg (Ne.symm e)] at q
          exact absurd (h.tot _ _ p q) e
theorem tot_p : Tot ltP := tot_n.two tot_n
theorem tot_ties : Tot (ltList ltP) := tot_p.lst
theorem tot_tn : Tot (ltList ltN) := tot_n.lst
theorem tot_w : Tot ltW := ⟨fun a => (tot_n.two tot_ties).irr _, fun a b c => (tot_n.two tot_ties).tr _ _ _, fun a b p q => by
  have := (tot_n.two tot_ties).tot _ _ p q
  cases a; cases b; cases this; rfl⟩
theorem Tot.le_tr (h : Tot lt) (a b c : α) (p : (!lt b a) = true) (q : (!lt c b) = true) : (!lt c a) = true := by
  rw [Bool.not_eq_true'] at *
  cases e : lt c a with
  | false => rfl
  | true =>
    -- c < a; not b < a; not c < b
    by_cases hab : a = b
    · rw [hab] at e; rw [e] at q; cases q
    · have hl : lt a b = true := by
        cases e2 : lt a b with
        | true => rfl
        | false => exact absurd (h.tot a b e2 p) hab
      have := h.tr _ _ _ e hl
      rw [this] at q; cases q
theorem Tot.le_tot (h : Tot lt) (a b : α) : ((!lt b a) || !lt a b) = true := by
  cases e : lt b a with
  | false => rfl
  | true => rw [h.asym e]; rfl
theorem sortBy_perm (l : List α) : (sortBy lt l).Perm l := List.mergeSort_perm l _
theorem sortBy_sorted (h : Tot lt) (l : List α) : (sortBy lt l).Pairwise fun a b => (!lt b a) = true := List.pairwise_mergeSort h.le_tr h.le_tot l
theorem sorted_eq (h : Tot lt) {l m : List α} (p : l.Perm m) (h1 : l.Pairwise fun a b => (!lt b a) = true) (h2 : m.Pairwise fun a b => (!lt b a) = true) : l = m :=
  p.eq_of_pairwise (fun a b _ _ q1 q2 => by rw [Bool.not_eq_true'] at *; exact h.tot a b q2 q1) h1 h2
/-- two orders of the same are sorted to one -/
theorem sortBy_congr (h : Tot lt) {l m : List α} (p : l.Perm m) : sortBy lt l = sortBy lt m :=
  sorted_eq h (((sortBy_perm l).trans p).trans (sortBy_perm m).symm) (sortBy_sorted h l) (sortBy_sorted h m)
theorem sortBy_id (h : Tot lt) {l : List α} (p : l.Pairwise fun a b => lt a b = true) : sortBy lt l = l :=
  sorted_eq h (sortBy_perm l) (sortBy_sorted h l) (p.imp fun q => by rw [h.asym q]; rfl)
theorem sortBy_mem {l : List α} {x : α} : x ∈ sortBy lt l ↔ x ∈ l := (sortBy_perm l).mem_iff
theorem sortBy_len (l : List α) : (sortBy lt l).length = l.length := (sortBy_perm l).length_eq
/-- rising, none twice -/
theorem sortBy_rise (h : Tot lt) {l : List α} (nd : l.Nodup) : (sortBy lt l).Pairwise fun a b => lt a b = true := by
  have h1 := sortBy_sorted h l
  have h2 : (sortBy lt l).Nodup := (sortBy_perm l).nodup_iff.mpr nd
  refine (List.pairwise_and_iff.mpr ⟨h1, h2⟩).imp fun {a b} ⟨q, ne⟩ => ?_
  cases e : lt a b with
  | true => rfl
  | false => rw [Bool.not_eq_true'] at q; exact absurd (h.tot a b e q) ne
theorem rise_nodup (h : Tot lt) {l : List α} (p : l.Pairwise fun a b => lt a b = true) : l.Nodup := p.imp fun {a b} q => by rintro rfl; rw [h.irr] at q; cases q
theorem rise_ext (h : Tot lt) {l m : List α} (h1 : l.Pairwise fun a b => lt a b = true) (h2 : m.Pairwise fun a b => lt a b = true) (e : ∀ x, x ∈ l ↔ x ∈ m) : l = m :=
  sorted_eq h ((List.perm_ext_iff_of_nodup (rise_nodup h h1) (rise_nodup h h2)).mpr e) (h1.imp fun q => by rw [h.asym q]; rfl) (h2.imp fun q => by rw [h.asym q]; rfl)
end
/-! ### whole numbers from nought on -/
theorem c_1 (a : Nat) : (a : Int) + 1 = ((a + 1 : Nat) : Int) := rfl
theorem c_add (a b : Nat) : (a : Int) + (b : Int) = ((a + b : Nat) : Int) := rfl
theorem c_modc (a b : Nat) : (a : Int) % (b : Int) = ((a % b : Nat) : Int) := rfl
theorem c_mulc (a b : Nat) : (a : Int) * (b : Int) = ((a * b : Nat) : Int) := rfl
theorem c_sub {a b : Nat} (h : b ≤ a) : (a : Int) - (b : Int) = ((a - b : Nat) : Int) := by omega
theorem c_sub1 {a : Nat} (h : 1 ≤ a) : (a : Int) - 1 = ((a - 1 : Nat) : Int) := by omega
/-! ### enumerate and zip -/
def enD {α : Type} (f : α → PyData) (p : α × Nat) : PyData := .tuple [.int (p.2 : Nat), f p.1]
def zpD {α β : Type} (f : α → PyData) (g : β → PyData) (p : α × β) : PyData := .tuple [f p.1, g p.2]
theorem enum_f {α : Type} (f : α → PyData) (xs : List α) : enumL (xs.map f) = xs.zipIdx.map (enD f) := by
  unfold enumL
  rw [List.zipIdx_map, List.map_map]
  rfl
theorem zip_f {α β : Type} (f : α → PyData) (g : β → PyData) (xs : List α) (ys : List β) : zipL (xs.map f) (ys.map g) = (xs.zip ys).map (zpD f g) := by
  unfold zipL
  rw [List.zip_map, List.map_map]
  rfl
theorem q_bte {α : Type} {f : α → PyData} {p : α × Nat} {k m : Nat} {ρ : Env} : bindT [k, m] true (enD f p) ρ = .ok ((ρ.set k (some (.fz (.int (p.2 : Nat))))).set m (some (.fz (f p.1)))) := rfl
theorem q_btz {α β : Type} {f : α → PyData} {g : β → PyData} {p : α × β} {k m : Nat} {ρ : Env} : bindT [k, m] true (zpD f g p) ρ = .ok ((ρ.set k (some (.fz (f p.1)))).set m (some (.fz (g p.2)))) := rfl
theorem tup_pr (p : Nat × Nat) : PyData.tuple [.int (p.1 : Nat), .int (p.2 : Nat)] = prD p := rfl
theorem lenset_t {row : List Nat} (h : row.length < 1000) : lensetD (.tuple (row.map nD)) = .ok (.fz (.int ((distinctI (row.map fun (i : Nat) => (i : Int))).length : Nat))) := by
  have e : lensetD (.tuple (row.map nD)) = (match intsOf (row.map nD) with
    | some ns => if ns.length < 1000 then kI (distinctI ns).length else .bad
    | none => .bad) := rfl
  rw [e, ints_n]
  show (if (row.map fun (i : Nat) => (i : Int)).length < 1000 then _ else _) = _
  rw [if_pos (by rw [List.length_map]; exact h)]
  rfl
/-! ### .. beside written numbers -/
theorem c_modl (a n : Nat) : (a : Int) % (no_index (OfNat.ofNat n) : Int) = ((a % OfNat.ofNat n : Nat) : Int) := rfl
theorem c_divl (a n : Nat) : (a : Int) / (no_index (OfNat.ofNat n) : Int) = ((a / OfNat.ofNat n : Nat) : Int) := rfl
theorem c_addl (a n : Nat) : (a : Int) + (no_index (OfNat.ofNat n) : Int) = ((a + OfNat.ofNat n : Nat) : Int) := rfl
theorem c_addr (a n : Nat) : (no_index (OfNat.ofNat n) : Int) + (a : Int) = ((OfNat.ofNat n + a : Nat) : Int) := rfl
theorem c_mull (a n : Nat) : (a : Int) * (no_index (OfNat.ofNat n) : Int) = ((a * OfNat.ofNat n : Nat) : Int) := rfl
theorem c_mulr (a n : Nat) : (no_index (OfNat.ofNat n) : Int) * (a : Int) = ((OfNat.ofNat n * a : Nat) : Int) := rfl
theorem c_ltl (a n : Nat) : (a : Int) < (no_index (OfNat.ofNat n) : Int) ↔ a < OfNat.ofNat n := Int.ofNat_lt (n := a) (m := OfNat.ofNat n)
theorem c_ltr (a n : Nat) : (no_index (OfNat.ofNat n) : Int) < (a : Int) ↔ OfNat.ofNat n < a := Int.ofNat_lt (n := OfNat.ofNat n) (m := a)
theorem c_lel (a n : Nat) : (a : Int) ≤ (no_index (OfNat.ofNat n) : Int) ↔ a ≤ OfNat.ofNat n := Int.ofNat_le (m := a) (n := OfNat.ofNat n)
theorem c_ler (a n : Nat) : (no_index (OfNat.ofNat n) : Int) ≤ (a : Int) ↔ OfNat.ofNat n ≤ a := Int.ofNat_le (m := OfNat.ofNat n) (n := a)
theorem c_eql (a n : Nat) : (a : Int) = (no_index (OfNat.ofNat n) : Int) ↔ a = OfNat.ofNat n := Int.ofNat_inj (m := a) (n := OfNat.ofNat n)
theorem c_eqr (a n : Nat) : (no_index (OfNat.ofNat n) : Int) = (a : Int) ↔ OfNat.ofNat n = a := Int.ofNat_inj (m := OfNat.ofNat n) (n := a)
end Wv
/-! The least of some; rising rows of numbers; all orders of a list; rows set by an order. -/
namespace Wv
open PySem PySem.Spec PyProof.Rows L2
/-! ### min -/
section
variable {α : Type} [DecidableEq α] {f : α → PyData} {k : Nat} {lt : α → α → Bool}
theorem OrdD.sortOk (h : OrdD f k lt) (hk : k ≤ 64) (sh : (∀ a, tupB (f a) = true) ∨ ∀ a, othB (f a) = true) (l : List α) : Wv.sortOk (l.map f) = true := by
  unfold Wv.sortOk alikeB
  have h1 : ((l.map f).all fun d => (l.map f).all fun e => W.alike d e) = true := by
    rw [List.all_eq_true]
    intro d hd
    rw [List.all_eq_true]
    intro e he
    obtain ⟨a, _, rfl⟩ := List.mem_map.mp hd
    obtain ⟨b, _, rfl⟩ := List.mem_map.mp he
    exact h.al a b
  have h2 : ((l.map f).all fun d => decide (d.depth ≤ 64)) = true := by
    rw [List.all_eq_true]
    intro d hd
    obtain ⟨a, _, rfl⟩ := List.mem_map.mp hd
    exact decide_eq_true (Nat.le_trans (h.good.dep a) hk)
  have h3 : ((l.map f).all tupB || (l.map f).all othB) = true := by
    rw [Bool.or_eq_true, List.all_eq_true, List.all_eq_true]
    rcases sh with s | s
    · refine .inl fun d hd => ?_
      obtain ⟨a, _, rfl⟩ := List.mem_map.mp hd
      exact s a
    · refine .inr fun d hd => ?_
      obtain ⟨a, _, rfl⟩ := List.mem_map.mp hd
      exact s a
  rw [h1, h2, h3]
  rfl
def leastF (lt : α → α → Bool) (x : α) (xs : List α) : α := xs.foldl (fun a y => if lt y a = true then y else a) x
theorem OrdD.minF (h : OrdD f k lt) : ∀ (xs : List α) (x : α), W.minD (f x) (xs.map f) = f (leastF lt x xs)
  | [], x => rfl
  | y :: xs, x => by
    show W.minD (if W.dataLt (f y) (f x) then f y else f x) (xs.map f) = f (leastF lt (if lt y x = true then y else x) xs)
    rw [h.lt_eq, ← OrdD.minF h xs]
    cases lt y x <;> rfl
theorem plainAll_f (hp : ∀ a, (f a).plain = true) : ∀ l : List α, PyData.plainAll (l.map f) = true
  | [] => rfl
  | a :: l => by simp only [List.map_cons, PyData.plainAll, hp, plainAll_f hp l, Bool.and_self]
theorem OrdD.min (h : OrdD f k lt) (hk : k ≤ 64) (sh : (∀ a, tupB (f a) = true) ∨ ∀ a, othB (f a) = true) (hp : ∀ a, (f a).plain = true) {x : α} {xs : List α} (hi : intsOf (f x :: xs.map f) = none) :
    minD (.list (f x :: xs.map f)) = .ok (.fz (f (leastF lt x xs))) := by
  have ok : cmpOk (f x :: xs.map f) = true := by
    unfold cmpOk
    have h1 := h.sortOk hk sh (x :: xs)
    have h2 := plainAll_f hp (x :: xs)
    have h3 := depthAll_mapD h.good (x :: xs)
    rw [List.map_cons] at h1 h2 h3
    rw [h1, h2]
    exact decide_eq_true (Nat.le_trans h3 hk)
  simp only [minD, hi, minL, ok, if_true, h.minF]
theorem leastF_mem : ∀ (xs : List α) (x : α), leastF lt x xs ∈ x :: xs
  | [], x => List.mem_cons_self
  | y :: xs, x => by
    have := leastF_mem xs (if lt y x = true then y else x)
    show leastF lt (if lt y x = true then y else x) xs ∈ _
    rcases List.mem_cons.mp this with h | h
    · rw [h]
      split
      · simp
      · simp
    · simp [h]
theorem leastF_le (t : Tot lt) : ∀ (xs : List α) (x : α), ∀ y ∈ x :: xs, lt y (leastF lt x xs) = false
  | [], x, y, h => by
    rw [List.mem_singleton.mp h]
    exact t.irr x
  | z :: xs, x, y, h => by
    show lt y (leastF lt (if lt z x = true then z else x) xs) = false
    have ih := leastF_le t xs (if lt z x = true then z else x)
    have key : ∀ a b, lt a b = false → lt b (leastF lt (if lt z x = true then z else x) xs) = false → lt a (leastF lt (if lt z x = true then z else x) xs) = false := fun a b h1 h2 => by
      have := t.le_tr (leastF lt (if lt z x = true then z else x) xs) b a (by rw [h2]; rfl) (by rw [h1]; rfl)
      simpa using this
    rcases List.mem_cons.mp h with rfl | h
    · cases e : lt z y with
      | true =>
        rw [e] at ih key
        exact key y z (t.asym e) (ih z (by simp))
      | false =>
        rw [e] at ih
        exact ih y (by simp)
    · rcases List.mem_cons.mp h with rfl | h
      · cases e : lt y x with
        | true =>
          rw [e] at ih
          exact ih y (by simp)
        | false =>
          rw [e] at ih key
          exact key y x e (ih x (by simp))
      · exact ih y (by simp [h])
theorem leastF_eq (t : Tot lt) {x y : α} {xs ys : List α} (h : ∀ z, z ∈ x :: xs ↔ z ∈ y :: ys) : leastF lt x xs = leastF lt y ys :=
  t.tot _ _ (leastF_le t ys y _ ((h _).mp (leastF_mem xs x))) (leastF_le t xs x _ ((h _).mpr (leastF_mem ys y)))
end
/-! ### rising rows of numbers -/
def insN (c : Nat) : List Nat → List Nat
  | [] => [c]
  | x :: r => if c < x then c :: x :: r else if c = x then x :: r else x :: insN c r
def risN (ns : List Nat) : List Nat := ns.foldr insN []
theorem insN_cons (c x : Nat) (r : List Nat) : insN c (x :: r) = if c < x then c :: x :: r else if c = x then x :: r else x :: insN c r := rfl
theorem insU_cons (c x : Int) (r : List Int) : insU c (x :: r) = if c < x then c :: x :: r else if c = x then x :: r else x :: insU c r := rfl
theorem insN_cast (c : Nat) : ∀ l : List Nat, insU (c : Int) (l.map fun (i : Nat) => (i : Int)) = (insN c l).map fun (i : Nat) => (i : Int)
  | [] => rfl
  | x :: r => by
    rw [List.map_cons, insU_cons, insN_cast c r, insN_cons]
    by_cases h1 : c < x
    · rw [if_pos h1, if_pos (by omega)]; rfl
    · rw [if_neg h1, if_neg (by omega)]
      by_cases h2 : c = x
      · rw [if_pos h2, if_pos (by omega)]; rfl
      · rw [if_neg h2, if_neg (by omega)]; rfl
theorem risN_cast : ∀ l : List Nat, risI (l.map fun (i : Nat) => (i : Int)) = (risN l).map fun (i : Nat) => (i : Int)
  | [] => rfl
  | x :: r => by
    show insU (x : Int) (risI (r.map fun (i : Nat) => (i : Int))) = _
    rw [risN_cast r, insN_cast]
    rfl
theorem insN_mem (c : Nat) : ∀ (l : List Nat) (x : Nat), x ∈ insN c l ↔ x = c ∨ x ∈ l
  | [], x => by simp [insN]
  | y :: r, x => by
    unfold insN
    split
    · simp
    · split
      · rename_i h
        subst h
        simp
      · simp only [List.mem_cons, insN_mem c r]
        constructor
        · rintro (h | h | h) <;> simp [h]
        · rintro (h | h | h) <;> simp [h]
theorem insN_sort (c : Nat) : ∀ (l : List Nat), l.Pairwise (· < ·) → (insN c l).Pairwise (· < ·)
  | [], _ => by simp [insN]
  | y :: r, h => by
    obtain ⟨h1, h2⟩ := List.pairwise_cons.mp h
    unfold insN
    split
    · rename_i hc
      exact List.pairwise_cons.mpr ⟨fun z hz => by
        rcases List.mem_cons.mp hz with rfl | hz
        · exact hc
        · exact Nat.lt_trans hc (h1 z hz), h⟩
    · split
      · exact h
      · refine List.pairwise_cons.mpr ⟨fun z hz => ?_, insN_sort c r h2⟩
        rcases (insN_mem c r z).mp hz with rfl | hz
        · omega
        · exact h1 z hz
theorem risN_mem : ∀ (l : List Nat) (x : Nat), x ∈ risN l ↔ x ∈ l
  | [], x => Iff.rfl
  | y :: r, x => by
    show x ∈ insN y (risN r) ↔ _
    rw [insN_mem, risN_mem r, List.mem_cons]
theorem risN_sort : ∀ (l : List Nat), (risN l).Pairwise (· < ·)
  | [] => .nil
  | y :: r => insN_sort y _ (risN_sort r)
theorem intsOf_nD : ∀ l : List Nat, intsOf (l.map nD) = some (l.map fun (i : Nat) => (i : Int))
  | [] => rfl
  | x :: r => by
    show (intsOf (r.map nD)).map ((x : Int) :: ·) = _
    rw [intsOf_nD r]
    rfl
theorem dkeys_n {l : List Nat} (h : l.length < 64) : dkeysD (l.map nD) = .ok (.ow (.list ((risN l).map nD))) := by
  unfold dkeysD
  rw [intsOf_nD]
  show (if (l.map fun (i : Nat) => (i : Int)).length < 64 then _ else _) = _
  rw [List.length_map, if_pos h, risN_cast, List.map_map]
  rfl
/-! ### all orders of a list -/
def ordersF : Nat → List Nat → List (List Nat)
  | 0, _ => [[]]
  | k + 1, l => l.zipIdx.flatMap fun p => (ordersF k (l.take p.2 ++ l.drop (p.2 + 1))).map fun r => p.1 :: r
theorem split_at {l : List Nat} {i : Nat} {x : Nat} (h : l[i]? = some x) : l = l.take i ++ x :: l.drop (i + 1) := by
  obtain ⟨hi, hx⟩ := List.getElem?_eq_some_iff.mp h
  rw [← hx, ← List.drop_eq_getElem_cons hi, List.take_append_drop]
theorem mem_ordersF : ∀ (k : Nat) {l r : List Nat}, l.length = k → (r ∈ ordersF k l ↔ r.Perm l)
  | 0, l, r, h => by
    have := List.eq_nil_of_length_eq_zero h
    subst this
    show r ∈ [[]] ↔ _
    rw [List.mem_singleton, List.perm_nil]
  | k + 1, l, r, h => by
    unfold ordersF
    rw [List.mem_flatMap]
    constructor
    · rintro ⟨⟨x, i⟩, hp, hr⟩
      obtain ⟨s, hs, rfl⟩ := List.mem_map.mp hr
      have hx := List.mem_zipIdx_iff_getElem?.mp hp
      obtain ⟨hi, _⟩ := List.getElem?_eq_some_iff.mp hx
      have hs := (mem_ordersF k (by rw [List.length_append, List.length_take, List.length_drop]; omega)).mp hs
      have e := split_at hx
      refine ((hs.cons x).trans ?_)
      exact (List.perm_middle.symm).trans (by rw [← e])
    · intro hr
      cases r with
      | nil => have := hr.length_eq; rw [h] at this; cases this
      | cons x s =>
        have hx := hr.mem_iff.mp List.mem_cons_self
        obtain ⟨i, hi⟩ := List.mem_iff_getElem?.mp hx
        refine ⟨(x, i), List.mem_zipIdx_iff_getElem?.mpr hi, List.mem_map.mpr ⟨s, ?_, rfl⟩⟩
        obtain ⟨hl, _⟩ := List.getElem?_eq_some_iff.mp hi
        refine (mem_ordersF k (by rw [List.length_append, List.length_take, List.length_drop]; omega)).mpr ?_
        have e := split_at hi
        rw [e] at hr
        exact (hr.trans List.perm_middle).cons_inv
def fac : Nat → Nat
  | 0 => 1
  | k + 1 => (k + 1) * fac k
theorem flat_le {α β : Type} {f : α → List β} {k : Nat} : ∀ {l : List α}, (∀ x ∈ l, (f x).length ≤ k) → (l.flatMap f).length ≤ l.length * k
  | [], _ => by simp
  | a :: l, h => by
    have h1 := h a List.mem_cons_self
    have h2 := flat_le (l := l) fun x hx => h x (List.mem_cons_of_mem _ hx)
    rw [List.flatMap_cons, List.length_append, List.length_cons, Nat.succ_mul]
    omega
theorem ordersF_len : ∀ (k : Nat) {l : List Nat}, l.length = k → (ordersF k l).length ≤ fac k
  | 0, l, h => Nat.le_refl _
  | k + 1, l, h => by
    have := flat_le (l := l.zipIdx) (f := fun p => (ordersF k (l.take p.2 ++ l.drop (p.2 + 1))).map fun r => p.1 :: r) (k := fac k) fun ⟨x, i⟩ hp => by
      obtain ⟨hi, _⟩ := List.getElem?_eq_some_iff.mp (List.mem_zipIdx_iff_getElem?.mp hp)
      rw [List.length_map]
      exact ordersF_len k (by rw [List.length_append, List.length_take, List.length_drop]; show _ = _; omega)
    rw [List.length_zipIdx, h] at this
    exact this
theorem fac7 {k : Nat} (h : k ≤ 7) : fac k ≤ 5040 := by
  have key : ∀ k, k < 8 → fac k ≤ 5040 := by decide +kernel
  exact key k (by omega)
theorem fac_add {a b : Nat} (h : a + b ≤ 7) : fac a * fac b ≤ fac (a + b) := by
  have key : ∀ a, a < 8 → ∀ b, b < 8 - a → fac a * fac b ≤ fac (a + b) := by decide +kernel
  exact key a (by omega) b (by omega)
/-! ### rows set by an order -/
def setTo (n : Nat) (o : List Nat) (v : Nat → Nat) (i : Nat) : List Nat := (List.range n).map fun k => if o.idxOf k < i then v (o.idxOf k) else 0
theorem setTo_zero (n : Nat) (o : List Nat) (v : Nat → Nat) : setTo n o v 0 = List.replicate n 0 := by
  unfold setTo
  refine List.ext_getElem (by simp) fun i h1 h2 => ?_
  simp
theorem setTo_len (n : Nat) (o : List Nat) (v : Nat → Nat) (i : Nat) : (setTo n o v i).length = n := by unfold setTo; simp
theorem idx_at {o : List Nat} (nd : o.Nodup) {i : Nat} (h : i < o.length) : o.idxOf o[i]! = i := by
  rw [getElem!_pos o i h]
  exact nd.idxOf_getElem i h
theorem setTo_get {n : Nat} {o : List Nat} {v : Nat → Nat} {i k : Nat} (h : k < n) : (setTo n o v i)[k]? = some (if o.idxOf k < i then v (o.idxOf k) else 0) := by
  unfold setTo
  rw [List.getElem?_map, List.getElem?_range h]
  rfl
theorem setTo_step {n : Nat} {o : List Nat} (v : Nat → Nat) (nd : o.Nodup) {i : Nat} (h : i < o.length) (hb : o[i]! < n) : (setTo n o v i).set o[i]! (v i) = setTo n o v (i + 1) := by
  have e0 := idx_at nd h
  refine List.ext_getElem? fun k => ?_
  by_cases hk : k < n
  · rw [List.getElem?_set, setTo_get hk, setTo_get hk, setTo_len]
    by_cases e : o[i]! = k
    · rw [if_pos e, ← e, e0, if_pos hb, if_pos (by omega)]
    · rw [if_neg e]
      have hne : o.idxOf k ≠ i := fun hi => by
        have hlt : o.idxOf k < o.length := by omega
        have := List.getElem_idxOf hlt
        apply e
        rw [getElem!_pos o i h]
        simp only [hi] at this
        exact this
      by_cases h3 : o.idxOf k < i
      · rw [if_pos h3, if_pos (by omega)]
      · rw [if_neg h3, if_neg (by omega)]
  · rw [List.getElem?_eq_none (by rw [List.length_set, setTo_len]; omega), List.getElem?_eq_none (by rw [setTo_len]; omega)]
theorem setTo_all {n : Nat} {o : List Nat} (v : Nat → Nat) (hl : ∀ k, k < n → k ∈ o) : setTo n o v o.length = (List.range n).map fun k => v (o.idxOf k) := by
  unfold setTo
  refine List.map_congr_left fun k hk => ?_
  rw [if_pos (List.idxOf_lt_length_of_mem (hl k (List.mem_range.mp hk)))]
theorem ixN_n {m k : Nat} (h : k < m) : L2.ixN m (k : Int) = some k := by
  unfold L2.ixN
  grind
end Wv
/-! Plain facts: data without truths and dicts are equal where they are the same. -/
namespace Wv
open PySem PySem.Spec PyProof.Rows L2
mutual
def nb : PyData → Bool
  | .none => true
  | .int _ => true
  | .str _ => true
  | .list xs => nbL xs
  | .tuple xs => nbL xs
  | .bool _ => false
  | .dict _ => false
def nbL : List PyData → Bool
  | [] => true
  | x :: r => nb x && nbL r
end
mutual
theorem eqv_nb : ∀ a b : PyData, nb a = true → nb b = true → (PyData.eqv a b = true ↔ a = b)
  | .bool _, _, h, _ => by simp [nb] at h
  | .dict _, _, h, _ => by simp [nb] at h
  | .none, b, _, hb => by cases b <;> simp_all [PyData.eqv, nb]
  | .int i, b, _, hb => by cases b <;> simp_all [PyData.eqv, nb]
  | .str i, b, _, hb => by cases b <;> simp_all [PyData.eqv, nb]
  | .list xs, b, ha, hb => by
    cases b with
    | list ys => simp only [PyData.eqv, nb] at *; rw [eqvL_nb xs ys ha hb, PyData.list.injEq]
    | _ => simp_all [PyData.eqv, nb]
  | .tuple xs, b, ha, hb => by
    cases b with
    | tuple ys => simp only [PyData.eqv, nb] at *; rw [eqvL_nb xs ys ha hb, PyData.tuple.injEq]
    | _ => simp_all [PyData.eqv, nb]
theorem eqvL_nb : ∀ a b : List PyData, nbL a = true → nbL b = true → (PyData.eqvAll a b = true ↔ a = b)
  | [], b, _, hb => by cases b <;> simp_all [PyData.eqvAll, nbL]
  | x :: xs, b, ha, hb => by
    cases b with
    | nil => simp_all [PyData.eqvAll, nbL]
    | cons y ys =>
      simp only [PyData.eqvAll, nbL, Bool.and_eq_true] at *
      rw [eqv_nb x y ha.1 hb.1, eqvL_nb xs ys ha.2 hb.2, List.cons.injEq]
end
theorem eqv_inj {α : Type} [DecidableEq α] {f : α → PyData} (h1 : ∀ a, nb (f a) = true) (h2 : ∀ a b, f a = f b → a = b) (a b : α) : PyData.eqv (f a) (f b) = decide (a = b) := by
  rw [Bool.eq_iff_iff, eqv_nb _ _ (h1 a) (h1 b), decide_eq_true_eq]
  exact ⟨h2 a b, fun h => by rw [h]⟩
mutual
theorem nb_nodict : ∀ d : PyData, nb d = true → isDict d = false
  | .dict _, h => by simp [nb] at h
  | .none, _ => rfl
  | .int _, _ => rfl
  | .str _, _ => rfl
  | .bool _, _ => rfl
  | .list _, _ => rfl
  | .tuple _, _ => rfl
end
end Wv
/-! Plain facts: pieces of a graph; loops by a condition. -/
namespace Wv
open PySem PySem.Spec PyProof.Rows L2
theorem nodup_le {α : Type} [DecidableEq α] : ∀ {l m : List α}, l.Nodup → (∀ x ∈ l, x ∈ m) → l.length ≤ m.length
  | [], m, _, _ => Nat.zero_le _
  | x :: l, m, nd, h => by
    have nd' := List.nodup_cons.mp nd
    have h1 := nodup_le (m := m.erase x) nd'.2 fun y hy => by
      have hne : y ≠ x := fun e => nd'.1 (e ▸ hy)
      exact (List.mem_erase_of_ne hne).mpr (h y (List.mem_cons_of_mem _ hy))
    rw [List.length_erase_of_mem (h x List.mem_cons_self)] at h1
    have : 0 < m.length := List.length_pos_of_mem (h x List.mem_cons_self)
    rw [List.length_cons]
    omega
/-- a loop by a condition, over states -/
theorem whileL_st {σ : Type} {cond : Env → R Bool} {body : Env → R Out} (I : σ → Env → Prop) (m : σ → Nat) (fin : σ → Prop)
    (h : ∀ s ρ, I s ρ → (cond ρ = .ok false ∧ fin s) ∨ (cond ρ = .ok true ∧ ∃ s' ρ', body ρ = .ok (.nx ρ') ∧ I s' ρ' ∧ m s' < m s)) :
    ∀ (f : Nat) (s : σ) (ρ : Env), I s ρ → m s < f → ∃ s' ρ', whileL cond body f ρ = .ok (.nx ρ') ∧ I s' ρ' ∧ fin s'
  | 0, s, ρ, _, hm => absurd hm (Nat.not_lt_zero _)
  | f + 1, s, ρ, hI, hm => by
    rcases h s ρ hI with ⟨h1, h2⟩ | ⟨h1, s', ρ', h2, h3, h4⟩
    · refine ⟨s, ρ, ?_, hI, h2⟩
      unfold whileL
      rw [h1, b_ok]
      rfl
    · obtain ⟨s2, ρ2, e1, e2, e3⟩ := whileL_st I m fin h f s' ρ' h3 (by omega)
      refine ⟨s2, ρ2, ?_, e2, e3⟩
      unfold whileL
      rw [h1, b_ok, if_pos rfl, h2, b_ok]
      exact e1
section
variable (adj : Nat → Nat → Bool)
def growA (left p : List Nat) : List Nat := left.filter fun k => decide (k ∈ p) || p.any fun o => adj k o
def growN (left : List Nat) : Nat → List Nat
  | 0 => left.take 1
  | j + 1 => growA adj left (growN left j)
def pieceA (left : List Nat) : List Nat := growN adj left left.length
def restA (left p : List Nat) : List Nat := left.filter fun k => !decide (k ∈ p)
def piecesA : Nat → List Nat → List (List Nat)
  | 0, _ => []
  | f + 1, left => if left = [] then [] else pieceA adj left :: piecesA f (restA left (pieceA adj left))
/-- nothing of left beside p is tied to p -/
def ClosedA (left p : List Nat) : Prop := ∀ x ∈ p, ∀ y ∈ left, adj x y = true → y ∈ p
inductive ReachA (left : List Nat) (s : Nat) : Nat → Prop
  | base : s ∈ left → ReachA left s s
  | step {x y : Nat} : ReachA left s x → y ∈ left → adj x y = true → ReachA left s y
end
variable {adj : Nat → Nat → Bool}
theorem ReachA.mem {left : List Nat} {s x : Nat} (h : ReachA adj left s x) : x ∈ left := by cases h <;> assumption
theorem ReachA.sub {left ks : List Nat} {s x : Nat} (h : ReachA adj left s x) (hs : ∀ y ∈ left, y ∈ ks) : ReachA adj ks s x := by
  induction h with
  | base h => exact .base (hs _ h)
  | step h1 h2 h3 ih => exact .step ih (hs _ h2) h3
theorem ReachA.closed {left p : List Nat} {s x : Nat} (h : ReachA adj left s x) (hs : s ∈ p) (hc : ClosedA adj left p) : x ∈ p := by
  induction h with
  | base h => exact hs
  | step h1 h2 h3 ih => exact hc _ ih _ h2 h3
theorem growN_sub (left : List Nat) : ∀ j, (growN adj left j).Sublist left
  | 0 => List.take_sublist 1 left
  | j + 1 => List.filter_sublist
theorem grow_mem {left : List Nat} {j x : Nat} : x ∈ growN adj left (j + 1) ↔ x ∈ left ∧ (x ∈ growN adj left j ∨ ∃ o, o ∈ growN adj left j ∧ adj x o = true) := by
  show x ∈ List.filter (fun k => decide (k ∈ growN adj left j) || (growN adj left j).any fun o => adj k o) left ↔ _
  rw [List.mem_filter, Bool.or_eq_true, decide_eq_true_eq, List.any_eq_true]
theorem growN_up {left : List Nat} {j x : Nat} (h : x ∈ growN adj left j) : x ∈ growN adj left (j + 1) := by
  exact grow_mem.mpr ⟨(growN_sub left j).subset h, .inl h⟩
theorem growN_head {s : Nat} {r : List Nat} : ∀ j, s ∈ growN adj (s :: r) j
  | 0 => by simp [growN]
  | j + 1 => growN_up (growN_head j)
theorem growN_reach (hs : ∀ a b, adj a b = adj b a) {s : Nat} {r : List Nat} : ∀ {j x}, x ∈ growN adj (s :: r) j → ReachA adj (s :: r) s x
  | 0, x, h => by
    have : x = s := by simpa [growN] using h
    subst this
    exact .base List.mem_cons_self
  | j + 1, x, h => by
    have h := grow_mem.mp h
    obtain ⟨h1, h2 | ⟨o, h2, h3⟩⟩ := h
    · exact growN_reach hs h2
    · exact .step (growN_reach hs h2) h1 (by rw [hs]; exact h3)
theorem growN_or (hs : ∀ a b, adj a b = adj b a) {left : List Nat} (nd : left.Nodup) (h0 : left ≠ []) : ∀ j, ClosedA adj left (growN adj left j) ∨ j + 1 ≤ (growN adj left j).length
  | 0 => by
    refine .inr ?_
    cases left with
    | nil => exact absurd rfl h0
    | cons s r => simp [growN]
  | j + 1 => by
    by_cases hc : ClosedA adj left (growN adj left j)
    · refine .inl fun x hx y hy ha => ?_
      have hx2 : x ∈ growN adj left j := by
        have hx := grow_mem.mp hx
        obtain ⟨h1, h2 | ⟨o, h2, h3⟩⟩ := hx
        · exact h2
        · exact hc o h2 x h1 (by rw [hs]; exact h3)
      exact growN_up (hc x hx2 y hy ha)
    · rcases growN_or hs nd h0 j with h | h
      · exact absurd h hc
      · refine .inr ?_
        unfold ClosedA at hc
        simp only [Classical.not_forall] at hc
        obtain ⟨x, hx, y, hy, ha, hn⟩ := hc
        have hy2 : y ∈ growN adj left (j + 1) := by
          exact grow_mem.mpr ⟨hy, .inr ⟨x, hx, by rw [hs]; exact ha⟩⟩
        have nd2 : (y :: growN adj left j).Nodup := List.nodup_cons.mpr ⟨hn, nd.sublist (growN_sub left j)⟩
        have := nodup_le nd2 (m := growN adj left (j + 1)) (fun z hz => by
          rcases List.mem_cons.mp hz with rfl | hz
          · exact hy2
          · exact growN_up hz)
        rw [List.length_cons] at this
        omega
theorem piece_closed (hs : ∀ a b, adj a b = adj b a) {left : List Nat} (nd : left.Nodup) (h0 : left ≠ []) : ClosedA adj left (pieceA adj left) := by
  rcases growN_or hs nd h0 left.length with h | h
  · exact h
  · have := (growN_sub (adj := adj) left left.length).length_le
    omega
/-- p is the piece of s in ks -/
structure IsPiece (adj : Nat → Nat → Bool) (ks : List Nat) (s : Nat) (p : List Nat) : Prop where
  nd : p.Nodup
  head : s ∈ p
  cl : ClosedA adj ks p
  re : ∀ x ∈ p, ReachA adj ks s x
theorem piece_is (hs : ∀ a b, adj a b = adj b a) {s : Nat} {r : List Nat} (nd : (s :: r).Nodup) : IsPiece adj (s :: r) s (pieceA adj (s :: r)) :=
  ⟨nd.sublist (growN_sub _ _), growN_head _, piece_closed hs nd (by simp), fun x hx => growN_reach hs hx⟩
theorem IsPiece.wide {ks left : List Nat} {s : Nat} {p : List Nat} (h : IsPiece adj left s p) (sub : ∀ x ∈ left, x ∈ ks) (cl : ClosedA adj ks left) : IsPiece adj ks s p :=
  ⟨h.nd, h.head, fun x hx y hy ha => h.cl x hx y (cl x (h.re x hx).mem y hy ha) ha, fun x hx => (h.re x hx).sub sub⟩
theorem IsPiece.perm {ks : List Nat} {s : Nat} {p q : List Nat} (h1 : IsPiece adj ks s p) (h2 : IsPiece adj ks s q) : p.Perm q :=
  (List.perm_ext_iff_of_nodup h1.nd h2.nd).mpr fun x => ⟨fun hx => (h1.re x hx).closed h2.head h2.cl, fun hx => (h2.re x hx).closed h1.head h1.cl⟩
theorem rest_closed (hs : ∀ a b, adj a b = adj b a) {ks left p : List Nat} (cl : ClosedA adj ks left) (hp : ClosedA adj ks p) (hks : ∀ x ∈ p, x ∈ ks) (hl : ∀ x ∈ left, x ∈ ks) : ClosedA adj ks (restA left p) := fun x hx y hy ha => by
  have hx2 := List.mem_filter.mp hx
  refine List.mem_filter.mpr ⟨cl x hx2.1 y hy ha, ?_⟩
  have hn : x ∉ p := by simpa using hx2.2
  simp only [Bool.not_eq_true', decide_eq_false_iff_not]
  exact fun hyp => hn (hp y hyp x (hl x hx2.1) (by rw [hs]; exact ha))
theorem rest_perm {left p q : List Nat} (h : p.Perm q) : restA left p = restA left q := by
  unfold restA
  refine List.filter_congr fun x _ => ?_
  simp only [h.mem_iff]
theorem rest_len {s : Nat} {r p : List Nat} (h : s ∈ p) : (restA (s :: r) p).length ≤ r.length := by
  unfold restA
  rw [List.filter_cons_of_neg (by simpa using h)]
  exact List.length_filter_le _ _
theorem piecesA_nil : ∀ f, piecesA adj f [] = []
  | 0 => rfl
  | f + 1 => rfl
theorem piecesA_step {f s : Nat} {r : List Nat} (hf : (s :: r).length ≤ f) : ∃ f', (restA (s :: r) (pieceA adj (s :: r))).length ≤ f' ∧ piecesA adj f (s :: r) = pieceA adj (s :: r) :: piecesA adj f' (restA (s :: r) (pieceA adj (s :: r))) := by
  cases f with
  | zero => simp at hf
  | succ f =>
    refine ⟨f, ?_, ?_⟩
    · have := rest_len (r := r) (growN_head (adj := adj) (s := s) (r := r) (s :: r).length)
      rw [List.length_cons] at hf
      exact Nat.le_trans this (by omega)
    · show (if (s :: r) = [] then [] else _) = _
      rw [if_neg (by simp)]
inductive All2 {α β : Type} (r : α → β → Prop) : List α → List β → Prop
  | nil : All2 r [] []
  | cons {a : α} {b : β} {as : List α} {bs : List β} : r a b → All2 r as bs → All2 r (a :: as) (b :: bs)
theorem All2.app {α β : Type} {r : α → β → Prop} : ∀ {as : List α} {bs : List β} {cs : List α} {ds : List β}, All2 r as bs → All2 r cs ds → All2 r (as ++ cs) (bs ++ ds)
  | _, _, _, _, .nil, h => h
  | _, _, _, _, .cons h t, h2 => .cons h (t.app h2)
/-- how many pieces have an odd number -/
def oddN (ps : List (List Nat)) : Nat := (ps.filter fun p => decide (p.length % 2 = 1)).length
theorem oddN_perm : ∀ {ps qs : List (List Nat)}, All2 List.Perm ps qs → oddN ps = oddN qs
  | _, _, .nil => rfl
  | _, _, .cons (a := p) (b := q) h t => by
    have ih := oddN_perm t
    unfold oddN at ih ⊢
    rw [List.filter_cons, List.filter_cons, h.length_eq]
    split
    · rw [List.length_cons, List.length_cons, ih]
    · exact ih
/-- the program's search: what holds of it all along; p what is found, a what is ahead -/
structure Bfs (adj : Nat → Nat → Bool) (ks : List Nat) (s : Nat) (p a : List Nat) : Prop where
  nd : p.Nodup
  rp : ∀ x ∈ p, ReachA adj ks s x
  ra : ∀ x ∈ a, ReachA adj ks s x
  hd : s ∈ p ∨ s ∈ a
  cl : ∀ x ∈ p, ∀ y ∈ ks, adj x y = true → y ∈ p ∨ y ∈ a
theorem Bfs.start {ks : List Nat} {s : Nat} (h : s ∈ ks) : Bfs adj ks s [] [s] := by
  refine ⟨List.nodup_nil, (fun _ h => by cases h), (fun x hx => ?_), .inr List.mem_cons_self, (fun _ h => by cases h)⟩
  have : x = s := by simpa using hx
  rw [this]
  exact .base h
theorem Bfs.skip {ks : List Nat} {s k : Nat} {p a : List Nat} (h : Bfs adj ks s p (k :: a)) (hk : k ∈ p) : Bfs adj ks s p a := by
  refine ⟨h.nd, h.rp, fun x hx => h.ra x (List.mem_cons_of_mem _ hx), ?_, fun x hx y hy ha => ?_⟩
  · rcases h.hd with q | q
    · exact .inl q
    · rcases List.mem_cons.mp q with rfl | q
      · exact .inl hk
      · exact .inr q
  · rcases h.cl x hx y hy ha with q | q
    · exact .inl q
    · rcases List.mem_cons.mp q with rfl | q
      · exact .inl hk
      · exact .inr q
theorem Bfs.add {ks : List Nat} {s k : Nat} {p a b : List Nat} (h : Bfs adj ks s p (k :: a)) (hk : k ∉ p) (hb : ∀ y, y ∈ b ↔ y ∈ ks ∧ adj k y = true) : Bfs adj ks s (p ++ [k]) (a ++ b) := by
  have rk := h.ra k List.mem_cons_self
  refine ⟨?_, fun x hx => ?_, fun x hx => ?_, ?_, fun x hx y hy ha => ?_⟩
  · rw [List.nodup_append]
    exact ⟨h.nd, by simp, fun x hx y hy e => by
      have : y = k := by simpa using hy
      rw [e, this] at hx
      exact hk hx⟩
  · rcases List.mem_append.mp hx with hx | hx
    · exact h.rp x hx
    · have : x = k := by simpa using hx
      rw [this]; exact rk
  · rcases List.mem_append.mp hx with hx | hx
    · exact h.ra x (List.mem_cons_of_mem _ hx)
    · have := (hb x).mp hx
      exact .step rk this.1 this.2
  · rcases h.hd with q | q
    · exact .inl (List.mem_append_left _ q)
    · rcases List.mem_cons.mp q with rfl | q
      · exact .inl (List.mem_append_right _ List.mem_cons_self)
      · exact .inr (List.mem_append_left _ q)
  · rcases List.mem_append.mp hx with hx | hx
    · rcases h.cl x hx y hy ha with q | q
      · exact .inl (List.mem_append_left _ q)
      · rcases List.mem_cons.mp q with rfl | q
        · exact .inl (List.mem_append_right _ List.mem_cons_self)
        · exact .inr (List.mem_append_left _ q)
    · have : x = k := by simpa using hx
      rw [this] at ha
      exact .inr (List.mem_append_right _ ((hb y).mpr ⟨hy, ha⟩))
theorem Bfs.done {ks : List Nat} {s : Nat} {p : List Nat} (h : Bfs adj ks s p []) : IsPiece adj ks s p :=
  ⟨h.nd, h.hd.elim id (fun q => by cases q), fun x hx y hy ha => (h.cl x hx y hy ha).elim id fun q => (by cases q), h.rp⟩
theorem Bfs.len {ks : List Nat} {s : Nat} {p a : List Nat} (h : Bfs adj ks s p a) : p.length ≤ ks.length := nodup_le h.nd fun x hx => (h.rp x hx).mem
/-! ### rising rows -/
theorem risN_same : ∀ {l : List Nat}, l.Pairwise (· < ·) → risN l = l
  | [], _ => rfl
  | x :: r, h => by
    have h' := List.pairwise_cons.mp h
    show insN x (risN r) = x :: r
    rw [risN_same h'.2]
    cases r with
    | nil => rfl
    | cons y r => simp [insN, h'.1 y List.mem_cons_self]
def risesN (row : List Nat) : Bool := (row.zip (row.drop 1)).all fun p => decide (p.1 < p.2)
theorem rises_pw : ∀ {l : List Nat}, risesN l = true ↔ l.Pairwise (· < ·)
  | [] => by simp [risesN]
  | [_] => by simp [risesN]
  | a :: b :: l => by
    have ih := rises_pw (l := b :: l)
    unfold risesN at ih ⊢
    simp only [List.drop_succ_cons, List.drop_zero, List.zip_cons_cons, List.all_cons, Bool.and_eq_true, decide_eq_true_eq] at ih ⊢
    rw [ih, List.pairwise_cons (a := a)]
    constructor
    · rintro ⟨h1, h2⟩
      refine ⟨fun x hx => ?_, h2⟩
      rcases List.mem_cons.mp hx with rfl | hx
      · exact h1
      · exact Nat.lt_trans h1 ((List.pairwise_cons.mp h2).1 x hx)
    · rintro ⟨h1, h2⟩
      exact ⟨h1 b List.mem_cons_self, h2⟩
theorem rises_ris (l : List Nat) : decide (l = risN l) = risesN l := by
  rw [Bool.eq_iff_iff, decide_eq_true_eq, rises_pw]
  exact ⟨fun h => h ▸ risN_sort l, fun h => (risN_same h).symm⟩
theorem sortset_n {row : List Nat} (h : row.length < 64) : sortsetD (.tuple (row.map nD)) = .ok (.ow (.list ((risN row).map nD))) := by
  cases row with
  | nil => rfl
  | cons x r =>
    have e1 : (((x :: r).map nD).all pairB && decide (((x :: r).map nD).length < 64)) = false := rfl
    have e2 : intsOf ((x :: r).map nD) = some ((x :: r).map fun (i : Nat) => (i : Int)) := intsOf_nD _
    show (if (((x :: r).map nD).all pairB && decide (((x :: r).map nD).length < 64)) = true then R.ok (Vl.ow (.list (((((x :: r).map nD).map codeP).foldr insU []).map pairC))) else match intsOf ((x :: r).map nD) with
      | some ns => if ns.length < 64 then R.ok (Vl.ow (.list ((risI ns).map .int))) else .bad
      | none => .bad) = _
    rw [e1, if_neg (by decide), e2]
    show (if ((x :: r).map fun (i : Nat) => (i : Int)).length < 64 then R.ok (Vl.ow (.list ((risI ((x :: r).map fun (i : Nat) => (i : Int))).map .int))) else .bad) = _
    rw [if_pos (by rw [List.length_map]; exact h), risN_cast, List.map_map]
    rfl
end Wv
namespace Wv
open PySem PySem.Spec PyProof.Rows L2
abbrev pw : Program := PySem.Challenge.pw_websworn_k08_whole_symmetries
def top (i : Nat) : Stmt := pw.main.body.getD i (.Pass ⟨0, 0, 0, 0⟩)
abbrev f_pairs_of : Nat := 0
abbrev f_in_order : Nat := 1
abbrev f_tied : Nat := 2
abbrev f_contrary : Nat := 3
abbrev f_beside : Nat := 4
abbrev f_numbered : Nat := 5
abbrev f_near : Nat := 6
abbrev f_degrees : Nat := 7
abbrev f_goes_on : Nat := 8
abbrev f_fits_from : Nat := 9
abbrev f_fit : Nat := 10
abbrev f_fits_many : Nat := 11
abbrev f_symmetries : Nat := 12
abbrev f_alike : Nat := 13
abbrev f_orders_of : Nat := 14
abbrev f_plain : Nat := 15
abbrev f_lots_of : Nat := 16
abbrev f_count : Nat := 17
abbrev f_pieces_of : Nat := 18
abbrev f_ways_from : Nat := 19
abbrev f_ring_of : Nat := 20
abbrev f_far_of : Nat := 21
abbrev f_is_clique : Nat := 22
abbrev f_clique : Nat := 23
abbrev f_colourings : Nat := 24
abbrev f_coloured : Nat := 25
abbrev f_pairings : Nat := 26
abbrev f_measure : Nat := 27
abbrev f__law_cell_at : Nat := 28
abbrev f__law_draws : Nat := 29
abbrev f__law_pairs : Nat := 30
abbrev f__law_web : Nat := 31
abbrev f__law_order : Nat := 32
abbrev f_law : Nat := 33
def e_pairs_of_0 : Tm := .tup (.cons (.loc 1) (.cons (.loc 2) .nil))
def b_pairs_of : Sms := .cons (.ret (.comp2 e_pairs_of_0 [1] false (.rng (.cons (.loc 0) .nil)) .nil [2] false (.rng (.cons (.op .add (.loc 1) (.int 1)) (.cons (.loc 0) .nil))) .nil [1, 2])) .nil
abbrev N_pairs_of : List Str := ["many", "one", "other"]
abbrev d_pairs_of : Fd := ⟨"pairs_of", 1, N_pairs_of, b_pairs_of⟩
def b_in_order : Sms := .cons (.ret (.ite (.op .lt (.loc 0) (.loc 1)) (.tup (.cons (.loc 0) (.cons (.loc 1) .nil))) (.tup (.cons (.loc 1) (.cons (.loc 0) .nil))))) .nil
abbrev N_in_order : List Str := ["one", "other"]
abbrev d_in_order : Fd := ⟨"in_order", 2, N_in_order, b_in_order⟩
def b_tied : Sms := .cons (.ret (.op .isin (.call f_in_order (.cons (.loc 1) (.cons (.loc 2) .nil))) (.ix (.loc 0) (.int 1)))) .nil
abbrev N_tied : List Str := ["web", "one", "other"]
abbrev d_tied : Fd := ⟨"tied", 3, N_tied, b_tied⟩
def e_contrary_0 : Tm := .loc 1
def c_contrary_1 : Tms := .cons (.op .notin (.loc 1) (.ix (.loc 0) (.int 1))) .nil
def b_contrary : Sms := .cons (.ret (.tup (.cons (.ix (.loc 0) (.int 0)) (.cons (.bi .tuple (.cons (.comp e_contrary_0 [1] false (.tm (.call f_pairs_of (.cons (.ix (.loc 0) (.int 0)) .nil))) c_contrary_1 [1]) .nil)) .nil)))) .nil
abbrev N_contrary : List Str := ["web", "pair"]
abbrev d_contrary : Fd := ⟨"contrary", 1, N_contrary, b_contrary⟩
def e_beside_0 : Tm := .tup (.cons (.op .add (.loc 3) (.ix (.loc 0) (.int 0))) (.cons (.op .add (.loc 4) (.ix (.loc 0) (.int 0))) .nil))
def b_beside : Sms := .cons (.if_ (.op .gt (.op .add (.ix (.loc 0) (.int 0)) (.ix (.loc 1) (.int 0))) (.glo "MOST_KNOTS" (.int 7))) (.cons .no .nil) .nil) (.cons (.asg 2 (.bi .tuple (.cons (.comp e_beside_0 [3, 4] true (.tm (.ix (.loc 1) (.int 1))) .nil [3, 4]) .nil))) (.cons (.ret (.tup (.cons (.op .add (.ix (.loc 0) (.int 0)) (.ix (.loc 1) (.int 0))) (.cons (.op .add (.ix (.loc 0) (.int 1)) (.loc 2)) .nil)))) .nil))
abbrev N_beside : List Str := ["one", "other", "further", "low", "high"]
abbrev d_beside : Fd := ⟨"beside", 2, N_beside, b_beside⟩
def e_numbered_0 : Tm := .call f_in_order (.cons (.ix (.loc 1) (.loc 2)) (.cons (.ix (.loc 1) (.loc 3)) .nil))
def b_numbered : Sms := .cons (.ret (.tup (.cons (.ix (.loc 0) (.int 0)) (.cons (.bi .tuple (.cons (.bi .sorted (.cons (.comp e_numbered_0 [2, 3] true (.tm (.ix (.loc 0) (.int 1))) .nil [2, 3]) .nil)) .nil)) .nil)))) .nil
abbrev N_numbered : List Str := ["web", "row", "one", "other"]
abbrev d_numbered : Fd := ⟨"numbered", 2, N_numbered, b_numbered⟩
def e_near_0 : Tm := .loc 2
def c_near_1 : Tms := .cons (.and (.cons (.op .ne (.loc 2) (.loc 1)) (.cons (.call f_tied (.cons (.loc 0) (.cons (.loc 1) (.cons (.loc 2) .nil)))) .nil))) .nil
def b_near : Sms := .cons (.ret (.comp e_near_0 [2] false (.rng (.cons (.ix (.loc 0) (.int 0)) .nil)) c_near_1 [2])) .nil
abbrev N_near : List Str := ["web", "knot", "other"]
abbrev d_near : Fd := ⟨"near", 2, N_near, b_near⟩
def e_degrees_0 : Tm := .bi .len (.cons (.call f_near (.cons (.loc 0) (.cons (.loc 1) .nil))) .nil)
def b_degrees : Sms := .cons (.ret (.comp e_degrees_0 [1] false (.rng (.cons (.ix (.loc 0) (.int 0)) .nil)) .nil [1])) .nil
abbrev N_degrees : List Str := ["web", "knot"]
abbrev d_degrees : Fd := ⟨"degrees", 1, N_degrees, b_degrees⟩
def e_goes_on_0 : Tm := .op .eq (.call f_tied (.cons (.loc 0) (.cons (.loc 5) (.cons (.loc 4) .nil)))) (.call f_tied (.cons (.loc 1) (.cons (.loc 6) (.cons (.loc 3) .nil))))
def b_goes_on : Sms := .cons (.asg 4 (.bi .len (.cons (.loc 2) .nil))) (.cons (.ret (.bi .all (.cons (.comp e_goes_on_0 [5, 6] true (.enum (.loc 2)) .nil [5, 6]) .nil))) .nil)
abbrev N_goes_on : List Str := ["one", "other", "laid", "knot", "at", "low", "spot"]
abbrev d_goes_on : Fd := ⟨"goes_on", 4, N_goes_on, b_goes_on⟩
def b_fits_from_0 : Sms := .cons (.if_ (.and (.cons (.op .notin (.loc 5) (.loc 2)) (.cons (.call f_goes_on (.cons (.loc 0) (.cons (.loc 1) (.cons (.loc 2) (.cons (.loc 5) .nil))))) .nil))) (.cons (.asg 4 (.op .add (.loc 4) (.call f_fits_from (.cons (.loc 0) (.cons (.loc 1) (.cons (.op .add (.loc 2) (.tup (.cons (.loc 5) .nil))) (.cons (.op .sub (.loc 3) (.bi .len (.cons (.loc 4) .nil))) .nil))))))) (.cons (.if_ (.op .ge (.bi .len (.cons (.loc 4) .nil)) (.loc 3)) (.cons (.ret (.loc 4)) .nil) .nil) .nil)) .nil) .nil
def b_fits_from : Sms := .cons (.if_ (.op .eq (.bi .len (.cons (.loc 2) .nil)) (.ix (.loc 0) (.int 0))) (.cons (.ret (.lst (.cons (.loc 2) .nil))) .nil) .nil) (.cons (.asg 4 (.lst .nil)) (.cons (.for_ [5] false (.rng (.cons (.ix (.loc 1) (.int 0)) .nil)) b_fits_from_0) (.cons (.ret (.loc 4)) .nil)))
abbrev N_fits_from : List Str := ["one", "other", "laid", "most", "found", "knot"]
abbrev d_fits_from : Fd := ⟨"fits_from", 4, N_fits_from, b_fits_from⟩
def b_fit : Sms := .cons (.if_ (.op .ne (.bi .sorted (.cons (.call f_degrees (.cons (.loc 0) .nil)) .nil)) (.bi .sorted (.cons (.call f_degrees (.cons (.loc 1) .nil)) .nil))) (.cons (.ret .non) .nil) .nil) (.cons (.asg 2 (.call f_fits_from (.cons (.loc 0) (.cons (.loc 1) (.cons (.tup .nil) (.cons (.int 1) .nil)))))) (.cons (.ret (.ite (.op .ne (.loc 2) (.lst .nil)) (.ix (.loc 2) (.int 0)) .non)) .nil))
abbrev N_fit : List Str := ["one", "other", "found"]
abbrev d_fit : Fd := ⟨"fit", 2, N_fit, b_fit⟩
def b_fits_many : Sms := .cons (.if_ (.op .ne (.bi .sorted (.cons (.call f_degrees (.cons (.loc 0) .nil)) .nil)) (.bi .sorted (.cons (.call f_degrees (.cons (.loc 1) .nil)) .nil))) (.cons (.ret (.int 0)) .nil) .nil) (.cons (.ret (.bi .len (.cons (.call f_fits_from (.cons (.loc 0) (.cons (.loc 1) (.cons (.tup .nil) (.cons (.op .pow (.int 10) (.int 4)) .nil))))) .nil))) .nil)
abbrev N_fits_many : List Str := ["one", "other"]
abbrev d_fits_many : Fd := ⟨"fits_many", 2, N_fits_many, b_fits_many⟩
def b_symmetries : Sms := .cons (.ret (.call f_fits_many (.cons (.loc 0) (.cons (.loc 0) .nil)))) .nil
abbrev N_symmetries : List Str := ["web"]
abbrev d_symmetries : Fd := ⟨"symmetries", 1, N_symmetries, b_symmetries⟩
def b_alike : Sms := .cons (.ret (.op .isnot (.call f_fit (.cons (.loc 0) (.cons (.loc 1) .nil))) .non)) .nil
abbrev N_alike : List Str := ["one", "other"]
abbrev d_alike : Fd := ⟨"alike", 2, N_alike, b_alike⟩
def e_orders_of_0 : Tm := .op .add (.lst (.cons (.loc 3) .nil)) (.loc 4)
def b_orders_of_1 : Sms := .cons (.asg 1 (.op .add (.loc 1) (.comp e_orders_of_0 [4] false (.tm (.call f_orders_of (.cons (.op .add (.sl (.loc 0) .nil (.cons (.loc 2) .nil)) (.sl (.loc 0) (.cons (.op .add (.loc 2) (.int 1)) .nil) .nil)) .nil))) .nil [4]))) .nil
def b_orders_of : Sms := .cons (.if_ (.op .eq (.loc 0) (.lst .nil)) (.cons (.ret (.lst (.cons (.lst .nil) .nil))) .nil) .nil) (.cons (.asg 1 (.lst .nil)) (.cons (.for_ [2, 3] true (.enum (.loc 0)) b_orders_of_1) (.cons (.ret (.loc 1)) .nil)))
abbrev N_orders_of : List Str := ["knots", "found", "at", "knot", "rest"]
abbrev d_orders_of : Fd := ⟨"orders_of", 1, N_orders_of, b_orders_of⟩
def b_plain_0 : Sms := .cons (.setix 4 (.loc 6) (.loc 10)) .nil
def b_plain_1 : Sms := .cons (.asg 4 (.rep (.int 0) (.ix (.loc 0) (.int 0)))) (.cons (.for_ [10, 6] true (.enum (.loc 7)) b_plain_0) (.fz [4] (.cons (.asg 11 (.call f_numbered (.cons (.loc 0) (.cons (.loc 4) .nil)))) (.cons (.if_ (.or (.cons (.op .is_ (.loc 9) .non) (.cons (.op .lt (.loc 11) (.loc 9)) .nil))) (.fz [11] (.cons (.asg 9 (.loc 11)) .nil)) .nil) .nil))))
def e_plain_2 : Tm := .loc 4
def e_plain_3 : Tm := .op .add (.loc 7) (.loc 8)
def e_plain_4 : Tm := .loc 6
def c_plain_5 : Tms := .cons (.op .eq (.loc 4) (.loc 3)) .nil
def b_plain_6 : Sms := .cons (.asg 5 (.call f_orders_of (.cons (.comp e_plain_4 [6, 4] true (.enum (.loc 1)) c_plain_5 [6, 4]) .nil))) (.fz [5] (.cons (.asg 2 (.comp2 e_plain_3 [7] false (.tm (.loc 2)) .nil [8] false (.tm (.loc 5)) .nil [7, 8])) .nil))
def b_plain : Sms := .cons (.asg 1 (.call f_degrees (.cons (.loc 0) .nil))) (.cons (.asg 2 (.lst (.cons (.lst .nil) .nil))) (.cons (.for_ [3] false (.tm (.dkeys e_plain_2 [4] false (.tm (.loc 1)) [4])) b_plain_6) (.cons (.asg 9 .non) (.fz [2] (.cons (.for_ [7] false (.tm (.loc 2)) b_plain_1) (.cons (.ret (.loc 9)) .nil))))))
abbrev N_plain : List Str := ["web", "rows", "orders", "degree", "row", "some", "knot", "order", "rest", "best", "at", "made"]
abbrev d_plain : Fd := ⟨"plain", 1, N_plain, b_plain⟩
def e_lots_of_0 : Tm := .op .add (.loc 3) (.lst (.cons (.loc 2) .nil))
def b_lots_of_1 : Sms := .cons (.asg 1 (.op .add (.loc 1) (.comp e_lots_of_0 [3] false (.tm (.loc 1)) .nil [3]))) .nil
def b_lots_of : Sms := .cons (.asg 1 (.lst (.cons (.lst .nil) .nil))) (.cons (.for_ [2] false (.rng (.cons (.loc 0) .nil)) b_lots_of_1) (.cons (.ret (.loc 1)) .nil))
abbrev N_lots_of : List Str := ["many", "found", "knot", "lot"]
abbrev d_lots_of : Fd := ⟨"lots_of", 1, N_lots_of, b_lots_of⟩
def b_count_0 : Sms := .cons (.aug 1 .mul (.loc 2)) .nil
def b_count : Sms := .cons (.asg 1 (.int 1)) (.cons (.for_ [2] false (.rng (.cons (.int 1) (.cons (.op .add (.ix (.loc 0) (.int 0)) (.int 1)) .nil))) b_count_0) (.cons (.ret (.op .fdiv (.loc 1) (.call f_symmetries (.cons (.loc 0) .nil)))) .nil))
abbrev N_count : List Str := ["web", "found", "number"]
abbrev d_count : Fd := ⟨"count", 1, N_count, b_count⟩
def e_pieces_of_0 : Tm := .loc 6
def c_pieces_of_1 : Tms := .cons (.op .notin (.loc 6) (.loc 4)) .nil
def e_pieces_of_2 : Tm := .loc 7
def c_pieces_of_3 : Tms := .cons (.op .isin (.loc 7) (.loc 1)) .nil
def b_pieces_of_4 : Sms := .cons (.star 6 5 (.loc 5)) (.cons (.if_ (.op .notin (.loc 6) (.loc 4)) (.cons (.mut .append 4 (.cons (.loc 6) .nil)) (.cons (.asg 5 (.op .add (.loc 5) (.comp e_pieces_of_2 [7] false (.tm (.call f_near (.cons (.loc 0) (.cons (.loc 6) .nil)))) c_pieces_of_3 [7]))) .nil)) .nil) .nil)
def e_pieces_of_5 : Tm := .op .ne (.loc 5) (.lst .nil)
def b_pieces_of_6 : Sms := .cons (.par 4 5 (.lst .nil) (.lst (.cons (.ix (.loc 2) (.int 0)) .nil))) (.cons (.while_ e_pieces_of_5 b_pieces_of_4) (.fz [4] (.cons (.mut .append 3 (.cons (.loc 4) .nil)) (.cons (.asg 2 (.comp e_pieces_of_0 [6] false (.tm (.loc 2)) c_pieces_of_1 [6])) .nil))))
def e_pieces_of_7 : Tm := .op .ne (.loc 2) (.lst .nil)
def b_pieces_of : Sms := .cons (.par 2 3 (.bi .list (.cons (.loc 1) .nil)) (.lst .nil)) (.cons (.while_ e_pieces_of_7 b_pieces_of_6) (.cons (.ret (.loc 3)) .nil))
abbrev N_pieces_of : List Str := ["web", "knots", "left", "found", "piece", "ahead", "knot", "other"]
abbrev d_pieces_of : Fd := ⟨"pieces_of", 2, N_pieces_of, b_pieces_of⟩
def b_ways_from_0 : Sms := .cons (.if_ (.and (.cons (.op .lt (.ix (.loc 3) (.loc 6)) (.int 0)) (.cons (.op .notin (.tup (.cons (.loc 5) (.cons (.loc 6) .nil))) (.loc 2)) .nil))) (.cons (.setix 3 (.loc 6) (.op .add (.ix (.loc 3) (.loc 5)) (.int 1))) (.cons (.asg 4 (.op .add (.loc 4) (.lst (.cons (.loc 6) .nil)))) .nil)) .nil) .nil
def b_ways_from_1 : Sms := .cons (.star 5 4 (.loc 4)) (.cons (.for_ [6] false (.tm (.call f_near (.cons (.loc 0) (.cons (.loc 5) .nil)))) b_ways_from_0) .nil)
def e_ways_from_2 : Tm := .op .ne (.loc 4) (.lst .nil)
def b_ways_from : Sms := .cons (.asg 3 (.rep (.neg (.int 1)) (.ix (.loc 0) (.int 0)))) (.cons (.setix 3 (.loc 1) (.int 0)) (.cons (.asg 4 (.lst (.cons (.loc 1) .nil))) (.cons (.while_ e_ways_from_2 b_ways_from_1) (.cons (.ret (.loc 3)) .nil))))
abbrev N_ways_from : List Str := ["web", "start", "barred", "found", "ahead", "knot", "other"]
abbrev d_ways_from : Fd := ⟨"ways_from", 3, N_ways_from, b_ways_from⟩
def b_ring_of_0 : Sms := .cons (.asg 4 (.ix (.call f_ways_from (.cons (.loc 0) (.cons (.loc 2) (.cons (.lst (.cons (.tup (.cons (.loc 2) (.cons (.loc 3) .nil))) (.cons (.tup (.cons (.loc 3) (.cons (.loc 2) .nil))) .nil))) .nil)))) (.loc 3))) (.cons (.if_ (.and (.cons (.op .gt (.loc 4) (.int 0)) (.cons (.or (.cons (.op .eq (.loc 1) (.int 0)) (.cons (.op .lt (.op .add (.loc 4) (.int 1)) (.loc 1)) .nil))) .nil))) (.cons (.asg 1 (.op .add (.loc 4) (.int 1))) .nil) .nil) .nil)
def b_ring_of : Sms := .cons (.asg 1 (.int 0)) (.cons (.for_ [2, 3] true (.tm (.ix (.loc 0) (.int 1))) b_ring_of_0) (.cons (.ret (.loc 1)) .nil))
abbrev N_ring_of : List Str := ["web", "best", "one", "other", "way"]
abbrev d_ring_of : Fd := ⟨"ring_of", 1, N_ring_of, b_ring_of⟩
def e_far_of_0 : Tm := .op .isin (.neg (.int 1)) (.loc 3)
def e_far_of_1 : Tm := .bi .max (.cons (.loc 3) .nil)
def e_far_of_2 : Tm := .call f_ways_from (.cons (.loc 0) (.cons (.loc 2) (.cons (.lst .nil) .nil)))
def b_far_of : Sms := .cons (.asg 1 (.comp e_far_of_2 [2] false (.rng (.cons (.ix (.loc 0) (.int 0)) .nil)) .nil [2])) (.cons (.ret (.ite (.bi .any (.cons (.comp e_far_of_0 [3] false (.tm (.loc 1)) .nil [3]) .nil)) (.neg (.int 1)) (.bi .max (.cons (.comp e_far_of_1 [3] false (.tm (.loc 1)) .nil [3]) .nil)))) .nil)
abbrev N_far_of : List Str := ["web", "rows", "knot", "row"]
abbrev d_far_of : Fd := ⟨"far_of", 1, N_far_of, b_far_of⟩
def e_is_clique_0 : Tm := .call f_tied (.cons (.loc 0) (.cons (.loc 3) (.cons (.loc 4) .nil)))
def b_is_clique : Sms := .cons (.ret (.bi .all (.cons (.comp2 e_is_clique_0 [2, 3] true (.enum (.loc 1)) .nil [4] false (.tm (.sl (.loc 1) .nil (.cons (.loc 2) .nil))) .nil [2, 3, 4]) .nil))) .nil
abbrev N_is_clique : List Str := ["web", "knots", "at", "one", "other"]
abbrev d_is_clique : Fd := ⟨"is_clique", 2, N_is_clique, b_is_clique⟩
def e_clique_0 : Tm := .bi .tuple (.cons (.loc 2) .nil)
def c_clique_1 : Tms := .cons (.call f_is_clique (.cons (.loc 0) (.cons (.loc 2) .nil))) .nil
def b_clique : Sms := .cons (.asg 1 (.comp e_clique_0 [2] false (.tm (.call f_lots_of (.cons (.ix (.loc 0) (.int 0)) .nil))) c_clique_1 [2])) (.cons (.retK true true (.loc 1)) .nil)
abbrev N_clique : List Str := ["web", "some", "knots"]
abbrev d_clique : Fd := ⟨"clique", 1, N_clique, b_clique⟩
def e_colourings_0 : Tm := .op .ne (.ix (.loc 2) (.loc 5)) (.loc 4)
def c_colourings_1 : Tms := .cons (.op .lt (.loc 5) (.loc 3)) .nil
def b_colourings_2 : Sms := .cons (.if_ (.bi .all (.cons (.comp e_colourings_0 [5] false (.tm (.call f_near (.cons (.loc 0) (.cons (.loc 3) .nil)))) c_colourings_1 [5]) .nil)) (.cons (.asg 6 (.call f_colourings (.cons (.loc 0) (.cons (.loc 1) (.cons (.op .add (.loc 2) (.tup (.cons (.loc 4) .nil))) .nil))))) (.cons (.if_ (.op .isnot (.loc 6) .non) (.cons (.ret (.loc 6)) .nil) .nil) .nil)) .nil) .nil
def b_colourings : Sms := .cons (.asg 3 (.bi .len (.cons (.loc 2) .nil))) (.cons (.if_ (.op .eq (.loc 3) (.ix (.loc 0) (.int 0))) (.cons (.ret (.loc 2)) .nil) .nil) (.cons (.for_ [4] false (.rng (.cons (.loc 1) .nil)) b_colourings_2) (.cons (.ret .non) .nil)))
abbrev N_colourings : List Str := ["web", "many", "row", "knot", "colour", "other", "found"]
abbrev d_colourings : Fd := ⟨"colourings", 3, N_colourings, b_colourings⟩
def b_coloured_0 : Sms := .cons (.asg 2 (.call f_colourings (.cons (.loc 0) (.cons (.loc 1) (.cons (.tup .nil) .nil))))) (.cons (.if_ (.op .isnot (.loc 2) .non) (.cons (.ret (.loc 2)) .nil) .nil) .nil)
def b_coloured : Sms := .cons (.for_ [1] false (.rng (.cons (.int 1) (.cons (.ix (.loc 0) (.int 0)) .nil))) b_coloured_0) (.cons (.ret (.call f_colourings (.cons (.loc 0) (.cons (.ix (.loc 0) (.int 0)) (.cons (.tup .nil) .nil))))) .nil)
abbrev N_coloured : List Str := ["web", "many", "found"]
abbrev d_coloured : Fd := ⟨"coloured", 1, N_coloured, b_coloured⟩
def e_pairings_0 : Tm := .loc 4
def e_pairings_1 : Tm := .op .isin (.loc 5) (.loc 1)
def c_pairings_2 : Tms := .cons (.not (.bi .any (.cons (.comp e_pairings_1 [5] false (.tm (.loc 4)) .nil [5]) .nil))) .nil
def b_pairings : Sms := .cons (.if_ (.op .eq (.loc 0) (.tup .nil)) (.cons (.ret (.tup .nil)) .nil) .nil) (.cons (.star 1 2 (.loc 0)) (.cons (.asg 3 (.op .add (.tup (.cons (.loc 1) .nil)) (.call f_pairings (.cons (.bi .tuple (.cons (.comp e_pairings_0 [4] false (.tm (.loc 2)) c_pairings_2 [4]) .nil)) .nil)))) (.cons (.asg 6 (.call f_pairings (.cons (.bi .tuple (.cons (.loc 2) .nil)) .nil))) (.fz [3, 6] (.cons (.ret (.ite (.op .ge (.bi .len (.cons (.loc 3) .nil)) (.bi .len (.cons (.loc 6) .nil))) (.loc 3) (.loc 6))) .nil)))))
abbrev N_pairings : List Str := ["ties", "first", "rest", "with_first", "tie", "knot", "without"]
abbrev d_pairings : Fd := ⟨"pairings", 1, N_pairings, b_pairings⟩
def b_measure : Sms := .cons (.if_ (.op .isin (.loc 1) (.tup (.cons (.str "knots") (.cons (.str "ties") .nil)))) (.cons (.ret (.ite (.op .eq (.loc 1) (.str "knots")) (.ix (.loc 0) (.int 0)) (.bi .len (.cons (.ix (.loc 0) (.int 1)) .nil)))) .nil) .nil) (.cons (.if_ (.op .isin (.loc 1) (.tup (.cons (.str "least") (.cons (.str "most") .nil)))) (.cons (.ret (.ite (.op .eq (.loc 1) (.str "least")) (.bi .min (.cons (.call f_degrees (.cons (.loc 0) .nil)) .nil)) (.bi .max (.cons (.call f_degrees (.cons (.loc 0) .nil)) .nil)))) .nil) .nil) (.cons (.if_ (.op .eq (.loc 1) (.str "pieces")) (.cons (.ret (.bi .len (.cons (.call f_pieces_of (.cons (.loc 0) (.cons (.lrng (.cons (.ix (.loc 0) (.int 0)) .nil)) .nil))) .nil))) .nil) .nil) (.cons (.if_ (.op .isin (.loc 1) (.tup (.cons (.str "ring") (.cons (.str "far") .nil)))) (.cons (.ret (.ite (.op .eq (.loc 1) (.str "ring")) (.call f_ring_of (.cons (.loc 0) .nil)) (.call f_far_of (.cons (.loc 0) .nil)))) .nil) .nil) (.cons (.if_ (.op .isin (.loc 1) (.tup (.cons (.str "clique") (.cons (.str "free") .nil)))) (.cons (.ret (.bi .len (.cons (.call f_clique (.cons (.ite (.op .eq (.loc 1) (.str "clique")) (.loc 0) (.call f_contrary (.cons (.loc 0) .nil))) .nil)) .nil))) .nil) .nil) (.cons (.if_ (.op .isin (.loc 1) (.tup (.cons (.str "colours") (.cons (.str "pairs") .nil)))) (.cons (.ret (.ite (.op .eq (.loc 1) (.str "colours")) (.op .add (.bi .max (.cons (.call f_coloured (.cons (.loc 0) .nil)) .nil)) (.int 1)) (.bi .len (.cons (.call f_pairings (.cons (.ix (.loc 0) (.int 1)) .nil)) .nil)))) .nil) .nil) (.cons .no .nil))))))
abbrev N_measure : List Str := ["web", "word"]
abbrev d_measure : Fd := ⟨"measure", 2, N_measure, b_measure⟩
def b__law_cell_at : Sms := .cons (.if_ (.op .lt (.loc 1) (.bi .len (.cons (.loc 0) .nil))) (.cons (.ret (.ix (.loc 0) (.loc 1))) .nil) .nil) (.cons (.ret (.int 0)) .nil)
abbrev N__law_cell_at : List Str := ["script", "k"]
abbrev d__law_cell_at : Fd := ⟨"_law_cell_at", 2, N__law_cell_at, b__law_cell_at⟩
def b__law_draws_0 : Sms := .cons (.asg 5 (.op .mod (.op .add (.op .add (.op .add (.op .mul (.loc 5) (.loc 5)) (.op .mul (.int 48271) (.loc 5))) (.loc 6)) (.int 1)) (.int 2305843009213693951))) (.cons (.if_ (.and (.cons (.op .gt (.loc 6) (.int 2)) (.cons (.op .gt (.loc 4) (.int 0)) .nil))) (.cons (.mut .append 3 (.cons (.op .mod (.loc 4) (.loc 2)) .nil)) (.cons (.asg 4 (.op .fdiv (.loc 4) (.loc 2))) .nil)) (.cons (.if_ (.op .gt (.loc 6) (.int 2)) (.cons (.mut .append 3 (.cons (.op .mod (.op .fdiv (.loc 5) (.int 4096)) (.loc 2)) .nil)) .nil) .nil) .nil)) .nil)
def b__law_draws : Sms := .cons (.asg 3 (.lst .nil)) (.cons (.asg 4 (.op .mul (.loc 0) (.bi .int (.cons (.op .ge (.loc 0) (.op .pow (.int 10) (.int 18))) .nil)))) (.cons (.asg 5 (.op .mod (.loc 0) (.int 2305843009213693951))) (.cons (.for_ [6] false (.rng (.cons (.op .add (.loc 1) (.int 3)) .nil)) b__law_draws_0) (.cons (.ret (.loc 3)) .nil))))
abbrev N__law_draws : List Str := ["cell", "many", "size", "found", "rest", "stirred", "k"]
abbrev d__law_draws : Fd := ⟨"_law_draws", 3, N__law_draws, b__law_draws⟩
def e__law_pairs_0 : Tm := .tup (.cons (.loc 2) (.cons (.loc 3) .nil))
def b__law_pairs_1 : Sms := .cons (.asg 1 (.op .add (.loc 1) (.comp e__law_pairs_0 [3] false (.rng (.cons (.op .add (.loc 2) (.int 1)) (.cons (.loc 0) .nil))) .nil [3]))) .nil
def b__law_pairs : Sms := .cons (.asg 1 (.lst .nil)) (.cons (.for_ [2] false (.rng (.cons (.loc 0) .nil)) b__law_pairs_1) (.cons (.ret (.loc 1)) .nil))
abbrev N__law_pairs : List Str := ["many", "found", "one", "other"]
abbrev d__law_pairs : Fd := ⟨"_law_pairs", 1, N__law_pairs, b__law_pairs⟩
def e__law_web_0 : Tm := .loc 6
def c__law_web_1 : Tms := .cons (.op .eq (.op .eq (.op .mod (.ix (.loc 0) (.op .add (.int 2) (.loc 5))) (.loc 3)) (.int 0)) (.op .lt (.op .mod (.ix (.loc 0) (.int 1)) (.int 4)) (.int 2))) .nil
def b__law_web : Sms := .cons (.asg 2 (.op .add (.int 1) (.op .mod (.ix (.loc 0) (.int 0)) (.loc 1)))) (.cons (.asg 3 (.ix (.lst (.cons (.int 2) (.cons (.int 3) (.cons (.int 3) (.cons (.int 2) .nil))))) (.op .mod (.ix (.loc 0) (.int 1)) (.int 4)))) (.cons (.asg 4 (.comp e__law_web_0 [5, 6] true (.enum (.call f__law_pairs (.cons (.loc 2) .nil))) c__law_web_1 [5, 6])) (.cons (.ret (.tup (.cons (.loc 2) (.cons (.bi .tuple (.cons (.loc 4) .nil)) .nil)))) .nil)))
abbrev N__law_web : List Str := ["picks", "limit", "many", "kind", "ties", "k", "pair"]
abbrev d__law_web : Fd := ⟨"_law_web", 2, N__law_web, b__law_web⟩
def b__law_order_0 : Sms := .cons (.mut .insert 2 (.cons (.op .mod (.ix (.loc 0) (.loc 3)) (.op .add (.loc 3) (.int 1))) (.cons (.loc 3) .nil))) .nil
def b__law_order : Sms := .cons (.asg 2 (.lst .nil)) (.cons (.for_ [3] false (.rng (.cons (.loc 1) .nil)) b__law_order_0) (.cons (.ret (.bi .tuple (.cons (.loc 2) .nil))) .nil))
abbrev N__law_order : List Str := ["picks", "many", "found", "k"]
abbrev d__law_order : Fd := ⟨"_law_order", 2, N__law_order, b__law_order⟩
def b_law_0 : Sms := .cons (.asg 6 (.op .mul (.loc 6) (.loc 7))) .nil
def b_law_1 : Sms := .cons (.asg 2 (.call f__law_draws (.cons (.loc 1) (.cons (.int 60) (.cons (.int 1000) .nil))))) (.fz [2] (.cons (.asg 3 (.call f__law_web (.cons (.loc 2) (.cons (.int 6) .nil)))) (.fz [3] (.cons (.asg 4 (.call f_numbered (.cons (.loc 3) (.cons (.call f__law_order (.cons (.sl (.loc 2) (.cons (.int 30) .nil) .nil) (.cons (.ix (.loc 3) (.int 0)) .nil))) .nil)))) (.fz [3] (.cons (.asg 5 (.call f_symmetries (.cons (.loc 3) .nil))) (.cons (.asg 6 (.int 1)) (.cons (.for_ [7] false (.rng (.cons (.int 1) (.cons (.op .add (.ix (.loc 3) (.int 0)) (.int 1)) .nil))) b_law_0) (.fz [3, 4] (.cons (.if_ (.or (.cons (.op .ne (.call f_fits_many (.cons (.loc 3) (.cons (.loc 4) .nil))) (.loc 5)) (.cons (.op .ne (.call f_symmetries (.cons (.loc 4) .nil)) (.loc 5)) (.cons (.op .ne (.call f_symmetries (.cons (.call f_contrary (.cons (.loc 3) .nil)) .nil)) (.loc 5)) .nil)))) (.cons (.ret (.bl false)) .nil) .nil) (.fz [4, 3] (.cons (.if_ (.or (.cons (.op .ne (.call f_symmetries (.cons (.call f_plain (.cons (.loc 3) .nil)) .nil)) (.loc 5)) (.cons (.op .ne (.op .mul (.loc 5) (.call f_count (.cons (.loc 3) .nil))) (.loc 6)) (.cons (.op .ne (.call f_count (.cons (.loc 4) .nil)) (.call f_count (.cons (.loc 3) .nil))) .nil)))) (.cons (.ret (.bl false)) .nil) .nil) (.cons (.if_ (.or (.cons (.op .ne (.call f_symmetries (.cons (.tup (.cons (.ix (.loc 3) (.int 0)) (.cons (.tup .nil) .nil))) .nil)) (.loc 6)) (.cons (.op .ne (.call f_symmetries (.cons (.call f_contrary (.cons (.tup (.cons (.ix (.loc 3) (.int 0)) (.cons (.tup .nil) .nil))) .nil)) .nil)) (.loc 6)) .nil))) (.cons (.ret (.bl false)) .nil) .nil) (.fz [3] (.cons (.if_ (.and (.cons (.op .lt (.ix (.loc 3) (.int 0)) (.int 4)) (.cons (.op .eq (.call f_measure (.cons (.loc 3) (.cons (.str "pieces") .nil))) (.int 1)) (.cons (.op .ne (.call f_symmetries (.cons (.call f_beside (.cons (.loc 3) (.cons (.loc 3) .nil))) .nil)) (.op .mul (.op .mul (.int 2) (.loc 5)) (.loc 5))) .nil)))) (.cons (.ret (.bl false)) .nil) .nil) (.cons (.asg 8 (.call f__law_web (.cons (.sl (.loc 2) (.cons (.int 40) .nil) .nil) (.cons (.int 5) .nil)))) (.fz [3, 8] (.cons (.if_ (.and (.cons (.not (.call f_alike (.cons (.loc 3) (.cons (.loc 8) .nil)))) (.cons (.op .ne (.call f_fits_many (.cons (.loc 3) (.cons (.loc 8) .nil))) (.int 0)) .nil))) (.cons (.ret (.bl false)) .nil) .nil) .nil))))))))))))))))))
def b_law : Sms := .cons (.for_ [1] false (.tm (.op .add (.lst (.cons (.call f__law_cell_at (.cons (.loc 0) (.cons (.int 0) .nil))) .nil)) (.sl (.loc 0) (.cons (.int 1) .nil) (.cons (.int 4) .nil)))) b_law_1) (.cons (.ret (.bl true)) .nil)
abbrev N_law : List Str := ["script", "cell", "picks", "web", "other", "many", "orders", "number", "third"]
abbrev d_law : Fd := ⟨"law", 1, N_law, b_law⟩
def tb : List Fd := (d_pairs_of) :: (d_in_order) :: (d_tied) :: (d_contrary) :: (d_beside) :: (d_numbered) :: (d_near) :: (d_degrees) :: (d_goes_on) :: (d_fits_from) :: (d_fit) :: (d_fits_many) :: (d_symmetries) :: (d_alike) :: (d_orders_of) :: (d_plain) :: (d_lots_of) :: (d_count) :: (d_pieces_of) :: (d_ways_from) :: (d_ring_of) :: (d_far_of) :: (d_is_clique) :: (d_clique) :: (d_colourings) :: (d_coloured) :: (d_pairings) :: (d_measure) :: (d__law_cell_at) :: (d__law_draws) :: (d__law_pairs) :: (d__law_web) :: (d__law_order) :: (d_law) :: []
theorem tb_pairs_of : tb[f_pairs_of]? = some d_pairs_of := rfl
theorem tb_in_order : tb[f_in_order]? = some d_in_order := rfl
theorem tb_tied : tb[f_tied]? = some d_tied := rfl
theorem tb_contrary : tb[f_contrary]? = some d_contrary := rfl
theorem tb_beside : tb[f_beside]? = some d_beside := rfl
theorem tb_numbered : tb[f_numbered]? = some d_numbered := rfl
theorem tb_near : tb[f_near]? = some d_near := rfl
theorem tb_degrees : tb[f_degrees]? = some d_degrees := rfl
theorem tb_goes_on : tb[f_goes_on]? = some d_goes_on := rfl
theorem tb_fits_from : tb[f_fits_from]? = some d_fits_from := rfl
theorem tb_fit : tb[f_fit]? = some d_fit := rfl
theorem tb_fits_many : tb[f_fits_many]? = some d_fits_many := rfl
theorem tb_symmetries : tb[f_symmetries]? = some d_symmetries := rfl
theorem tb_alike : tb[f_alike]? = some d_alike := rfl
theorem tb_orders_of : tb[f_orders_of]? = some d_orders_of := rfl
theorem tb_plain : tb[f_plain]? = some d_plain := rfl
theorem tb_lots_of : tb[f_lots_of]? = some d_lots_of := rfl
theorem tb_count : tb[f_count]? = some d_count := rfl
theorem tb_pieces_of : tb[f_pieces_of]? = some d_pieces_of := rfl
theorem tb_ways_from : tb[f_ways_from]? = some d_ways_from := rfl
theorem tb_ring_of : tb[f_ring_of]? = some d_ring_of := rfl
theorem tb_far_of : tb[f_far_of]? = some d_far_of := rfl
theorem tb_is_clique : tb[f_is_clique]? = some d_is_clique := rfl
theorem tb_clique : tb[f_clique]? = some d_clique := rfl
theorem tb_colourings : tb[f_colourings]? = some d_colourings := rfl
theorem tb_coloured : tb[f_coloured]? = some d_coloured := rfl
theorem tb_pairings : tb[f_pairings]? = some d_pairings := rfl
theorem tb_measure : tb[f_measure]? = some d_measure := rfl
theorem tb__law_cell_at : tb[f__law_cell_at]? = some d__law_cell_at := rfl
theorem tb__law_draws : tb[f__law_draws]? = some d__law_draws := rfl
theorem tb__law_pairs : tb[f__law_pairs]? = some d__law_pairs := rfl
theorem tb__law_web : tb[f__law_web]? = some d__law_web := rfl
theorem tb__law_order : tb[f__law_order]? = some d__law_order := rfl
theorem tb_law : tb[f_law]? = some d_law := rfl
def fnN : List Str := ("pairs_of") :: ("in_order") :: ("tied") :: ("contrary") :: ("beside") :: ("numbered") :: ("near") :: ("degrees") :: ("goes_on") :: ("fits_from") :: ("fit") :: ("fits_many") :: ("symmetries") :: ("alike") :: ("orders_of") :: ("plain") :: ("lots_of") :: ("count") :: ("pieces_of") :: ("ways_from") :: ("ring_of") :: ("far_of") :: ("is_clique") :: ("clique") :: ("colourings") :: ("coloured") :: ("pairings") :: ("measure") :: ("_law_cell_at") :: ("_law_draws") :: ("_law_pairs") :: ("_law_web") :: ("_law_order") :: ("law") :: []
def tx : Tx := ⟨fnN, [], [("MOST_KNOTS", .int 7)], [], [N_clique]⟩
theorem chk_pairs_of : chkSs tx N_pairs_of (defScope (top 6)) b_pairs_of (defBody (top 6)) = true := by decide +kernel
theorem sc_pairs_of : FnScope N_pairs_of ["many"] (defScope (top 6)) := ⟨rfl, rfl, rfl, by decide +kernel, rfl, by decide +kernel, by decide +kernel⟩
def D_pairs_of : He.DefD := ⟨("pairs_of", none), "pairs_of", "pairs_of", defArgs (top 6), defBody (top 6), defScope (top 6), [], []⟩
theorem chk_in_order : chkSs tx N_in_order (defScope (top 7)) b_in_order (defBody (top 7)) = true := by decide +kernel
theorem sc_in_order : FnScope N_in_order ["one", "other"] (defScope (top 7)) := ⟨rfl, rfl, rfl, by decide +kernel, rfl, by decide +kernel, by decide +kernel⟩
def D_in_order : He.DefD := ⟨("in_order", none), "in_order", "in_order", defArgs (top 7), defBody (top 7), defScope (top 7), [], []⟩
theorem chk_tied : chkSs tx N_tied (defScope (top 8)) b_tied (defBody (top 8)) = true := by decide +kernel
theorem sc_tied : FnScope N_tied ["web", "one", "other"] (defScope (top 8)) := ⟨rfl, rfl, rfl, by decide +kernel, rfl, by decide +kernel, by decide +kernel⟩
def D_tied : He.DefD := ⟨("tied", none), "tied", "tied", defArgs (top 8), defBody (top 8), defScope (top 8), [], []⟩
theorem chk_contrary : chkSs tx N_contrary (defScope (top 9)) b_contrary (defBody (top 9)) = true := by decide +kernel
theorem sc_contrary : FnScope N_contrary ["web"] (defScope (top 9)) := ⟨rfl, rfl, rfl, by decide +kernel, rfl, by decide +kernel, by decide +kernel⟩
def D_contrary : He.DefD := ⟨("contrary", none), "contrary", "contrary", defArgs (top 9), defBody (top 9), defScope (top 9), [], []⟩
theorem chk_beside : chkSs tx N_beside (defScope (top 10)) b_beside (defBody (top 10)) = true := by decide +kernel
theorem sc_beside : FnScope N_beside ["one", "other"] (defScope (top 10)) := ⟨rfl, rfl, rfl, by decide +kernel, rfl, by decide +kernel, by decide +kernel⟩
def D_beside : He.DefD := ⟨("beside", none), "beside", "beside", defArgs (top 10), defBody (top 10), defScope (top 10), [], []⟩
theorem chk_numbered : chkSs tx N_numbered (defScope (top 11)) b_numbered (defBody (top 11)) = true := by decide +kernel
theorem sc_numbered : FnScope N_numbered ["web", "row"] (defScope (top 11)) := ⟨rfl, rfl, rfl, by decide +kernel, rfl, by decide +kernel, by decide +kernel⟩
def D_numbered : He.DefD := ⟨("numbered", none), "numbered", "numbered", defArgs (top 11), defBody (top 11), defScope (top 11), [], []⟩
theorem chk_near : chkSs tx N_near (defScope (top 12)) b_near (defBody (top 12)) = true := by decide +kernel
theorem sc_near : FnScope N_near ["web", "knot"] (defScope (top 12)) := ⟨rfl, rfl, rfl, by decide +kernel, rfl, by decide +kernel, by decide +kernel⟩
def D_near : He.DefD := ⟨("near", none), "near", "near", defArgs (top 12), defBody (top 12), defScope (top 12), [], []⟩
theorem chk_degrees : chkSs tx N_degrees (defScope (top 13)) b_degrees (defBody (top 13)) = true := by decide +kernel
theorem sc_degrees : FnScope N_degrees ["web"] (defScope (top 13)) := ⟨rfl, rfl, rfl, by decide +kernel, rfl, by decide +kernel, by decide +kernel⟩
def D_degrees : He.DefD := ⟨("degrees", none), "degrees", "degrees", defArgs (top 13), defBody (top 13), defScope (top 13), [], []⟩
theorem chk_goes_on : chkSs tx N_goes_on (defScope (top 15)) b_goes_on (defBody (top 15)) = true := by decide +kernel
theorem sc_goes_on : FnScope N_goes_on ["one", "other", "laid", "knot"] (defScope (top 15)) := ⟨rfl, rfl, rfl, by decide +kernel, rfl, by decide +kernel, by decide +kernel⟩
def D_goes_on : He.DefD := ⟨("goes_on", none), "goes_on", "goes_on", defArgs (top 15), defBody (top 15), defScope (top 15), [], []⟩
theorem chk_fits_from : chkSs tx N_fits_from (defScope (top 16)) b_fits_from (defBody (top 16)) = true := by decide +kernel
theorem sc_fits_from : FnScope N_fits_from ["one", "other", "laid", "most"] (defScope (top 16)) := ⟨rfl, rfl, rfl, by decide +kernel, rfl, by decide +kernel, by decide +kernel⟩
def D_fits_from : He.DefD := ⟨("fits_from", none), "fits_from", "fits_from", defArgs (top 16), defBody (top 16), defScope (top 16), [], []⟩
theorem chk_fit : chkSs tx N_fit (defScope (top 17)) b_fit (defBody (top 17)) = true := by decide +kernel
theorem sc_fit : FnScope N_fit ["one", "other"] (defScope (top 17)) := ⟨rfl, rfl, rfl, by decide +kernel, rfl, by decide +kernel, by decide +kernel⟩
def D_fit : He.DefD := ⟨("fit", none), "fit", "fit", defArgs (top 17), defBody (top 17), defScope (top 17), [], []⟩
theorem chk_fits_many : chkSs tx N_fits_many (defScope (top 18)) b_fits_many (defBody (top 18)) = true := by decide +kernel
theorem sc_fits_many : FnScope N_fits_many ["one", "other"] (defScope (top 18)) := ⟨rfl, rfl, rfl, by decide +kernel, rfl, by decide +kernel, by decide +kernel⟩
def D_fits_many : He.DefD := ⟨("fits_many", none), "fits_many", "fits_many", defArgs (top 18), defBody (top 18), defScope (top 18), [], []⟩
theorem chk_symmetries : chkSs tx N_symmetries (defScope (top 19)) b_symmetries (defBody (top 19)) = true := by decide +kernel
theorem sc_symmetries : FnScope N_symmetries ["web"] (defScope (top 19)) := ⟨rfl, rfl, rfl, by decide +kernel, rfl, by decide +kernel, by decide +kernel⟩
def D_symmetries : He.DefD := ⟨("symmetries", none), "symmetries", "symmetries", defArgs (top 19), defBody (top 19), defScope (top 19), [], []⟩
theorem chk_alike : chkSs tx N_alike (defScope (top 20)) b_alike (defBody (top 20)) = true := by decide +kernel
theorem sc_alike : FnScope N_alike ["one", "other"] (defScope (top 20)) := ⟨rfl, rfl, rfl, by decide +kernel, rfl, by decide +kernel, by decide +kernel⟩
def D_alike : He.DefD := ⟨("alike", none), "alike", "alike", defArgs (top 20), defBody (top 20), defScope (top 20), [], []⟩
theorem chk_orders_of : chkSs tx N_orders_of (defScope (top 21)) b_orders_of (defBody (top 21)) = true := by decide +kernel
theorem sc_orders_of : FnScope N_orders_of ["knots"] (defScope (top 21)) := ⟨rfl, rfl, rfl, by decide +kernel, rfl, by decide +kernel, by decide +kernel⟩
def D_orders_of : He.DefD := ⟨("orders_of", none), "orders_of", "orders_of", defArgs (top 21), defBody (top 21), defScope (top 21), [], []⟩
theorem chk_plain : chkSs tx N_plain (defScope (top 22)) b_plain (defBody (top 22)) = true := by decide +kernel
theorem sc_plain : FnScope N_plain ["web"] (defScope (top 22)) := ⟨rfl, rfl, rfl, by decide +kernel, rfl, by decide +kernel, by decide +kernel⟩
def D_plain : He.DefD := ⟨("plain", none), "plain", "plain", defArgs (top 22), defBody (top 22), defScope (top 22), [], []⟩
theorem chk_lots_of : chkSs tx N_lots_of (defScope (top 24)) b_lots_of (defBody (top 24)) = true := by decide +kernel
theorem sc_lots_of : FnScope N_lots_of ["many"] (defScope (top 24)) := ⟨rfl, rfl, rfl, by decide +kernel, rfl, by decide +kernel, by decide +kernel⟩
def D_lots_of : He.DefD := ⟨("lots_of", none), "lots_of", "lots_of", defArgs (top 24), defBody (top 24), defScope (top 24), [], []⟩
theorem chk_count : chkSs tx N_count (defScope (top 25)) b_count (defBody (top 25)) = true := by decide +kernel
theorem sc_count : FnScope N_count ["web"] (defScope (top 25)) := ⟨rfl, rfl, rfl, by decide +kernel, rfl, by decide +kernel, by decide +kernel⟩
def D_count : He.DefD := ⟨("count", none), "count", "count", defArgs (top 25), defBody (top 25), defScope (top 25), [], []⟩
theorem chk_pieces_of : chkSs tx N_pieces_of (defScope (top 27)) b_pieces_of (defBody (top 27)) = true := by decide +kernel
theorem sc_pieces_of : FnScope N_pieces_of ["web", "knots"] (defScope (top 27)) := ⟨rfl, rfl, rfl, by decide +kernel, rfl, by decide +kernel, by decide +kernel⟩
def D_pieces_of : He.DefD := ⟨("pieces_of", none), "pieces_of", "pieces_of", defArgs (top 27), defBody (top 27), defScope (top 27), [], []⟩
theorem chk_ways_from : chkSs tx N_ways_from (defScope (top 28)) b_ways_from (defBody (top 28)) = true := by decide +kernel
theorem sc_ways_from : FnScope N_ways_from ["web", "start", "barred"] (defScope (top 28)) := ⟨rfl, rfl, rfl, by decide +kernel, rfl, by decide +kernel, by decide +kernel⟩
def D_ways_from : He.DefD := ⟨("ways_from", none), "ways_from", "ways_from", defArgs (top 28), defBody (top 28), defScope (top 28), [], []⟩
theorem chk_ring_of : chkSs tx N_ring_of (defScope (top 29)) b_ring_of (defBody (top 29)) = true := by decide +kernel
theorem sc_ring_of : FnScope N_ring_of ["web"] (defScope (top 29)) := ⟨rfl, rfl, rfl, by decide +kernel, rfl, by decide +kernel, by decide +kernel⟩
def D_ring_of : He.DefD := ⟨("ring_of", none), "ring_of", "ring_of", defArgs (top 29), defBody (top 29), defScope (top 29), [], []⟩
theorem chk_far_of : chkSs tx N_far_of (defScope (top 30)) b_far_of (defBody (top 30)) = true := by decide +kernel
theorem sc_far_of : FnScope N_far_of ["web"] (defScope (top 30)) := ⟨rfl, rfl, rfl, by decide +kernel, rfl, by decide +kernel, by decide +kernel⟩
def D_far_of : He.DefD := ⟨("far_of", none), "far_of", "far_of", defArgs (top 30), defBody (top 30), defScope (top 30), [], []⟩
theorem chk_is_clique : chkSs tx N_is_clique (defScope (top 31)) b_is_clique (defBody (top 31)) = true := by decide +kernel
theorem sc_is_clique : FnScope N_is_clique ["web", "knots"] (defScope (top 31)) := ⟨rfl, rfl, rfl, by decide +kernel, rfl, by decide +kernel, by decide +kernel⟩
def D_is_clique : He.DefD := ⟨("is_clique", none), "is_clique", "is_clique", defArgs (top 31), defBody (top 31), defScope (top 31), [], []⟩
theorem chk_clique : chkSs tx N_clique (defScope (top 32)) b_clique (defBody (top 32)) = true := by decide +kernel
theorem sc_clique : FnScope N_clique ["web"] (defScope (top 32)) := ⟨rfl, rfl, rfl, by decide +kernel, rfl, by decide +kernel, by decide +kernel⟩
def D_clique : He.DefD := ⟨("clique", none), "clique", "clique", defArgs (top 32), defBody (top 32), defScope (top 32), [], []⟩
theorem chk_colourings : chkSs tx N_colourings (defScope (top 33)) b_colourings (defBody (top 33)) = true := by decide +kernel
theorem sc_colourings : FnScope N_colourings ["web", "many", "row"] (defScope (top 33)) := ⟨rfl, rfl, rfl, by decide +kernel, rfl, by decide +kernel, by decide +kernel⟩
def D_colourings : He.DefD := ⟨("colourings", none), "colourings", "colourings", defArgs (top 33), defBody (top 33), defScope (top 33), [], []⟩
theorem chk_coloured : chkSs tx N_coloured (defScope (top 34)) b_coloured (defBody (top 34)) = true := by decide +kernel
theorem sc_coloured : FnScope N_coloured ["web"] (defScope (top 34)) := ⟨rfl, rfl, rfl, by decide +kernel, rfl, by decide +kernel, by decide +kernel⟩
def D_coloured : He.DefD := ⟨("coloured", none), "coloured", "coloured", defArgs (top 34), defBody (top 34), defScope (top 34), [], []⟩
theorem chk_pairings : chkSs tx N_pairings (defScope (top 35)) b_pairings (defBody (top 35)) = true := by decide +kernel
theorem sc_pairings : FnScope N_pairings ["ties"] (defScope (top 35)) := ⟨rfl, rfl, rfl, by decide +kernel, rfl, by decide +kernel, by decide +kernel⟩
def D_pairings : He.DefD := ⟨("pairings", none), "pairings", "pairings", defArgs (top 35), defBody (top 35), defScope (top 35), [], []⟩
theorem chk_measure : chkSs tx N_measure (defScope (top 36)) b_measure (defBody (top 36)) = true := by decide +kernel
theorem sc_measure : FnScope N_measure ["web", "word"] (defScope (top 36)) := ⟨rfl, rfl, rfl, by decide +kernel, rfl, by decide +kernel, by decide +kernel⟩
def D_measure : He.DefD := ⟨("measure", none), "measure", "measure", defArgs (top 36), defBody (top 36), defScope (top 36), [], []⟩
theorem chk__law_cell_at : chkSs tx N__law_cell_at (defScope (top 38)) b__law_cell_at (defBody (top 38)) = true := by decide +kernel
theorem sc__law_cell_at : FnScope N__law_cell_at ["script", "k"] (defScope (top 38)) := ⟨rfl, rfl, rfl, by decide +kernel, rfl, by decide +kernel, by decide +kernel⟩
def D__law_cell_at : He.DefD := ⟨("_law_cell_at", none), "_law_cell_at", "_law_cell_at", defArgs (top 38), defBody (top 38), defScope (top 38), [], []⟩
theorem chk__law_draws : chkSs tx N__law_draws (defScope (top 39)) b__law_draws (defBody (top 39)) = true := by decide +kernel
theorem sc__law_draws : FnScope N__law_draws ["cell", "many", "size"] (defScope (top 39)) := ⟨rfl, rfl, rfl, by decide +kernel, rfl, by decide +kernel, by decide +kernel⟩
def D__law_draws : He.DefD := ⟨("_law_draws", none), "_law_draws", "_law_draws", defArgs (top 39), defBody (top 39), defScope (top 39), [], []⟩
theorem chk__law_pairs : chkSs tx N__law_pairs (defScope (top 40)) b__law_pairs (defBody (top 40)) = true := by decide +kernel
theorem sc__law_pairs : FnScope N__law_pairs ["many"] (defScope (top 40)) := ⟨rfl, rfl, rfl, by decide +kernel, rfl, by decide +kernel, by decide +kernel⟩
def D__law_pairs : He.DefD := ⟨("_law_pairs", none), "_law_pairs", "_law_pairs", defArgs (top 40), defBody (top 40), defScope (top 40), [], []⟩
theorem chk__law_web : chkSs tx N__law_web (defScope (top 41)) b__law_web (defBody (top 41)) = true := by decide +kernel
theorem sc__law_web : FnScope N__law_web ["picks", "limit"] (defScope (top 41)) := ⟨rfl, rfl, rfl, by decide +kernel, rfl, by decide +kernel, by decide +kernel⟩
def D__law_web : He.DefD := ⟨("_law_web", none), "_law_web", "_law_web", defArgs (top 41), defBody (top 41), defScope (top 41), [], []⟩
theorem chk__law_order : chkSs tx N__law_order (defScope (top 42)) b__law_order (defBody (top 42)) = true := by decide +kernel
theorem sc__law_order : FnScope N__law_order ["picks", "many"] (defScope (top 42)) := ⟨rfl, rfl, rfl, by decide +kernel, rfl, by decide +kernel, by decide +kernel⟩
def D__law_order : He.DefD := ⟨("_law_order", none), "_law_order", "_law_order", defArgs (top 42), defBody (top 42), defScope (top 42), [], []⟩
theorem chk_law : chkSs tx N_law (defScope (top 43)) b_law (defBody (top 43)) = true := by decide +kernel
theorem sc_law : FnScope N_law ["script"] (defScope (top 43)) := ⟨rfl, rfl, rfl, by decide +kernel, rfl, by decide +kernel, by decide +kernel⟩
def D_law : He.DefD := ⟨("law", none), "law", "law", defArgs (top 43), defBody (top 43), defScope (top 43), [], []⟩
def fn : List He.DefD := (D_pairs_of) :: (D_in_order) :: (D_tied) :: (D_contrary) :: (D_beside) :: (D_numbered) :: (D_near) :: (D_degrees) :: (D_goes_on) :: (D_fits_from) :: (D_fit) :: (D_fits_many) :: (D_symmetries) :: (D_alike) :: (D_orders_of) :: (D_plain) :: (D_lots_of) :: (D_count) :: (D_pieces_of) :: (D_ways_from) :: (D_ring_of) :: (D_far_of) :: (D_is_clique) :: (D_clique) :: (D_colourings) :: (D_coloured) :: (D_pairings) :: (D_measure) :: (D__law_cell_at) :: (D__law_draws) :: (D__law_pairs) :: (D__law_web) :: (D__law_order) :: (D_law) :: []
def fa : List He.Fa := (.glo "pairs_of") :: (.glo "in_order") :: (.glo "tied") :: (.glo "contrary") :: (.glo "beside") :: (.glo "numbered") :: (.glo "near") :: (.glo "degrees") :: (.glo "goes_on") :: (.glo "fits_from") :: (.glo "fit") :: (.glo "fits_many") :: (.glo "symmetries") :: (.glo "alike") :: (.glo "orders_of") :: (.glo "plain") :: (.glo "lots_of") :: (.glo "count") :: (.glo "pieces_of") :: (.glo "ways_from") :: (.glo "ring_of") :: (.glo "far_of") :: (.glo "is_clique") :: (.glo "clique") :: (.glo "colourings") :: (.glo "coloured") :: (.glo "pairings") :: (.glo "measure") :: (.glo "_law_cell_at") :: (.glo "_law_draws") :: (.glo "_law_pairs") :: (.glo "_law_web") :: (.glo "_law_order") :: (.glo "law") :: (.free "len") :: (.free "all") :: (.free "any") :: (.free "sum") :: (.free "max") :: (.free "min") :: (.free "sorted") :: (.free "tuple") :: (.free "list") :: (.free "int") :: (.free "str") :: (.free "repr") :: (.free "bool") :: (.free "isinstance") :: (.free "set") :: (.free "range") :: (.free "enumerate") :: (.free "zip") :: (.free "dict") :: (.int "MOST_KNOTS" 7) :: []
abbrev ROW : PySem.W.OpenRow := PySem.W.OpenLaw.row PySem.Challenge.rw_websworn_k08_whole_symmetries
def tf : List He.Defn := [("clique", none)]
def ex (K : PySem.W.Frag) : Bool := (tabsApart tf K)
abbrev hk : PySem.W.Hook := He.hookX 4 fa fn [] tf ex
def ob (s : PySem.W.SharedT) : He.AlX := He.obsX 4 fa fn [] tf ex (HandSHeadRun.getT s)
theorem ob_eq (s : PySem.W.SharedT) : ob s = hk.obs s.abs := He.obsX_eq (HandSHeadRun.getT_eq s)
def loose : List PySem.Str := ("__name__") :: ("SwornError") :: ("TooMany") :: ("NoMeasure") :: ("MOST_KNOTS") :: ("pairs_of") :: ("in_order") :: ("tied") :: ("contrary") :: ("beside") :: ("numbered") :: ("near") :: ("degrees") :: ("goes_on") :: ("fits_from") :: ("fit") :: ("fits_many") :: ("symmetries") :: ("alike") :: ("orders_of") :: ("plain") :: ("lots_of") :: ("count") :: ("pieces_of") :: ("ways_from") :: ("ring_of") :: ("far_of") :: ("is_clique") :: ("clique") :: ("colourings") :: ("coloured") :: ("pairings") :: ("measure") :: ("_law_cell_at") :: ("_law_draws") :: ("_law_pairs") :: ("_law_web") :: ("_law_order") :: []
theorem run (w : World) : HandSHeadRun.RunEq ROW (PySem.W.view ROW.prog [43]) hk ob 4000 loose w := by
  intro os
  kernel_rfl
def fad (K : PySem.W.Frag) (f : Nat) : Option Addr := (fnN[f]?).map (He.ga K)
theorem def_pairs_of {K : PySem.W.Frag} {h : Heap} {mg : Str → Option Value} (X : K.In h) (G : h.Ns mainGlobals mg) (c : He.SaysD fa fn K) : DefOk tx tb K mg (fad K) f_pairs_of "pairs_of" := by
  obtain ⟨fd, F⟩ := c.def_ 0 (d := D_pairs_of) rfl
  exact ⟨_, fd, d_pairs_of, _, _, _, _, rfl, He.glo_ok X G (c.fact 0 (f := .glo "pairs_of") rfl), tb_pairs_of, F, sc_pairs_of, rfl, F.bindsN fun _ _ _ _ _ _ us hl => match us, hl with | [_], _ => rfl, chk_pairs_of⟩
theorem def_in_order {K : PySem.W.Frag} {h : Heap} {mg : Str → Option Value} (X : K.In h) (G : h.Ns mainGlobals mg) (c : He.SaysD fa fn K) : DefOk tx tb K mg (fad K) f_in_order "in_order" := by
  obtain ⟨fd, F⟩ := c.def_ 1 (d := D_in_order) rfl
  exact ⟨_, fd, d_in_order, _, _, _, _, rfl, He.glo_ok X G (c.fact 1 (f := .glo "in_order") rfl), tb_in_order, F, sc_in_order, rfl, F.bindsN fun _ _ _ _ _ _ us hl => match us, hl with | [_, _], _ => rfl, chk_in_order⟩
theorem def_tied {K : PySem.W.Frag} {h : Heap} {mg : Str → Option Value} (X : K.In h) (G : h.Ns mainGlobals mg) (c : He.SaysD fa fn K) : DefOk tx tb K mg (fad K) f_tied "tied" := by
  obtain ⟨fd, F⟩ := c.def_ 2 (d := D_tied) rfl
  exact ⟨_, fd, d_tied, _, _, _, _, rfl, He.glo_ok X G (c.fact 2 (f := .glo "tied") rfl), tb_tied, F, sc_tied, rfl, F.bindsN fun _ _ _ _ _ _ us hl => match us, hl with | [_, _, _], _ => rfl, chk_tied⟩
theorem def_contrary {K : PySem.W.Frag} {h : Heap} {mg : Str → Option Value} (X : K.In h) (G : h.Ns mainGlobals mg) (c : He.SaysD fa fn K) : DefOk tx tb K mg (fad K) f_contrary "contrary" := by
  obtain ⟨fd, F⟩ := c.def_ 3 (d := D_contrary) rfl
  exact ⟨_, fd, d_contrary, _, _, _, _, rfl, He.glo_ok X G (c.fact 3 (f := .glo "contrary") rfl), tb_contrary, F, sc_contrary, rfl, F.bindsN fun _ _ _ _ _ _ us hl => match us, hl with | [_], _ => rfl, chk_contrary⟩
theorem def_beside {K : PySem.W.Frag} {h : Heap} {mg : Str → Option Value} (X : K.In h) (G : h.Ns mainGlobals mg) (c : He.SaysD fa fn K) : DefOk tx tb K mg (fad K) f_beside "beside" := by
  obtain ⟨fd, F⟩ := c.def_ 4 (d := D_beside) rfl
  exact ⟨_, fd, d_beside, _, _, _, _, rfl, He.glo_ok X G (c.fact 4 (f := .glo "beside") rfl), tb_beside, F, sc_beside, rfl, F.bindsN fun _ _ _ _ _ _ us hl => match us, hl with | [_, _], _ => rfl, chk_beside⟩
theorem def_numbered {K : PySem.W.Frag} {h : Heap} {mg : Str → Option Value} (X : K.In h) (G : h.Ns mainGlobals mg) (c : He.SaysD fa fn K) : DefOk tx tb K mg (fad K) f_numbered "numbered" := by
  obtain ⟨fd, F⟩ := c.def_ 5 (d := D_numbered) rfl
  exact ⟨_, fd, d_numbered, _, _, _, _, rfl, He.glo_ok X G (c.fact 5 (f := .glo "numbered") rfl), tb_numbered, F, sc_numbered, rfl, F.bindsN fun _ _ _ _ _ _ us hl => match us, hl with | [_, _], _ => rfl, chk_numbered⟩
theorem def_near {K : PySem.W.Frag} {h : Heap} {mg : Str → Option Value} (X : K.In h) (G : h.Ns mainGlobals mg) (c : He.SaysD fa fn K) : DefOk tx tb K mg (fad K) f_near "near" := by
  obtain ⟨fd, F⟩ := c.def_ 6 (d := D_near) rfl
  exact ⟨_, fd, d_near, _, _, _, _, rfl, He.glo_ok X G (c.fact 6 (f := .glo "near") rfl), tb_near, F, sc_near, rfl, F.bindsN fun _ _ _ _ _ _ us hl => match us, hl with | [_, _], _ => rfl, chk_near⟩
theorem def_degrees {K : PySem.W.Frag} {h : Heap} {mg : Str → Option Value} (X : K.In h) (G : h.Ns mainGlobals mg) (c : He.SaysD fa fn K) : DefOk tx tb K mg (fad K) f_degrees "degrees" := by
  obtain ⟨fd, F⟩ := c.def_ 7 (d := D_degrees) rfl
  exact ⟨_, fd, d_degrees, _, _, _, _, rfl, He.glo_ok X G (c.fact 7 (f := .glo "degrees") rfl), tb_degrees, F, sc_degrees, rfl, F.bindsN fun _ _ _ _ _ _ us hl => match us, hl with | [_], _ => rfl, chk_degrees⟩
theorem def_goes_on {K : PySem.W.Frag} {h : Heap} {mg : Str → Option Value} (X : K.In h) (G : h.Ns mainGlobals mg) (c : He.SaysD fa fn K) : DefOk tx tb K mg (fad K) f_goes_on "goes_on" := by
  obtain ⟨fd, F⟩ := c.def_ 8 (d := D_goes_on) rfl
  exact ⟨_, fd, d_goes_on, _, _, _, _, rfl, He.glo_ok X G (c.fact 8 (f := .glo "goes_on") rfl), tb_goes_on, F, sc_goes_on, rfl, F.bindsN fun _ _ _ _ _ _ us hl => match us, hl with | [_, _, _, _], _ => rfl, chk_goes_on⟩
theorem def_fits_from {K : PySem.W.Frag} {h : Heap} {mg : Str → Option Value} (X : K.In h) (G : h.Ns mainGlobals mg) (c : He.SaysD fa fn K) : DefOk tx tb K mg (fad K) f_fits_from "fits_from" := by
  obtain ⟨fd, F⟩ := c.def_ 9 (d := D_fits_from) rfl
  exact ⟨_, fd, d_fits_from, _, _, _, _, rfl, He.glo_ok X G (c.fact 9 (f := .glo "fits_from") rfl), tb_fits_from, F, sc_fits_from, rfl, F.bindsN fun _ _ _ _ _ _ us hl => match us, hl with | [_, _, _, _], _ => rfl, chk_fits_from⟩
theorem def_fit {K : PySem.W.Frag} {h : Heap} {mg : Str → Option Value} (X : K.In h) (G : h.Ns mainGlobals mg) (c : He.SaysD fa fn K) : DefOk tx tb K mg (fad K) f_fit "fit" := by
  obtain ⟨fd, F⟩ := c.def_ 10 (d := D_fit) rfl
  exact ⟨_, fd, d_fit, _, _, _, _, rfl, He.glo_ok X G (c.fact 10 (f := .glo "fit") rfl), tb_fit, F, sc_fit, rfl, F.bindsN fun _ _ _ _ _ _ us hl => match us, hl with | [_, _], _ => rfl, chk_fit⟩
theorem def_fits_many {K : PySem.W.Frag} {h : Heap} {mg : Str → Option Value} (X : K.In h) (G : h.Ns mainGlobals mg) (c : He.SaysD fa fn K) : DefOk tx tb K mg (fad K) f_fits_many "fits_many" := by
  obtain ⟨fd, F⟩ := c.def_ 11 (d := D_fits_many) rfl
  exact ⟨_, fd, d_fits_many, _, _, _, _, rfl, He.glo_ok X G (c.fact 11 (f := .glo "fits_many") rfl), tb_fits_many, F, sc_fits_many, rfl, F.bindsN fun _ _ _ _ _ _ us hl => match us, hl with | [_, _], _ => rfl, chk_fits_many⟩
theorem def_symmetries {K : PySem.W.Frag} {h : Heap} {mg : Str → Option Value} (X : K.In h) (G : h.Ns mainGlobals mg) (c : He.SaysD fa fn K) : DefOk tx tb K mg (fad K) f_symmetries "symmetries" := by
  obtain ⟨fd, F⟩ := c.def_ 12 (d := D_symmetries) rfl
  exact ⟨_, fd, d_symmetries, _, _, _, _, rfl, He.glo_ok X G (c.fact 12 (f := .glo "symmetries") rfl), tb_symmetries, F, sc_symmetries, rfl, F.bindsN fun _ _ _ _ _ _ us hl => match us, hl with | [_], _ => rfl, chk_symmetries⟩
theorem def_alike {K : PySem.W.Frag} {h : Heap} {mg : Str → Option Value} (X : K.In h) (G : h.Ns mainGlobals mg) (c : He.SaysD fa fn K) : DefOk tx tb K mg (fad K) f_alike "alike" := by
  obtain ⟨fd, F⟩ := c.def_ 13 (d := D_alike) rfl
  exact ⟨_, fd, d_alike, _, _, _, _, rfl, He.glo_ok X G (c.fact 13 (f := .glo "alike") rfl), tb_alike, F, sc_alike, rfl, F.bindsN fun _ _ _ _ _ _ us hl => match us, hl with | [_, _], _ => rfl, chk_alike⟩
theorem def_orders_of {K : PySem.W.Frag} {h : Heap} {mg : Str → Option Value} (X : K.In h) (G : h.Ns mainGlobals mg) (c : He.SaysD fa fn K) : DefOk tx tb K mg (fad K) f_orders_of "orders_of" := by
  obtain ⟨fd, F⟩ := c.def_ 14 (d := D_orders_of) rfl
  exact ⟨_, fd, d_orders_of, _, _, _, _, rfl, He.glo_ok X G (c.fact 14 (f := .glo "orders_of") rfl), tb_orders_of, F, sc_orders_of, rfl, F.bindsN fun _ _ _ _ _ _ us hl => match us, hl with | [_], _ => rfl, chk_orders_of⟩
theorem def_plain {K : PySem.W.Frag} {h : Heap} {mg : Str → Option Value} (X : K.In h) (G : h.Ns mainGlobals mg) (c : He.SaysD fa fn K) : DefOk tx tb K mg (fad K) f_plain "plain" := by
  obtain ⟨fd, F⟩ := c.def_ 15 (d := D_plain) rfl
  exact ⟨_, fd, d_plain, _, _, _, _, rfl, He.glo_ok X G (c.fact 15 (f := .glo "plain") rfl), tb_plain, F, sc_plain, rfl, F.bindsN fun _ _ _ _ _ _ us hl => match us, hl with | [_], _ => rfl, chk_plain⟩
theorem def_lots_of {K : PySem.W.Frag} {h : Heap} {mg : Str → Option Value} (X : K.In h) (G : h.Ns mainGlobals mg) (c : He.SaysD fa fn K) : DefOk tx tb K mg (fad K) f_lots_of "lots_of" := by
  obtain ⟨fd, F⟩ := c.def_ 16 (d := D_lots_of) rfl
  exact ⟨_, fd, d_lots_of, _, _, _, _, rfl, He.glo_ok X G (c.fact 16 (f := .glo "lots_of") rfl), tb_lots_of, F, sc_lots_of, rfl, F.bindsN fun _ _ _ _ _ _ us hl => match us, hl with | [_], _ => rfl, chk_lots_of⟩
theorem def_count {K : PySem.W.Frag} {h : Heap} {mg : Str → Option Value} (X : K.In h) (G : h.Ns mainGlobals mg) (c : He.SaysD fa fn K) : DefOk tx tb K mg (fad K) f_count "count" := by
  obtain ⟨fd, F⟩ := c.def_ 17 (d := D_count) rfl
  exact ⟨_, fd, d_count, _, _, _, _, rfl, He.glo_ok X G (c.fact 17 (f := .glo "count") rfl), tb_count, F, sc_count, rfl, F.bindsN fun _ _ _ _ _ _ us hl => match us, hl with | [_], _ => rfl, chk_count⟩
theorem def_pieces_of {K : PySem.W.Frag} {h : Heap} {mg : Str → Option Value} (X : K.In h) (G : h.Ns mainGlobals mg) (c : He.SaysD fa fn K) : DefOk tx tb K mg (fad K) f_pieces_of "pieces_of" := by
  obtain ⟨fd, F⟩ := c.def_ 18 (d := D_pieces_of) rfl
  exact ⟨_, fd, d_pieces_of, _, _, _, _, rfl, He.glo_ok X G (c.fact 18 (f := .glo "pieces_of") rfl), tb_pieces_of, F, sc_pieces_of, rfl, F.bindsN fun _ _ _ _ _ _ us hl => match us, hl with | [_, _], _ => rfl, chk_pieces_of⟩
theorem def_ways_from {K : PySem.W.Frag} {h : Heap} {mg : Str → Option Value} (X : K.In h) (G : h.Ns mainGlobals mg) (c : He.SaysD fa fn K) : DefOk tx tb K mg (fad K) f_ways_from "ways_from" := by
  obtain ⟨fd, F⟩ := c.def_ 19 (d := D_ways_from) rfl
  exact ⟨_, fd, d_ways_from, _, _, _, _, rfl, He.glo_ok X G (c.fact 19 (f := .glo "ways_from") rfl), tb_ways_from, F, sc_ways_from, rfl, F.bindsN fun _ _ _ _ _ _ us hl => match us, hl with | [_, _, _], _ => rfl, chk_ways_from⟩
theorem def_ring_of {K : PySem.W.Frag} {h : Heap} {mg : Str → Option Value} (X : K.In h) (G : h.Ns mainGlobals mg) (c : He.SaysD fa fn K) : DefOk tx tb K mg (fad K) f_ring_of "ring_of" := by
  obtain ⟨fd, F⟩ := c.def_ 20 (d := D_ring_of) rfl
  exact ⟨_, fd, d_ring_of, _, _, _, _, rfl, He.glo_ok X G (c.fact 20 (f := .glo "ring_of") rfl), tb_ring_of, F, sc_ring_of, rfl, F.bindsN fun _ _ _ _ _ _ us hl => match us, hl with | [_], _ => rfl, chk_ring_of⟩
theorem def_far_of {K : PySem.W.Frag} {h : Heap} {mg : Str → Option Value} (X : K.In h) (G : h.Ns mainGlobals mg) (c : He.SaysD fa fn K) : DefOk tx tb K mg (fad K) f_far_of "far_of" := by
  obtain ⟨fd, F⟩ := c.def_ 21 (d := D_far_of) rfl
  exact ⟨_, fd, d_far_of, _, _, _, _, rfl, He.glo_ok X G (c.fact 21 (f := .glo "far_of") rfl), tb_far_of, F, sc_far_of, rfl, F.bindsN fun _ _ _ _ _ _ us hl => match us, hl with | [_], _ => rfl, chk_far_of⟩
theorem def_is_clique {K : PySem.W.Frag} {h : Heap} {mg : Str → Option Value} (X : K.In h) (G : h.Ns mainGlobals mg) (c : He.SaysD fa fn K) : DefOk tx tb K mg (fad K) f_is_clique "is_clique" := by
  obtain ⟨fd, F⟩ := c.def_ 22 (d := D_is_clique) rfl
  exact ⟨_, fd, d_is_clique, _, _, _, _, rfl, He.glo_ok X G (c.fact 22 (f := .glo "is_clique") rfl), tb_is_clique, F, sc_is_clique, rfl, F.bindsN fun _ _ _ _ _ _ us hl => match us, hl with | [_, _], _ => rfl, chk_is_clique⟩
theorem def_clique {K : PySem.W.Frag} {h : Heap} {mg : Str → Option Value} (X : K.In h) (G : h.Ns mainGlobals mg) (c : He.SaysD fa fn K) : DefOk tx tb K mg (fad K) f_clique "clique" := by
  obtain ⟨fd, F⟩ := c.def_ 23 (d := D_clique) rfl
  exact ⟨_, fd, d_clique, _, _, _, _, rfl, He.glo_ok X G (c.fact 23 (f := .glo "clique") rfl), tb_clique, F, sc_clique, rfl, F.bindsN fun _ _ _ _ _ _ us hl => match us, hl with | [_], _ => rfl, chk_clique⟩
theorem def_colourings {K : PySem.W.Frag} {h : Heap} {mg : Str → Option Value} (X : K.In h) (G : h.Ns mainGlobals mg) (c : He.SaysD fa fn K) : DefOk tx tb K mg (fad K) f_colourings "colourings" := by
  obtain ⟨fd, F⟩ := c.def_ 24 (d := D_colourings) rfl
  exact ⟨_, fd, d_colourings, _, _, _, _, rfl, He.glo_ok X G (c.fact 24 (f := .glo "colourings") rfl), tb_colourings, F, sc_colourings, rfl, F.bindsN fun _ _ _ _ _ _ us hl => match us, hl with | [_, _, _], _ => rfl, chk_colourings⟩
theorem def_coloured {K : PySem.W.Frag} {h : Heap} {mg : Str → Option Value} (X : K.In h) (G : h.Ns mainGlobals mg) (c : He.SaysD fa fn K) : DefOk tx tb K mg (fad K) f_coloured "coloured" := by
  obtain ⟨fd, F⟩ := c.def_ 25 (d := D_coloured) rfl
  exact ⟨_, fd, d_coloured, _, _, _, _, rfl, He.glo_ok X G (c.fact 25 (f := .glo "coloured") rfl), tb_coloured, F, sc_coloured, rfl, F.bindsN fun _ _ _ _ _ _ us hl => match us, hl with | [_], _ => rfl, chk_coloured⟩
theorem def_pairings {K : PySem.W.Frag} {h : Heap} {mg : Str → Option Value} (X : K.In h) (G : h.Ns mainGlobals mg) (c : He.SaysD fa fn K) : DefOk tx tb K mg (fad K) f_pairings "pairings" := by
  obtain ⟨fd, F⟩ := c.def_ 26 (d := D_pairings) rfl
  exact ⟨_, fd, d_pairings, _, _, _, _, rfl, He.glo_ok X G (c.fact 26 (f := .glo "pairings") rfl), tb_pairings, F, sc_pairings, rfl, F.bindsN fun _ _ _ _ _ _ us hl => match us, hl with | [_], _ => rfl, chk_pairings⟩
theorem def_measure {K : PySem.W.Frag} {h : Heap} {mg : Str → Option Value} (X : K.In h) (G : h.Ns mainGlobals mg) (c : He.SaysD fa fn K) : DefOk tx tb K mg (fad K) f_measure "measure" := by
  obtain ⟨fd, F⟩ := c.def_ 27 (d := D_measure) rfl
  exact ⟨_, fd, d_measure, _, _, _, _, rfl, He.glo_ok X G (c.fact 27 (f := .glo "measure") rfl), tb_measure, F, sc_measure, rfl, F.bindsN fun _ _ _ _ _ _ us hl => match us, hl with | [_, _], _ => rfl, chk_measure⟩
theorem def__law_cell_at {K : PySem.W.Frag} {h : Heap} {mg : Str → Option Value} (X : K.In h) (G : h.Ns mainGlobals mg) (c : He.SaysD fa fn K) : DefOk tx tb K mg (fad K) f__law_cell_at "_law_cell_at" := by
  obtain ⟨fd, F⟩ := c.def_ 28 (d := D__law_cell_at) rfl
  exact ⟨_, fd, d__law_cell_at, _, _, _, _, rfl, He.glo_ok X G (c.fact 28 (f := .glo "_law_cell_at") rfl), tb__law_cell_at, F, sc__law_cell_at, rfl, F.bindsN fun _ _ _ _ _ _ us hl => match us, hl with | [_, _], _ => rfl, chk__law_cell_at⟩
theorem def__law_draws {K : PySem.W.Frag} {h : Heap} {mg : Str → Option Value} (X : K.In h) (G : h.Ns mainGlobals mg) (c : He.SaysD fa fn K) : DefOk tx tb K mg (fad K) f__law_draws "_law_draws" := by
  obtain ⟨fd, F⟩ := c.def_ 29 (d := D__law_draws) rfl
  exact ⟨_, fd, d__law_draws, _, _, _, _, rfl, He.glo_ok X G (c.fact 29 (f := .glo "_law_draws") rfl), tb__law_draws, F, sc__law_draws, rfl, F.bindsN fun _ _ _ _ _ _ us hl => match us, hl with | [_, _, _], _ => rfl, chk__law_draws⟩
theorem def__law_pairs {K : PySem.W.Frag} {h : Heap} {mg : Str → Option Value} (X : K.In h) (G : h.Ns mainGlobals mg) (c : He.SaysD fa fn K) : DefOk tx tb K mg (fad K) f__law_pairs "_law_pairs" := by
  obtain ⟨fd, F⟩ := c.def_ 30 (d := D__law_pairs) rfl
  exact ⟨_, fd, d__law_pairs, _, _, _, _, rfl, He.glo_ok X G (c.fact 30 (f := .glo "_law_pairs") rfl), tb__law_pairs, F, sc__law_pairs, rfl, F.bindsN fun _ _ _ _ _ _ us hl => match us, hl with | [_], _ => rfl, chk__law_pairs⟩
theorem def__law_web {K : PySem.W.Frag} {h : Heap} {mg : Str → Option Value} (X : K.In h) (G : h.Ns mainGlobals mg) (c : He.SaysD fa fn K) : DefOk tx tb K mg (fad K) f__law_web "_law_web" := by
  obtain ⟨fd, F⟩ := c.def_ 31 (d := D__law_web) rfl
  exact ⟨_, fd, d__law_web, _, _, _, _, rfl, He.glo_ok X G (c.fact 31 (f := .glo "_law_web") rfl), tb__law_web, F, sc__law_web, rfl, F.bindsN fun _ _ _ _ _ _ us hl => match us, hl with | [_, _], _ => rfl, chk__law_web⟩
theorem def__law_order {K : PySem.W.Frag} {h : Heap} {mg : Str → Option Value} (X : K.In h) (G : h.Ns mainGlobals mg) (c : He.SaysD fa fn K) : DefOk tx tb K mg (fad K) f__law_order "_law_order" := by
  obtain ⟨fd, F⟩ := c.def_ 32 (d := D__law_order) rfl
  exact ⟨_, fd, d__law_order, _, _, _, _, rfl, He.glo_ok X G (c.fact 32 (f := .glo "_law_order") rfl), tb__law_order, F, sc__law_order, rfl, F.bindsN fun _ _ _ _ _ _ us hl => match us, hl with | [_, _], _ => rfl, chk__law_order⟩
theorem def_law {K : PySem.W.Frag} {h : Heap} {mg : Str → Option Value} (X : K.In h) (G : h.Ns mainGlobals mg) (c : He.SaysD fa fn K) : DefOk tx tb K mg (fad K) f_law "law" := by
  obtain ⟨fd, F⟩ := c.def_ 33 (d := D_law) rfl
  exact ⟨_, fd, d_law, _, _, _, _, rfl, He.glo_ok X G (c.fact 33 (f := .glo "law") rfl), tb_law, F, sc_law, rfl, F.bindsN fun _ _ _ _ _ _ us hl => match us, hl with | [_], _ => rfl, chk_law⟩
theorem topOk {w : World} {K : PySem.W.Frag} {h : Heap} {mg : Str → Option Value} (X : K.In h) (G : h.Ns mainGlobals mg) (c : He.SaysD fa fn K) (cx : ex K = true) : TopOk tx tb w K mg (fad K) where
  bl := fun x hx => by
    simp only [bltN, List.mem_cons, List.not_mem_nil, or_false] at hx
    rcases hx with rfl | rfl | rfl | rfl | rfl | rfl | rfl | rfl | rfl | rfl | rfl | rfl | rfl | rfl | rfl | rfl | rfl | rfl | rfl
    · exact He.free_ok X G (c.fact 34 (f := .free "len") rfl)
    · exact He.free_ok X G (c.fact 35 (f := .free "all") rfl)
    · exact He.free_ok X G (c.fact 36 (f := .free "any") rfl)
    · exact He.free_ok X G (c.fact 37 (f := .free "sum") rfl)
    · exact He.free_ok X G (c.fact 38 (f := .free "max") rfl)
    · exact He.free_ok X G (c.fact 39 (f := .free "min") rfl)
    · exact He.free_ok X G (c.fact 40 (f := .free "sorted") rfl)
    · exact He.free_ok X G (c.fact 41 (f := .free "tuple") rfl)
    · exact He.free_ok X G (c.fact 42 (f := .free "list") rfl)
    · exact He.free_ok X G (c.fact 43 (f := .free "int") rfl)
    · exact He.free_ok X G (c.fact 44 (f := .free "str") rfl)
    · exact He.free_ok X G (c.fact 45 (f := .free "repr") rfl)
    · exact He.free_ok X G (c.fact 46 (f := .free "bool") rfl)
    · exact He.free_ok X G (c.fact 47 (f := .free "isinstance") rfl)
    · exact He.free_ok X G (c.fact 48 (f := .free "set") rfl)
    · exact He.free_ok X G (c.fact 49 (f := .free "range") rfl)
    · exact He.free_ok X G (c.fact 50 (f := .free "enumerate") rfl)
    · exact He.free_ok X G (c.fact 51 (f := .free "zip") rfl)
    · exact He.free_ok X G (c.fact 52 (f := .free "dict") rfl)
  cons := fun x d hx => by
    have hm := mem_of_lookup hx
    simp only [tx, List.mem_cons, List.not_mem_nil, or_false, Prod.mk.injEq] at hm
    rcases hm with ⟨rfl, rfl⟩
    · obtain ⟨t, e⟩ := He.int_ok X G (c.fact 53 (f := .int "MOST_KNOTS" 7) rfl)
      exact ⟨_, .int 7, e, ⟨t, rfl⟩, fun F => .int _⟩
  dics := fun x d hx => by
    cases hx
  defs := fun f x hx => by
    match f, hx with
    | 0, hx => cases hx; exact def_pairs_of X G c
    | 1, hx => cases hx; exact def_in_order X G c
    | 2, hx => cases hx; exact def_tied X G c
    | 3, hx => cases hx; exact def_contrary X G c
    | 4, hx => cases hx; exact def_beside X G c
    | 5, hx => cases hx; exact def_numbered X G c
    | 6, hx => cases hx; exact def_near X G c
    | 7, hx => cases hx; exact def_degrees X G c
    | 8, hx => cases hx; exact def_goes_on X G c
    | 9, hx => cases hx; exact def_fits_from X G c
    | 10, hx => cases hx; exact def_fit X G c
    | 11, hx => cases hx; exact def_fits_many X G c
    | 12, hx => cases hx; exact def_symmetries X G c
    | 13, hx => cases hx; exact def_alike X G c
    | 14, hx => cases hx; exact def_orders_of X G c
    | 15, hx => cases hx; exact def_plain X G c
    | 16, hx => cases hx; exact def_lots_of X G c
    | 17, hx => cases hx; exact def_count X G c
    | 18, hx => cases hx; exact def_pieces_of X G c
    | 19, hx => cases hx; exact def_ways_from X G c
    | 20, hx => cases hx; exact def_ring_of X G c
    | 21, hx => cases hx; exact def_far_of X G c
    | 22, hx => cases hx; exact def_is_clique X G c
    | 23, hx => cases hx; exact def_clique X G c
    | 24, hx => cases hx; exact def_colourings X G c
    | 25, hx => cases hx; exact def_coloured X G c
    | 26, hx => cases hx; exact def_pairings X G c
    | 27, hx => cases hx; exact def_measure X G c
    | 28, hx => cases hx; exact def__law_cell_at X G c
    | 29, hx => cases hx; exact def__law_draws X G c
    | 30, hx => cases hx; exact def__law_pairs X G c
    | 31, hx => cases hx; exact def__law_web X G c
    | 32, hx => cases hx; exact def__law_order X G c
    | 33, hx => cases hx; exact def_law X G c
    | f + 34, hx => cases hx
theorem tabOk [Tbs] {K : PySem.W.Frag} {mg : Str → Option Value} {base : Heap} (hB : ∀ p ∈ tf, LamX.TabB base mg (He.cT K p).1 (He.cT K p).2) (hm : ∀ p ∈ tf, ((He.cT K p).2, p.1 ++ ".<locals>." ++ "<lambda>") ∈ Tbs.T) (hu : ∀ p ∈ tf, ∀ q ∈ Tbs.T, q.1 = (He.cT K p).2 → q.2 = p.1 ++ ".<locals>." ++ "<lambda>") : TabOk tx tb K mg (fad K) base := fun f x d a h1 h2 h3 h4 => by
  match f, h1, h2, h4 with
  | 0, h1, h2, h4 => cases h2.symm.trans tb_pairs_of; exact absurd h3 (by decide +kernel)
  | 1, h1, h2, h4 => cases h2.symm.trans tb_in_order; exact absurd h3 (by decide +kernel)
  | 2, h1, h2, h4 => cases h2.symm.trans tb_tied; exact absurd h3 (by decide +kernel)
  | 3, h1, h2, h4 => cases h2.symm.trans tb_contrary; exact absurd h3 (by decide +kernel)
  | 4, h1, h2, h4 => cases h2.symm.trans tb_beside; exact absurd h3 (by decide +kernel)
  | 5, h1, h2, h4 => cases h2.symm.trans tb_numbered; exact absurd h3 (by decide +kernel)
  | 6, h1, h2, h4 => cases h2.symm.trans tb_near; exact absurd h3 (by decide +kernel)
  | 7, h1, h2, h4 => cases h2.symm.trans tb_degrees; exact absurd h3 (by decide +kernel)
  | 8, h1, h2, h4 => cases h2.symm.trans tb_goes_on; exact absurd h3 (by decide +kernel)
  | 9, h1, h2, h4 => cases h2.symm.trans tb_fits_from; exact absurd h3 (by decide +kernel)
  | 10, h1, h2, h4 => cases h2.symm.trans tb_fit; exact absurd h3 (by decide +kernel)
  | 11, h1, h2, h4 => cases h2.symm.trans tb_fits_many; exact absurd h3 (by decide +kernel)
  | 12, h1, h2, h4 => cases h2.symm.trans tb_symmetries; exact absurd h3 (by decide +kernel)
  | 13, h1, h2, h4 => cases h2.symm.trans tb_alike; exact absurd h3 (by decide +kernel)
  | 14, h1, h2, h4 => cases h2.symm.trans tb_orders_of; exact absurd h3 (by decide +kernel)
  | 15, h1, h2, h4 => cases h2.symm.trans tb_plain; exact absurd h3 (by decide +kernel)
  | 16, h1, h2, h4 => cases h2.symm.trans tb_lots_of; exact absurd h3 (by decide +kernel)
  | 17, h1, h2, h4 => cases h2.symm.trans tb_count; exact absurd h3 (by decide +kernel)
  | 18, h1, h2, h4 => cases h2.symm.trans tb_pieces_of; exact absurd h3 (by decide +kernel)
  | 19, h1, h2, h4 => cases h2.symm.trans tb_ways_from; exact absurd h3 (by decide +kernel)
  | 20, h1, h2, h4 => cases h2.symm.trans tb_ring_of; exact absurd h3 (by decide +kernel)
  | 21, h1, h2, h4 => cases h2.symm.trans tb_far_of; exact absurd h3 (by decide +kernel)
  | 22, h1, h2, h4 => cases h2.symm.trans tb_is_clique; exact absurd h3 (by decide +kernel)
  | 23, h1, h2, h4 =>
    cases h1
    cases h4
    have hp : ((("clique" : PySem.Str), none) : He.Defn) ∈ tf := by unfold tf; exact mem_at (i := 0) rfl
    exact ⟨_, hB _ hp, hm _ hp, hu _ hp⟩
  | 24, h1, h2, h4 => cases h2.symm.trans tb_colourings; exact absurd h3 (by decide +kernel)
  | 25, h1, h2, h4 => cases h2.symm.trans tb_coloured; exact absurd h3 (by decide +kernel)
  | 26, h1, h2, h4 => cases h2.symm.trans tb_pairings; exact absurd h3 (by decide +kernel)
  | 27, h1, h2, h4 => cases h2.symm.trans tb_measure; exact absurd h3 (by decide +kernel)
  | 28, h1, h2, h4 => cases h2.symm.trans tb__law_cell_at; exact absurd h3 (by decide +kernel)
  | 29, h1, h2, h4 => cases h2.symm.trans tb__law_draws; exact absurd h3 (by decide +kernel)
  | 30, h1, h2, h4 => cases h2.symm.trans tb__law_pairs; exact absurd h3 (by decide +kernel)
  | 31, h1, h2, h4 => cases h2.symm.trans tb__law_web; exact absurd h3 (by decide +kernel)
  | 32, h1, h2, h4 => cases h2.symm.trans tb__law_order; exact absurd h3 (by decide +kernel)
  | 33, h1, h2, h4 => cases h2.symm.trans tb_law; exact absurd h3 (by decide +kernel)
  | f + 34, h1, h2, h4 => cases h1
theorem law_facts [Tbs] {P : Program} {w : World} {K : PySem.W.Frag} {h : Heap} {mg : Str → Option Value} {f : Addr} (X : K.In h) (G : h.Ns mainGlobals mg) (hfa : mg ("law" : Str) = some (.ref f)) (c : He.SaysD fa fn K) (cx : ex K = true) :
    ∃ fd : FuncData, (∀ (s : Shared) (v : Value), BindsTo s fd ⟨[v], []⟩ [("script", v)]) ∧ ∀ base : Heap, TabOk tx tb K mg (fad K) base → FnOk P w K mg base (CXa P) 230 f fd ["script"] (spF K (fad K) (fun _ => .none) (runF tb 230) f_law) := by
  obtain ⟨fd, F⟩ := c.def_ 33 (d := D_law) rfl
  have e := hfa.symm.trans (He.glo_ok X G (c.fact 33 (f := .glo "law") rfl))
  cases e
  have b := FunD.bindsA (ps := ["script"]) F fun _ _ _ _ _ _ us hl => match us, hl with | [_], _ => rfl
  exact ⟨fd, fun s v => b s [v] rfl, fun base ht => (fn_one (topOk X G c cx) ht (fn_ok (topOk X G c cx) ht 229) (f := f_law) rfl rfl tb_law F sc_law rfl chk_law).any⟩
end Wv
namespace Wv
open PySem PySem.Spec PyProof.Rows L2
local macro_rules | `(tactic| simp? only [$xs,*]) => `(tactic| simp only [exs, exS, ev, evTs, evDs, evAs, evAnd, evOr, evCond, evIt, evT, evB, evD, evK, b_ok, b_err, b_bad, k_ok, m_ok, dat_fz, dat_ow, keepV_no, keepV_fz, iL_loc, iL_non, iL_bl, iL_int, iL_str, iL_glo, iL_op, iL_chain, iL_neg, iL_not, iL_and, iL_or, iL_ite, iL_tup, iL_lst, iL_ix, iL_sl, iL_isi, iL_bi, iL_lenset, iL_sortset, iL_rep, iL_rev, iL_lrng, iL_mt, iL_call, iL_comp, iL_comp2, iL_dget, iL_dkeys, iL_trng, iL_trng2, iL_ptup, iL_ptl, iL_ptr, iL_ptr2, iL_tix, iL_dnew, iL_disp, iL_dix, iL_dgt, iL_dcopy, iL_gget, iL_gix, dicV_ow, dicV_fd, dat_pt, keepV_pt, argV_pt, lstOf, ptD, ptOf, starD, argV_fz, argV_ow, frzV_lst, frzV_tup, frzV_dct, boolV_bl, kB, kI, tyB, getO, frz, fin_rt, fin_nx, tmsLen, Gc.d, List.getElem?_cons_zero, List.getElem?_cons_succ, List.getElem?_nil, List.set_cons_zero, List.set_cons_succ, List.map_cons, List.map_nil, List.replicate_zero, List.replicate_succ, List.cons_append, List.nil_append, List.append_nil, List.any_cons, List.any_nil, List.all_cons, List.all_nil, Bool.or_false, Bool.false_or, Bool.or_true, Bool.true_or, Bool.and_true, Bool.true_and, Bool.and_false, Bool.false_and, Bool.not_true, Bool.not_false, Bool.not_not, Bool.false_eq_true, Bool.true_eq_false, if_true, if_false, ite_true, ite_false, Nat.reduceSub, Nat.reduceAdd, List.length_cons, List.length_nil, Nat.zero_add, reduceIte, id, plain_non, plain_bl, plain_int, plain_str, plain_lst, plain_tup, isDict_non, isDict_bl, isDict_int, isDict_str, isDict_lst, isDict_tup, eqD_int, eqD_bool, eqD_str, ltD_int, Int.reduceEq, Int.reduceLT, Int.reduceLE, Int.reduceAdd, Int.reduceSub, Int.reduceMul, Int.reduceToNat, Int.reduceNeg, Int.reduceMod, Int.reduceDiv, decide_true, decide_false, Bool.true_beq, Bool.false_beq, compL_sel, selL_some, selL_if, flatL_sel, flatT_some, allD_m, anyD_m, sumD_n, m_err, m_bad, Gc.d, List.length_map, Nat.add_zero, q_tn, q_tb, q_ti, q_tl, q_tt, q_addi, q_adds, q_addl, q_addt, q_sub, q_mul, q_fdiv, q_mod, q_pow, q_le, q_gt, q_ge, q_neg, q_inl, q_int, q_ins, q_add, q_sub2, q_mul2, q_fdiv2, q_mod2, q_pow2, q_eq, q_ne, q_lt, q_le2, q_gt2, q_ge2, q_in, q_ni, q_is, q_isn, q_non, q_nob, q_noi, q_nos, q_nol, q_not, q_ixl, q_ixt, q_ixs, q_bn0, q_bn1, q_sll, q_slt, q_sls, q_lenl, q_lent, q_lens, q_tul, q_tut, q_lil, q_lit, q_ini, q_inb, q_str, q_rep, q_itl, q_itt, q_its, q_enl, q_ent, q_zll, q_ztt, q_app, q_ins2, q_set, q_revl, q_revt, q_repd, q_isin, q_isib, q_isii, q_isis, q_isil, q_isit, q_bi, q_b1, q_b2, q_b3, q_b4, q_b5, q_b6, q_b7, q_b8, q_b9, q_b10, q_b11, q_b12, q_bt1, q_bt2, q_btp, q_dgt, pl_n, pl_pr, pl_wb, pl_tn, in_pr, in_n, in_i, in_ni, in_tn, in_wb, eq_pr, eq_wb, eq_i, eq_tn, eq_ln, eq_tp, eq_l0, q_nD, and_b, or_b, b_ite, k_ite, m_ite, Int.ofNat_inj, Int.ofNat_lt, Int.ofNat_le, Int.natCast_inj, Int.natCast_pos, dec_t, sort_n, sort_p, sort_w, sort_2, lt_pr, lt_wb, lt_tn, c_1, c_add, c_modc, c_mulc, enum_f, zip_f, q_bte, q_btz, c_modl, c_divl, c_addl, c_addr, c_mull, c_mulr, c_ltl, c_ltr, c_lel, c_ler, c_eql, c_eqr, List.length_append, str_tf, beq_self_eq_true, Nat.reduceEqDiff, Nat.reduceLT, Nat.reduceLeDiff, Nat.reduceMod, Nat.reduceMul, Nat.reduceDiv, all_tt, any_ff, wipeE, $xs,*])
/-! ### webs.py -/
def within (d : PyData) (lo hi : Int) : Bool := match d with
  | .int i => decide (lo ≤ i) && decide (i ≤ hi)
  | _ => false
def ord2 (a b : Nat) : Nat × Nat := if a < b then (a, b) else (b, a)
def Web.tied (w : Web) (a b : Nat) : Bool := decide (ord2 a b ∈ w.t)
def Web.near (w : Web) (k : Nat) : List Nat := (List.range w.n).filter fun o => !decide (o = k) && w.tied k o
def Web.degrees (w : Web) : List Nat := (List.range w.n).map fun k => (w.near k).length
theorem ix0 (w : Web) : ixD (wbD w) (.int 0) = .ok (.fz (.int (w.n : Nat))) := rfl
theorem ix1 (w : Web) : ixD (wbD w) (.int 1) = .ok (.fz (.tuple (w.t.map prD))) := rfl
def prs (m : Nat) : List (Nat × Nat) := (List.range m).flatMap fun a => (List.range' (a + 1) (m - (a + 1))).map fun b => (a, b)
def Web.contrary (w : Web) : Web := ⟨w.n, (prs w.n).filter fun p => !decide (p ∈ w.t)⟩
def Web.numbered (w : Web) (row : List Nat) : Web := ⟨w.n, sortP (w.t.map fun p => ord2 row[p.1]! row[p.2]!)⟩
theorem prs_mem {m : Nat} {p : Nat × Nat} : p ∈ prs m ↔ p.1 < p.2 ∧ p.2 < m := by
  unfold prs
  rw [List.mem_flatMap]
  constructor
  · rintro ⟨a, ha, hp⟩
    obtain ⟨b, hb, rfl⟩ := List.mem_map.mp hp
    have := List.mem_range.mp ha
    have := List.mem_range'_1.mp hb
    show a < b ∧ b < m
    omega
  · rintro ⟨h1, h2⟩
    refine ⟨p.1, List.mem_range.mpr (by omega), List.mem_map.mpr ⟨p.2, List.mem_range'_1.mpr (by omega), rfl⟩⟩
theorem flat_len {α β : Type} {f : α → List β} {k : Nat} : ∀ {l : List α}, (∀ x ∈ l, (f x).length ≤ k) → (l.flatMap f).length ≤ l.length * k
  | [], _ => by simp
  | a :: l, h => by
    have h1 := h a List.mem_cons_self
    have h2 := flat_len (l := l) fun x hx => h x (List.mem_cons_of_mem _ hx)
    rw [List.flatMap_cons, List.length_append, List.length_cons, Nat.succ_mul]
    omega
theorem prs_len {m : Nat} (h : m ≤ 100) : (prs m).length ≤ 10000 := by
  have := flat_len (l := List.range m) (f := fun a => (List.range' (a + 1) (m - (a + 1))).map fun b => (a, b)) (k := 100) fun a _ => by rw [List.length_map, List.length_range']; omega
  rw [List.length_range] at this
  unfold prs
  omega
theorem prs_rise (m : Nat) : (prs m).Pairwise fun a b => ltP a b = true := by
  unfold prs
  rw [List.pairwise_flatMap]
  refine ⟨fun a _ => ?_, ?_⟩
  · rw [List.pairwise_map]
    refine (List.pairwise_lt_range' 1).imp fun {x y} h => ?_
    simp only [ltP, ltTwo, ltN, if_true, decide_eq_true_eq]
    exact h
  · refine List.pairwise_lt_range.imp fun {a b} h => ?_
    intro x hx y hy
    obtain ⟨x, _, rfl⟩ := List.mem_map.mp hx
    obtain ⟨y, _, rfl⟩ := List.mem_map.mp hy
    simp only [ltP, ltTwo, ltN, if_neg (Nat.ne_of_lt h), decide_eq_true_eq]
    exact h
theorem p_in_order {L : Nat} (hL : 1 ≤ L) {a b : Nat} : runF tb L f_in_order [.fz (.int (a : Nat)), .fz (.int (b : Nat))] = .ok (.fz (prD (ord2 a b))) := by
  obtain ⟨n, rfl, hn'⟩ := lvl hL
  rw [run_of tb_in_order rfl]
  by_cases h : a < b
  · have h2 : ((a : Nat) : Int) < (b : Nat) := by omega
    simp? only [b_in_order, h2, ord2, if_pos h]
    rfl
  · have h2 : ¬ ((a : Nat) : Int) < (b : Nat) := by omega
    simp? only [b_in_order, h2, ord2, if_neg h]
    rfl
theorem p_tied {L : Nat} (hL : 2 ≤ L) {w : Web} {a b : Nat} : runF tb L f_tied [.fz (wbD w), .fz (.int (a : Nat)), .fz (.int (b : Nat))] = .ok (.fz (.bool (w.tied a b))) := by
  obtain ⟨n, rfl, hn'⟩ := lvl hL
  rw [run_of tb_tied rfl]
  simp? only [b_tied, p_in_order hn', ix1]
  rfl
theorem p_near {L : Nat} (hL : 3 ≤ L) {w : Web} (hw : w.n ≤ 100) {k : Nat} : runF tb L f_near [.fz (wbD w), .fz (.int (k : Nat))] = .ok (.ow (.list ((w.near k).map nD))) := by
  obtain ⟨n, rfl, hn'⟩ := lvl hL
  rw [run_of tb_near rfl]
  simp? only [b_near, ix0, rng_1 (show w.n ≤ 1000000 by omega), e_near_0, c_near_1, p_tied hn']
  rfl
theorem p_degrees {L : Nat} (hL : 4 ≤ L) {w : Web} (hw : w.n ≤ 100) : runF tb L f_degrees [.fz (wbD w)] = .ok (.ow (.list (w.degrees.map nD))) := by
  obtain ⟨n, rfl, hn'⟩ := lvl hL
  rw [run_of tb_degrees rfl]
  simp? only [b_degrees, ix0, rng_1 (show w.n ≤ 1000000 by omega), e_degrees_0, p_near hn' hw]
  unfold Web.degrees
  rw [List.map_map]
  rfl
theorem p_pairs_of {L : Nat} (hL : 1 ≤ L) {m : Nat} (hm : m ≤ 100) : runF tb L f_pairs_of [.fz (.int (m : Nat))] = .ok (.ow (.list ((prs m).map prD))) := by
  obtain ⟨n, rfl, hn'⟩ := lvl hL
  rw [run_of tb_pairs_of rfl]
  simp? only [b_pairs_of, rng_1 (show m ≤ 1000000 by omega), e_pairs_of_0]
  rw [flatT_ok (fun a => ((List.range' (a + 1) (m - (a + 1))).map fun b => (a, b)).map prD) fun a ha => ?_]
  · have e : (List.range m).flatMap (fun a => ((List.range' (a + 1) (m - (a + 1))).map fun b => (a, b)).map prD) = (prs m).map prD := by
      unfold prs
      rw [List.map_flatMap]
    have l := prs_len hm
    simp? only [e, show (prs m).length ≤ lim by show _ ≤ 1000000; omega]
  · have := List.mem_range.mp ha
    simp? only [rng_2 (show a + 1 ≤ 1000000 by omega) (show m ≤ 1000000 by omega)]
    rw [List.map_map]
    rfl
theorem p_contrary {L : Nat} (hL : 2 ≤ L) {w : Web} (hw : w.n ≤ 100) : runF tb L f_contrary [.fz (wbD w)] = .ok (.fz (wbD w.contrary)) := by
  obtain ⟨n, rfl, hn'⟩ := lvl hL
  rw [run_of tb_contrary rfl]
  simp? only [b_contrary, ix0, ix1, p_pairs_of hn' hw, e_contrary_0, c_contrary_1]
  rfl
theorem p_numbered {L : Nat} (hL : 2 ≤ L) {w : Web} {row : List Nat} (hw : ∀ p ∈ w.t, p.1 < row.length ∧ p.2 < row.length) {d : PyData} (hd : d = .tuple (row.map nD) ∨ d = .list (row.map nD)) : runF tb L f_numbered [.fz (wbD w), .fz d] = .ok (.fz (wbD (w.numbered row))) := by
  obtain ⟨n, rfl, hn'⟩ := lvl hL
  rw [run_of tb_numbered rfl]
  simp? only [b_numbered, ix0, ix1, e_numbered_0]
  rw [selL_all (fun p => prD (ord2 row[p.1]! row[p.2]!)) fun p hp => ?_]
  · have e : List.map (fun p => prD (ord2 row[p.1]! row[p.2]!)) w.t = (w.t.map fun p => ord2 row[p.1]! row[p.2]!).map prD := by rw [List.map_map]; rfl
    simp? only [e]
    rfl
  · obtain ⟨h1, h2⟩ := hw p hp
    rcases hd with rfl | rfl <;> simp? only [atI_d nD h1, atI_d nD h2, p_in_order hn']
end Wv
namespace Wv
open PySem PySem.Spec PyProof.Rows L2
local macro_rules | `(tactic| simp? only [$xs,*]) => `(tactic| simp only [exs, exS, ev, evTs, evDs, evAs, evAnd, evOr, evCond, evIt, evT, evB, evD, evK, b_ok, b_err, b_bad, k_ok, m_ok, dat_fz, dat_ow, keepV_no, keepV_fz, iL_loc, iL_non, iL_bl, iL_int, iL_str, iL_glo, iL_op, iL_chain, iL_neg, iL_not, iL_and, iL_or, iL_ite, iL_tup, iL_lst, iL_ix, iL_sl, iL_isi, iL_bi, iL_lenset, iL_sortset, iL_rep, iL_rev, iL_lrng, iL_mt, iL_call, iL_comp, iL_comp2, iL_dget, iL_dkeys, iL_trng, iL_trng2, iL_ptup, iL_ptl, iL_ptr, iL_ptr2, iL_tix, iL_dnew, iL_disp, iL_dix, iL_dgt, iL_dcopy, iL_gget, iL_gix, dicV_ow, dicV_fd, dat_pt, keepV_pt, argV_pt, lstOf, ptD, ptOf, starD, argV_fz, argV_ow, frzV_lst, frzV_tup, frzV_dct, boolV_bl, kB, kI, tyB, getO, frz, fin_rt, fin_nx, tmsLen, Gc.d, List.getElem?_cons_zero, List.getElem?_cons_succ, List.getElem?_nil, List.set_cons_zero, List.set_cons_succ, List.map_cons, List.map_nil, List.replicate_zero, List.replicate_succ, List.cons_append, List.nil_append, List.append_nil, List.any_cons, List.any_nil, List.all_cons, List.all_nil, Bool.or_false, Bool.false_or, Bool.or_true, Bool.true_or, Bool.and_true, Bool.true_and, Bool.and_false, Bool.false_and, Bool.not_true, Bool.not_false, Bool.not_not, Bool.false_eq_true, Bool.true_eq_false, if_true, if_false, ite_true, ite_false, Nat.reduceSub, Nat.reduceAdd, List.length_cons, List.length_nil, Nat.zero_add, reduceIte, id, plain_non, plain_bl, plain_int, plain_str, plain_lst, plain_tup, isDict_non, isDict_bl, isDict_int, isDict_str, isDict_lst, isDict_tup, eqD_int, eqD_bool, eqD_str, ltD_int, Int.reduceEq, Int.reduceLT, Int.reduceLE, Int.reduceAdd, Int.reduceSub, Int.reduceMul, Int.reduceToNat, Int.reduceNeg, Int.reduceMod, Int.reduceDiv, decide_true, decide_false, Bool.true_beq, Bool.false_beq, compL_sel, selL_some, selL_if, flatL_sel, flatT_some, allD_m, anyD_m, sumD_n, m_err, m_bad, Gc.d, List.length_map, Nat.add_zero, q_tn, q_tb, q_ti, q_tl, q_tt, q_addi, q_adds, q_addl, q_addt, q_sub, q_mul, q_fdiv, q_mod, q_pow, q_le, q_gt, q_ge, q_neg, q_inl, q_int, q_ins, q_add, q_sub2, q_mul2, q_fdiv2, q_mod2, q_pow2, q_eq, q_ne, q_lt, q_le2, q_gt2, q_ge2, q_in, q_ni, q_is, q_isn, q_non, q_nob, q_noi, q_nos, q_nol, q_not, q_ixl, q_ixt, q_ixs, q_bn0, q_bn1, q_sll, q_slt, q_sls, q_lenl, q_lent, q_lens, q_tul, q_tut, q_lil, q_lit, q_ini, q_inb, q_str, q_rep, q_itl, q_itt, q_its, q_enl, q_ent, q_zll, q_ztt, q_app, q_ins2, q_set, q_revl, q_revt, q_repd, q_isin, q_isib, q_isii, q_isis, q_isil, q_isit, q_bi, q_b1, q_b2, q_b3, q_b4, q_b5, q_b6, q_b7, q_b8, q_b9, q_b10, q_b11, q_b12, q_bt1, q_bt2, q_btp, q_dgt, pl_n, pl_pr, pl_wb, pl_tn, in_pr, in_n, in_i, in_ni, in_tn, in_wb, eq_pr, eq_wb, eq_i, eq_tn, eq_ln, eq_tp, eq_l0, q_nD, and_b, or_b, b_ite, k_ite, m_ite, Int.ofNat_inj, Int.ofNat_lt, Int.ofNat_le, Int.natCast_inj, Int.natCast_pos, dec_t, sort_n, sort_p, sort_w, sort_2, lt_pr, lt_wb, lt_tn, c_1, c_add, c_modc, c_mulc, enum_f, zip_f, q_bte, q_btz, c_modl, c_divl, c_addl, c_addr, c_mull, c_mulr, c_ltl, c_ltr, c_lel, c_ler, c_eql, c_eqr, List.length_append, str_tf, beq_self_eq_true, Nat.reduceEqDiff, Nat.reduceLT, Nat.reduceLeDiff, Nat.reduceMod, Nat.reduceMul, Nat.reduceDiv, all_tt, any_ff, wipeE, $xs,*])
/-! ### the law's helpers: draws, webs, orders -/
structure Web.Ok (w : Web) : Prop where
  pos : 1 ≤ w.n
  le : w.n ≤ 7
  rise : w.t.Pairwise fun a b => ltP a b = true
  mem : ∀ p ∈ w.t, p.1 < p.2 ∧ p.2 < w.n
theorem p_cell_at {L : Nat} (hL : 1 ≤ L) {ns : List Int} {k : Nat} : ∃ c : Int, runF tb L f__law_cell_at [.fz (.list (ns.map PyData.int)), .fz (.int k)] = .ok (.fz (.int c)) := by
  obtain ⟨n, rfl, hn'⟩ := lvl hL
  rw [run_of tb__law_cell_at rfl]
  by_cases h : k < ns.length
  · exact ⟨ns[k]!, by simp? only [b__law_cell_at, h, atI_d PyData.int h]⟩
  · exact ⟨0, by simp? only [b__law_cell_at, h]⟩
def Drawn (size : Int) (fs : List Int) : Prop := ∀ x ∈ fs, 0 ≤ x ∧ x < size
theorem smallI_of {i : Int} (h0 : 0 ≤ i) (h1 : i < 2305843009213693951) : smallI i = true := inN_iff.mpr ⟨by omega, by omega⟩
theorem Drawn.snoc {size x : Int} {fs : List Int} (h : Drawn size fs) (h0 : 0 ≤ x) (h1 : x < size) : Drawn size (fs ++ [x]) := fun y hy => by
  rcases List.mem_append.mp hy with hy | hy
  · exact h y hy
  · rw [List.mem_singleton.mp hy]; exact ⟨h0, h1⟩
theorem p_drawsI {L : Nat} (hL : 1 ≤ L) {cell size : Int} {many : Nat} (hm : many ≤ 1000) (h0 : 0 < size) (h1 : size < 1073741824) :
    ∃ fs : List Int, fs.length = many ∧ Drawn size fs ∧ runF tb L f__law_draws [.fz (.int cell), .fz (.int many), .fz (.int size)] = .ok (.ow (.list (fs.map PyData.int))) := by
  obtain ⟨n, rfl, hn'⟩ := lvl hL
  rw [run_of tb__law_draws rfl]
  have hp : (10 : Int) ^ 18 = 1000000000000000000 := by decide
  have hs : ∀ b : Bool, smallI (if b = true then 1 else 0) = true := by decide
  have hP : (0 : Int) < 2305843009213693951 := by decide
  have hr := rng_1 (n := many + 3) (by omega)
  simp? only [b__law_draws, hp, hs, hr, show decide ((0 : Int) ≤ 18) = true by decide, show leN 18 1000 = true by decide, show smallI 10 = true by decide, hP]
  obtain ⟨ρ', e1, fs, r, s, x, q1, q2, q3, q4, rfl⟩ := for_ok (bnd := fun d ρ => .ok (ρ.set 6 (some (.fz d)))) (body := fun ρ1 => exs (runF tb n) b__law_draws_0 ρ1) (fun i ρ => ∃ (fs : List Int) (r s : Int) (x : Option Vl), fs.length = i - 3 ∧ Drawn size fs ∧ 0 ≤ s ∧ s < 2305843009213693951 ∧
    ρ = [some (.fz (.int cell)), some (.fz (.int many)), some (.fz (.int size)), some (.ow (.list (fs.map PyData.int))), some (.fz (.int r)), some (.fz (.int s)), x]) (ds := (List.range (many + 3)).map nD)
    ⟨[], cell * (if decide (1000000000000000000 ≤ cell) = true then 1 else 0), cell % 2305843009213693951, none, rfl, (fun x hx => (by cases hx)), Int.emod_nonneg _ (by decide), Int.emod_lt_of_pos _ hP, rfl⟩ fun i d ρ hd hI => by
    obtain ⟨fs, r, s, x, q1, q2, q3, q4, rfl⟩ := hI
    obtain ⟨hi, rfl⟩ := rng_get hd
    have hl : fs.length < lim := by
      show _ < 1000000
      omega
    have t0 := Int.emod_nonneg (s * s + 48271 * s + i + 1) (show (2305843009213693951 : Int) ≠ 0 by decide)
    have t1 := Int.emod_lt_of_pos (s * s + 48271 * s + i + 1) hP
    have h1' : leN size 1073741823 = true := leN_iff.mpr (by omega)
    have c0 : smallI s = true := smallI_of q3 q4
    have c1 : smallI 48271 = true := by decide
    by_cases k2 : (2 : Int) < i
    · by_cases k0 : (0 : Int) < r
      · refine ⟨_, [some (.fz (.int cell)), some (.fz (.int many)), some (.fz (.int size)), some (.ow (.list ((fs ++ [r % size]).map PyData.int))), some (.fz (.int (r / size))), some (.fz (.int ((s * s + 48271 * s + i + 1) % 2305843009213693951))), some (.fz (.int i))], rfl, ?_,
          fs ++ [r % size], r / size, _, _, ?_, q2.snoc (Int.emod_nonneg _ (by omega)) (Int.emod_lt_of_pos _ h0), t0, t1, rfl⟩
        · simp? only [b__law_draws_0, c0, c1, hP, k2, k0, hl, h0, h1', List.map_append]
        · rw [List.length_append, q1]; simp only [List.length_singleton]; omega
      · refine ⟨_, [some (.fz (.int cell)), some (.fz (.int many)), some (.fz (.int size)), some (.ow (.list ((fs ++ [(s * s + 48271 * s + i + 1) % 2305843009213693951 / 4096 % size]).map PyData.int))), some (.fz (.int r)), some (.fz (.int ((s * s + 48271 * s + i + 1) % 2305843009213693951))), some (.fz (.int i))], rfl, ?_,
          fs ++ [_], r, _, _, ?_, q2.snoc (Int.emod_nonneg _ (by omega)) (Int.emod_lt_of_pos _ h0), t0, t1, rfl⟩
        · simp? only [b__law_draws_0, c0, c1, hP, k2, k0, hl, h0, h1', List.map_append, show decide ((0 : Int) < 4096) = true by decide, show leN 4096 1073741823 = true by decide]
        · rw [List.length_append, q1]; simp only [List.length_singleton]; omega
    · refine ⟨_, [some (.fz (.int cell)), some (.fz (.int many)), some (.fz (.int size)), some (.ow (.list (fs.map PyData.int))), some (.fz (.int r)), some (.fz (.int ((s * s + 48271 * s + i + 1) % 2305843009213693951))), some (.fz (.int i))], rfl, ?_,
        fs, r, _, _, ?_, q2, t0, t1, rfl⟩
      · simp? only [b__law_draws_0, c0, c1, hP, k2]
      · omega
  rw [List.length_map, List.length_range, Nat.add_sub_cancel] at q1
  refine ⟨fs, q1, q2, ?_⟩
  simp only [List.map_nil] at e1
  simp? only [e1]
/-- the draws, as numbers from nought on -/
theorem p_draws {L : Nat} (hL : 1 ≤ L) {cell : Int} {many size : Nat} (hm : many ≤ 1000) (h0 : 0 < size) (h1 : size < 1073741824) :
    ∃ fs : List Nat, fs.length = many ∧ (∀ x ∈ fs, x < size) ∧ runF tb L f__law_draws [.fz (.int cell), .fz (.int (many : Nat)), .fz (.int (size : Nat))] = .ok (.ow (.list (fs.map nD))) := by
  obtain ⟨gs, q1, q2, q3⟩ := p_drawsI hL (cell := cell) (size := (size : Nat)) (many := many) hm (by omega) (by omega)
  refine ⟨gs.map Int.toNat, by rw [List.length_map, q1], fun x hx => ?_, ?_⟩
  · obtain ⟨y, hy, rfl⟩ := List.mem_map.mp hx
    have := q2 y hy
    omega
  · rw [q3, List.map_map]
    congr 3
    refine List.map_congr_left fun y hy => ?_
    show PyData.int y = .int ((y.toNat : Nat) : Int)
    rw [Int.toNat_of_nonneg (q2 y hy).1]
theorem p_law_pairs {L : Nat} (hL : 1 ≤ L) {m : Nat} (hm : m ≤ 100) : runF tb L f__law_pairs [.fz (.int (m : Nat))] = .ok (.ow (.list ((prs m).map prD))) := by
  obtain ⟨n, rfl, hn'⟩ := lvl hL
  rw [run_of tb__law_pairs rfl]
  simp? only [b__law_pairs, rng_1 (show m ≤ 1000000 by omega)]
  obtain ⟨ρ', e1, x, y, rfl⟩ := for_ok (bnd := fun d ρ => .ok (ρ.set 2 (some (.fz d)))) (body := fun ρ1 => exs (runF tb n) b__law_pairs_1 ρ1) (fun i ρ => ∃ y_one y_other : Option Vl,
    ρ = [some (.fz (.int (m : Nat))), some (.ow (.list (((List.range i).flatMap fun a => (List.range' (a + 1) (m - (a + 1))).map fun b => (a, b)).map prD))), y_one, y_other]) (ds := (List.range m).map nD)
    ⟨none, none, rfl⟩ fun i d ρ hd hI => by
    obtain ⟨x, y, rfl⟩ := hI
    obtain ⟨hi, rfl⟩ := rng_get hd
    refine ⟨_, _, rfl, ?_, some (.fz (.int i)), y, rfl⟩
    have l1 := flat_len (l := List.range i) (f := fun a => (List.range' (a + 1) (m - (a + 1))).map fun b => (a, b)) (k := 100) fun a _ => by rw [List.length_map, List.length_range']; omega
    rw [List.length_range] at l1
    have l2 : ((List.range i).flatMap fun a => (List.range' (a + 1) (m - (a + 1))).map fun b => (a, b)).length + (List.range' (i + 1) (m - (i + 1))).length ≤ lim := by
      rw [List.length_range']
      show _ ≤ 1000000
      omega
    simp? only [b__law_pairs_1, rng_2 (show i + 1 ≤ 1000000 by omega) (show m ≤ 1000000 by omega), e__law_pairs_0, l2]
    rw [List.range_succ, List.flatMap_append, List.map_append]
    simp only [List.flatMap_cons, List.flatMap_nil, List.append_nil, List.map_map]
    rfl
  rw [List.length_map, List.length_range] at e1
  simp only [List.range_zero, List.flatMap_nil, List.map_nil] at e1
  simp? only [e1]
  rfl
theorem prs7 (m : Nat) (h : m ≤ 7) : (prs m).length ≤ 21 := by
  have key : ∀ m, m < 8 → (prs m).length ≤ 21 := by decide +kernel
  exact key m (by omega)
theorem p_law_web {L : Nat} (hL : 2 ≤ L) {fs : List Nat} {limit : Nat} (h1 : 1 ≤ limit) (h2 : limit ≤ 7) (hf : ∀ m ≤ limit, (prs m).length + 2 ≤ fs.length) :
    ∃ w : Web, w.Ok ∧ w.n ≤ limit ∧ w.n = 1 + fs[0]! % limit ∧ runF tb L f__law_web [.fz (.list (fs.map nD)), .fz (.int (limit : Nat))] = .ok (.fz (wbD w)) := by
  obtain ⟨n, rfl, hn'⟩ := lvl hL
  rw [run_of tb__law_web rfl]
  have hl := hf 1 h1
  have hz0 : 0 < fs.length := by omega
  have hz1 : 1 < fs.length := by omega
  obtain ⟨m, hm⟩ : ∃ m, m = 1 + fs[0]! % limit := ⟨_, rfl⟩
  have hm1 := Nat.mod_lt fs[0]! (show 0 < limit by omega)
  obtain ⟨kd, k0, hk⟩ : ∃ kd : Nat, 0 < kd ∧ L2.atI [PyData.int 2, .int 3, .int 3, .int 2] ((fs[1]! % 4 : Nat) : Int) = some (.int (kd : Nat)) := by
    have : fs[1]! % 4 = 0 ∨ fs[1]! % 4 = 1 ∨ fs[1]! % 4 = 2 ∨ fs[1]! % 4 = 3 := by omega
    rcases this with e | e | e | e <;> rw [e]
    · exact ⟨2, by decide, rfl⟩
    · exact ⟨3, by decide, rfl⟩
    · exact ⟨3, by decide, rfl⟩
    · exact ⟨2, by decide, rfl⟩
  have e0 : L2.atI (fs.map nD) 0 = some (nD fs[0]!) := atI_d nD hz0
  have e1 : L2.atI (fs.map nD) 1 = some (nD fs[1]!) := atI_d nD hz1
  have hlim : 0 < limit := by omega
  refine ⟨⟨m, ((prs m).zipIdx.filter fun p => (decide (fs[2 + p.2]! % kd = 0) == decide (fs[1]! % 4 < 2))).map (·.1)⟩, ⟨by show 1 ≤ m; omega, by show m ≤ 7; omega, ?_, fun p hp => ?_⟩, by show m ≤ limit; omega, hm, ?_⟩
  · have s : (((prs m).zipIdx.filter fun p => (decide (fs[2 + p.2]! % kd = 0) == decide (fs[1]! % 4 < 2))).map (·.1)).Sublist ((prs m).zipIdx.map (·.1)) := List.filter_sublist.map _
    rw [List.zipIdx_map_fst] at s
    exact (prs_rise m).sublist s
  · obtain ⟨q, hq, rfl⟩ := List.mem_map.mp hp
    have := List.mem_of_getElem? (List.mem_zipIdx_iff_getElem?.mp (List.mem_filter.mp hq).1)
    exact prs_mem.mp this
  · simp? only [b__law_web, e0, e1, hk, hlim, ← hm, p_law_pairs (L := n) hn' (m := m) (by omega)]
    rw [selL_ok (fun p : (Nat × Nat) × Nat => (decide (fs[2 + p.2]! % kd = 0) == decide (fs[1]! % 4 < 2))) (fun p => prD p.1) fun p hp => ?_]
    · simp? only [wbD, List.map_map]
      rfl
    · have hk1 : p.2 < (prs m).length := (List.getElem?_eq_some_iff.mp (List.mem_zipIdx_iff_getElem?.mp hp)).1
      have hk2 := hf m (by omega)
      simp? only [c__law_web_1, e__law_web_0, atI_d nD (show 2 + p.2 < fs.length by omega), e1, k0]
theorem Web.Ok.tied_iff {w : Web} (hw : w.Ok) (a b : Nat) : w.tied a b = true ↔ (a, b) ∈ w.t ∨ (b, a) ∈ w.t := by
  unfold Web.tied ord2
  rw [decide_eq_true_eq]
  by_cases h : a < b
  · rw [if_pos h]
    constructor
    · exact .inl
    · rintro (h2 | h2)
      · exact h2
      · have := (hw.mem _ h2).1
        simp only at this
        omega
  · rw [if_neg h]
    constructor
    · exact .inr
    · rintro (h2 | h2)
      · have := (hw.mem _ h2).1
        simp only at this
        omega
      · exact h2
theorem Web.Ok.tied_self {w : Web} (hw : w.Ok) (a : Nat) : w.tied a a = false := by
  rw [Bool.eq_false_iff]
  intro h
  rcases (hw.tied_iff a a).mp h with h | h
  · have := (hw.mem _ h).1
    simp only at this
    omega
  · have := (hw.mem _ h).1
    simp only at this
    omega
theorem Web.Ok.near_eq {w : Web} (hw : w.Ok) (k : Nat) : (List.range w.n).filter (fun o => w.tied k o) = w.near k := by
  unfold Web.near
  refine List.filter_congr fun o _ => ?_
  by_cases h : o = k
  · subst h
    rw [hw.tied_self, Bool.and_false]
  · simp [h]
theorem p_law_order {L : Nat} (hL : 1 ≤ L) {fs : List Nat} {m : Nat} (hm : m ≤ 100) (hf : m ≤ fs.length) :
    ∃ row : List Nat, row.Perm (List.range m) ∧ runF tb L f__law_order [.fz (.list (fs.map nD)), .fz (.int (m : Nat))] = .ok (.fz (.tuple (row.map nD))) := by
  obtain ⟨n, rfl, hn'⟩ := lvl hL
  rw [run_of tb__law_order rfl]
  simp? only [b__law_order, rng_1 (show m ≤ 1000000 by omega)]
  obtain ⟨ρ', e1, row, y_k, q1, rfl⟩ := for_ok (bnd := fun d ρ => .ok (ρ.set 3 (some (.fz d)))) (body := fun ρ1 => exs (runF tb n) b__law_order_0 ρ1) (fun i ρ => ∃ (row : List Nat) (y_k : Option Vl), row.Perm (List.range i) ∧
    ρ = [some (.fz (.list (fs.map nD))), some (.fz (.int (m : Nat))), some (.ow (.list (row.map nD))), y_k]) (ds := (List.range m).map nD)
    ⟨[], none, by simp, rfl⟩ fun i d ρ hd hI => by
    obtain ⟨row, y_k, q1, rfl⟩ := hI
    obtain ⟨hi, rfl⟩ := rng_get hd
    have hl : row.length = i := by rw [q1.length_eq, List.length_range]
    have hj := Nat.mod_lt fs[i]! (show 0 < i + 1 by omega)
    have hc : row.length < lim := by show _ < 1000000; omega
    have hc2 : fs[i]! % (i + 1) ≤ row.length := by omega
    refine ⟨_, _, rfl, ?_, row.take (fs[i]! % (i + 1)) ++ i :: row.drop (fs[i]! % (i + 1)), some (.fz (.int i)), ?_, rfl⟩
    · simp? only [b__law_order_0, atI_d nD (show i < fs.length by omega), show 0 < i + 1 by omega, Nat.zero_le, hc, hc2, Int.toNat_natCast, and_self]
      rw [List.map_append, List.map_cons, List.map_take, List.map_drop]
      rfl
    · rw [List.range_succ]
      refine (List.perm_middle).trans ?_
      rw [List.take_append_drop]
      exact (q1.cons i).trans (List.perm_append_singleton i _).symm
  refine ⟨row, ?_, ?_⟩
  · rw [List.length_map, List.length_range] at q1; exact q1
  · simp only [List.map_nil] at e1
    simp? only [e1]
def stepPerms (m : Nat) (found : List (List Nat)) : List (List Nat) := found.flatMap fun row => ((List.range m).filter fun k => !decide (k ∈ row)).map fun k => row ++ [k]
def permsTo (m : Nat) : Nat → List (List Nat)
  | 0 => [[]]
  | i + 1 => stepPerms m (permsTo m i)
def permsN (m : Nat) : List (List Nat) := permsTo m m
theorem mem_stepPerms {m : Nat} {found : List (List Nat)} {r : List Nat} : r ∈ stepPerms m found ↔ ∃ row k, row ∈ found ∧ k < m ∧ k ∉ row ∧ r = row ++ [k] := by
  unfold stepPerms
  simp only [List.mem_flatMap, List.mem_map, List.mem_filter, List.mem_range, Bool.not_eq_true', decide_eq_false_iff_not]
  constructor
  · rintro ⟨row, h1, k, ⟨h2, h3⟩, rfl⟩
    exact ⟨row, k, h1, h2, h3, rfl⟩
  · rintro ⟨row, k, h1, h2, h3, rfl⟩
    exact ⟨row, h1, k, ⟨h2, h3⟩, rfl⟩
theorem mem_permsTo {m : Nat} : ∀ {i : Nat} {r : List Nat}, r ∈ permsTo m i ↔ r.length = i ∧ r.Nodup ∧ ∀ x ∈ r, x < m
  | 0, r => by
    show r ∈ [[]] ↔ _
    rw [List.mem_singleton]
    constructor
    · rintro rfl
      exact ⟨rfl, .nil, fun _ h => nomatch h⟩
    · rintro ⟨h, _⟩
      exact List.eq_nil_of_length_eq_zero h
  | i + 1, r => by
    show r ∈ stepPerms m (permsTo m i) ↔ _
    rw [mem_stepPerms]
    constructor
    · rintro ⟨row, k, h1, h2, h3, rfl⟩
      obtain ⟨q1, q2, q3⟩ := mem_permsTo.mp h1
      refine ⟨by rw [List.length_append, q1]; rfl, List.nodup_append.mpr ⟨q2, by simp, fun a ha b hb => by rw [List.mem_singleton.mp hb]; rintro rfl; exact h3 ha⟩, fun x hx => ?_⟩
      rcases List.mem_append.mp hx with hx | hx
      · exact q3 x hx
      · rw [List.mem_singleton.mp hx]; exact h2
    · rintro ⟨h1, h2, h3⟩
      have hne : r ≠ [] := by rintro rfl; cases h1
      refine ⟨r.dropLast, r.getLast hne, mem_permsTo.mpr ⟨by rw [List.length_dropLast, h1]; rfl, h2.sublist (List.dropLast_sublist r), fun x hx => h3 x (List.dropLast_subset r hx)⟩, h3 _ (List.getLast_mem hne), ?_, (List.dropLast_concat_getLast hne).symm⟩
      intro hm
      have : (r.dropLast ++ [r.getLast hne]).Nodup := by rw [List.dropLast_concat_getLast hne]; exact h2
      exact (List.nodup_append.mp this).2.2 _ hm _ (by simp) rfl
theorem free_len {m : Nat} {row : List Nat} (h1 : row.Nodup) (h2 : ∀ x ∈ row, x < m) : ((List.range m).filter fun k => !decide (k ∈ row)).length = m - row.length := by
  have e : ∀ l : List Nat, l.length = (l.filter fun k => decide (k ∈ row)).length + (l.filter fun k => !decide (k ∈ row)).length := fun l => by
    induction l with
    | nil => rfl
    | cons x l ih =>
      by_cases h : x ∈ row
      · rw [List.filter_cons_of_pos (by simp [h]), List.filter_cons_of_neg (by simp [h]), List.length_cons, List.length_cons, ih]; omega
      · rw [List.filter_cons_of_neg (by simp [h]), List.filter_cons_of_pos (by simp [h]), List.length_cons, List.length_cons, ih]; omega
  have e := e (List.range m)
  have e2 : ((List.range m).filter fun k => decide (k ∈ row)).length = row.length := by
    refine nodup_len (List.nodup_range.filter _) h1 fun x => ?_
    rw [List.mem_filter, List.mem_range, decide_eq_true_eq]
    exact ⟨fun h => h.2, fun h => ⟨h2 x h, h⟩⟩
  rw [List.length_range] at e
  omega
theorem step_len {m i : Nat} : ∀ {l : List (List Nat)}, (∀ r ∈ l, r.length = i ∧ r.Nodup ∧ ∀ x ∈ r, x < m) → (stepPerms m l).length = l.length * (m - i)
  | [], _ => by simp [stepPerms]
  | r :: l, h => by
    obtain ⟨h1, h2, h3⟩ := h r List.mem_cons_self
    have ih := step_len (l := l) fun x hx => h x (List.mem_cons_of_mem _ hx)
    unfold stepPerms at ih ⊢
    rw [List.flatMap_cons, List.length_append, List.length_map, free_len h2 h3, ih, List.length_cons, Nat.succ_mul, h1]
    omega
def desc (m : Nat) : Nat → Nat
  | 0 => 1
  | i + 1 => desc m i * (m - i)
theorem permsTo_len (m : Nat) : ∀ i, (permsTo m i).length = desc m i
  | 0 => rfl
  | i + 1 => by
    show (stepPerms m (permsTo m i)).length = _
    rw [step_len (i := i) fun r hr => mem_permsTo.mp hr, permsTo_len m i]
    rfl
theorem desc7 {m i : Nat} (hm : m ≤ 7) (hi : i ≤ m) : desc m i ≤ 5040 := by
  have key : ∀ m, m < 8 → ∀ i, i < m + 1 → desc m i ≤ 5040 := by decide +kernel
  exact key m (by omega) i (by omega)
theorem pl_tnD (r : List Nat) : tnD r = .tuple (r.map nD) := rfl
end Wv
namespace Wv
open PySem PySem.Spec PyProof.Rows L2
local macro_rules | `(tactic| simp? only [$xs,*]) => `(tactic| simp only [exs, exS, ev, evTs, evDs, evAs, evAnd, evOr, evCond, evIt, evT, evB, evD, evK, b_ok, b_err, b_bad, k_ok, m_ok, dat_fz, dat_ow, keepV_no, keepV_fz, iL_loc, iL_non, iL_bl, iL_int, iL_str, iL_glo, iL_op, iL_chain, iL_neg, iL_not, iL_and, iL_or, iL_ite, iL_tup, iL_lst, iL_ix, iL_sl, iL_isi, iL_bi, iL_lenset, iL_sortset, iL_rep, iL_rev, iL_lrng, iL_mt, iL_call, iL_comp, iL_comp2, iL_dget, iL_dkeys, iL_trng, iL_trng2, iL_ptup, iL_ptl, iL_ptr, iL_ptr2, iL_tix, iL_dnew, iL_disp, iL_dix, iL_dgt, iL_dcopy, iL_gget, iL_gix, dicV_ow, dicV_fd, dat_pt, keepV_pt, argV_pt, lstOf, ptD, ptOf, starD, argV_fz, argV_ow, frzV_lst, frzV_tup, frzV_dct, boolV_bl, kB, kI, tyB, getO, frz, fin_rt, fin_nx, tmsLen, Gc.d, List.getElem?_cons_zero, List.getElem?_cons_succ, List.getElem?_nil, List.set_cons_zero, List.set_cons_succ, List.map_cons, List.map_nil, List.replicate_zero, List.replicate_succ, List.cons_append, List.nil_append, List.append_nil, List.any_cons, List.any_nil, List.all_cons, List.all_nil, Bool.or_false, Bool.false_or, Bool.or_true, Bool.true_or, Bool.and_true, Bool.true_and, Bool.and_false, Bool.false_and, Bool.not_true, Bool.not_false, Bool.not_not, Bool.false_eq_true, Bool.true_eq_false, if_true, if_false, ite_true, ite_false, Nat.reduceSub, Nat.reduceAdd, List.length_cons, List.length_nil, Nat.zero_add, reduceIte, id, plain_non, plain_bl, plain_int, plain_str, plain_lst, plain_tup, isDict_non, isDict_bl, isDict_int, isDict_str, isDict_lst, isDict_tup, eqD_int, eqD_bool, eqD_str, ltD_int, Int.reduceEq, Int.reduceLT, Int.reduceLE, Int.reduceAdd, Int.reduceSub, Int.reduceMul, Int.reduceToNat, Int.reduceNeg, Int.reduceMod, Int.reduceDiv, decide_true, decide_false, Bool.true_beq, Bool.false_beq, compL_sel, selL_some, selL_if, flatL_sel, flatT_some, allD_m, anyD_m, sumD_n, m_err, m_bad, Gc.d, List.length_map, Nat.add_zero, q_tn, q_tb, q_ti, q_tl, q_tt, q_addi, q_adds, q_addl, q_addt, q_sub, q_mul, q_fdiv, q_mod, q_pow, q_le, q_gt, q_ge, q_neg, q_inl, q_int, q_ins, q_add, q_sub2, q_mul2, q_fdiv2, q_mod2, q_pow2, q_eq, q_ne, q_lt, q_le2, q_gt2, q_ge2, q_in, q_ni, q_is, q_isn, q_non, q_nob, q_noi, q_nos, q_nol, q_not, q_ixl, q_ixt, q_ixs, q_bn0, q_bn1, q_sll, q_slt, q_sls, q_lenl, q_lent, q_lens, q_tul, q_tut, q_lil, q_lit, q_ini, q_inb, q_str, q_rep, q_itl, q_itt, q_its, q_enl, q_ent, q_zll, q_ztt, q_app, q_ins2, q_set, q_revl, q_revt, q_repd, q_isin, q_isib, q_isii, q_isis, q_isil, q_isit, q_bi, q_b1, q_b2, q_b3, q_b4, q_b5, q_b6, q_b7, q_b8, q_b9, q_b10, q_b11, q_b12, q_bt1, q_bt2, q_btp, q_dgt, pl_n, pl_pr, pl_wb, pl_tn, in_pr, in_n, in_i, in_ni, in_tn, in_wb, eq_pr, eq_wb, eq_i, eq_tn, eq_ln, eq_tp, eq_l0, q_nD, and_b, or_b, b_ite, k_ite, m_ite, Int.ofNat_inj, Int.ofNat_lt, Int.ofNat_le, Int.natCast_inj, Int.natCast_pos, dec_t, sort_n, sort_p, sort_w, sort_2, lt_pr, lt_wb, lt_tn, c_1, c_add, c_modc, c_mulc, enum_f, zip_f, q_bte, q_btz, c_modl, c_divl, c_addl, c_addr, c_mull, c_mulr, c_ltl, c_ltr, c_lel, c_ler, c_eql, c_eqr, List.length_append, str_tf, beq_self_eq_true, Nat.reduceEqDiff, Nat.reduceLT, Nat.reduceLeDiff, Nat.reduceMod, Nat.reduceMul, Nat.reduceDiv, all_tt, any_ff, wipeE, $xs,*])
/-! ### likeness.py -/
/-- the next knot x may be laid behind laid -/
def goesOn (one other : Web) (laid : List Nat) (x : Nat) : Bool := laid.zipIdx.all fun p => one.tied p.2 laid.length == other.tied p.1 x
/-- all fits that begin with laid, k knots more -/
def fitsF (one other : Web) : Nat → List Nat → List (List Nat)
  | 0, laid => [laid]
  | k + 1, laid => (List.range other.n).flatMap fun x => if (!decide (x ∈ laid) && goesOn one other laid x) = true then fitsF one other k (laid ++ [x]) else []
def fitsG (one other : Web) (k : Nat) (laid : List Nat) (x : Nat) : List (List Nat) := if (!decide (x ∈ laid) && goesOn one other laid x) = true then fitsF one other k (laid ++ [x]) else []
theorem fitsF_succ (one other : Web) (k : Nat) (laid : List Nat) : fitsF one other (k + 1) laid = (List.range other.n).flatMap (fitsG one other k laid) := rfl
theorem p_goes_on {L : Nat} (hL : 3 ≤ L) {one other : Web} {laid : List Nat} {x : Nat} : runF tb L f_goes_on [.fz (wbD one), .fz (wbD other), .fz (tnD laid), .fz (.int (x : Nat))] = .ok (.fz (.bool (goesOn one other laid x))) := by
  obtain ⟨n, rfl, hn'⟩ := lvl hL
  rw [run_of tb_goes_on rfl]
  simp? only [b_goes_on, pl_tnD, e_goes_on_0, p_tied hn']
  rfl
/-- what a loop finds that ends as soon as there is enough -/
theorem foldE_most {α : Type} (most : Nat) (g : Nat → List α) (ret : List α → Vl) : ∀ (xs : List Nat) (acc : List α), acc.length < most →
    foldE (fun found x => if most ≤ (found ++ (g x).take (most - found.length)).length then .inr (ret (found ++ (g x).take (most - found.length))) else .inl (found ++ (g x).take (most - found.length))) xs acc
      = if most ≤ (acc ++ xs.flatMap g).length then .inr (ret ((acc ++ xs.flatMap g).take most)) else .inl (acc ++ xs.flatMap g)
  | [], acc, h => by
    rw [List.flatMap_nil, List.append_nil, if_neg (by omega)]
    rfl
  | x :: xs, acc, h => by
    unfold foldE
    have e1 : (acc ++ g x).take most = acc ++ (g x).take (most - acc.length) := by rw [List.take_append, List.take_of_length_le (Nat.le_of_lt h)]
    by_cases h2 : most ≤ (acc ++ (g x).take (most - acc.length)).length
    · rw [if_pos h2]
      have hl : most ≤ (acc ++ g x).length := by
        rw [List.length_append] at h2 ⊢
        rw [List.length_take] at h2
        omega
      rw [List.flatMap_cons, ← List.append_assoc, if_pos (by rw [List.length_append]; omega), List.take_append_of_le_length hl, e1]
    · rw [if_neg h2]
      have e2 : (g x).take (most - acc.length) = g x := by
        rw [List.length_append, List.length_take] at h2
        exact List.take_of_length_le (by omega)
      rw [e2] at h2 ⊢
      show foldE _ xs (acc ++ g x) = _
      rw [foldE_most most g ret xs (acc ++ g x) (by omega), List.flatMap_cons, List.append_assoc]
theorem fitsF_len (one other : Web) : ∀ (k : Nat) (laid : List Nat), (fitsF one other k laid).length ≤ other.n ^ k
  | 0, laid => Nat.le_refl _
  | k + 1, laid => by
    have := flat_len (l := List.range other.n) (f := fun x => if (!decide (x ∈ laid) && goesOn one other laid x) = true then fitsF one other k (laid ++ [x]) else []) (k := other.n ^ k) fun x _ => by
      split
      · exact fitsF_len one other k _
      · exact Nat.zero_le _
    rw [List.length_range] at this
    rw [Nat.pow_succ, Nat.mul_comm]
    exact this
theorem p_fits_from {one other : Web} (h1' : one.n ≤ 7) (h2 : other.n ≤ 7) : ∀ (k : Nat) {L : Nat} (hL : k + 4 ≤ L) {laid : List Nat} (hk : laid.length + k = one.n) {most : Nat} (hm : 1 ≤ most) (hm2 : most ≤ 10000),
    runF tb L f_fits_from [.fz (wbD one), .fz (wbD other), .fz (tnD laid), .fz (.int (most : Nat))] = .ok (.ow (.list (((fitsF one other k laid).take most).map tnD)))
  | 0, L, hL, laid, hk, most, hm, hm2 => by
    obtain ⟨n, rfl, hn'⟩ := lvl hL
    rw [run_of tb_fits_from rfl]
    have hk : laid.length = one.n := by omega
    simp? only [b_fits_from, pl_tnD, ix0, hk]
    unfold fitsF
    rw [List.take_of_length_le (by simpa using hm)]
    rfl
  | k + 1, L, hL, laid, hk, most, hm, hm2 => by
    obtain ⟨n, rfl, hn'⟩ := lvl hL
    rw [run_of tb_fits_from rfl]
    have hk0 : ¬ laid.length = one.n := by omega
    have hlen : laid.length + 1 ≤ lim := by
      show _ ≤ 1000000
      omega
    have ih : ∀ x {m : Nat}, 1 ≤ m → m ≤ 10000 → runF tb n f_fits_from [.fz (wbD one), .fz (wbD other), .fz (tnD (laid ++ [x])), .fz (.int (m : Nat))] = .ok (.ow (.list (((fitsF one other k (laid ++ [x])).take m).map tnD))) := fun x m h1 h2' =>
      p_fits_from h1' h2 k (by omega) (by rw [List.length_append, List.length_singleton]; omega) h1 h2'
    have loop := forL_ret (bnd := fun d ρ => .ok (ρ.set 5 (some (.fz d)))) (body := fun ρ1 => exs (runF tb n) b_fits_from_0 ρ1) (enc := nD) (xs := List.range other.n) (s0 := []) (ρ0 := [some (.fz (wbD one)), some (.fz (wbD other)), some (.fz (tnD laid)), some (.fz (.int (most : Nat))), some (.ow (.list [])), none])
      (fun (found : List (List Nat)) ρ => found.length < most ∧ ∃ y_knot : Option Vl, ρ = [some (.fz (wbD one)), some (.fz (wbD other)), some (.fz (tnD laid)), some (.fz (.int (most : Nat))), some (.ow (.list (found.map tnD))), y_knot])
      (fun found x => if most ≤ (found ++ (fitsG one other k laid x).take (most - found.length)).length then .inr ((fun l : List (List Nat) => Vl.ow (.list (l.map tnD))) (found ++ (fitsG one other k laid x).take (most - found.length))) else .inl (found ++ (fitsG one other k laid x).take (most - found.length)))
      ⟨hm, none, rfl⟩ fun found ρ x hx hI => by
      obtain ⟨hf, y_knot, rfl⟩ := hI
      refine ⟨_, rfl, ?_⟩
      unfold fitsG
      have hsub : ((most : Nat) : Int) - ((found.length : Nat) : Int) = ((most - found.length : Nat) : Int) := by omega
      cases hc : (!decide (x ∈ laid) && goesOn one other laid x) with
      | false =>
        simp only [Bool.false_eq_true, if_false, List.take_nil, List.append_nil, if_neg (show ¬ most ≤ found.length by omega)]
        refine ⟨_, ?_, hf, some (.fz (nD x)), rfl⟩
        cases hi : decide (x ∈ laid) with
        | true =>
          have hi := of_decide_eq_true hi
          simp? only [b_fits_from_0, pl_tnD, hi]
        | false =>
          rw [hi] at hc
          have hc : goesOn one other laid x = false := hc
          have hi := of_decide_eq_false hi
          have hg := p_goes_on (L := n) (by omega) (one := one) (other := other) (laid := laid) (x := x)
          simp only [pl_tnD] at hg
          simp? only [b_fits_from_0, pl_tnD, hi, hg, hc]
      | true =>
        rw [Bool.and_eq_true, Bool.not_eq_true'] at hc
        have hi := of_decide_eq_false hc.1
        have hg := p_goes_on (L := n) (by omega) (one := one) (other := other) (laid := laid) (x := x)
        have e3 : List.map nD laid ++ [PyData.int (x : Nat)] = (laid ++ [x]).map nD := by rw [List.map_append]; rfl
        have ihx := ih x (m := most - found.length) (by omega) (by omega)
        simp only [pl_tnD] at hg ihx
        have hfl := fitsF_len one other k (laid ++ [x])
        have hp1 : other.n ^ k ≤ 7 ^ k := Nat.pow_le_pow_left h2 k
        have hp2 : 7 ^ k ≤ 7 ^ 6 := Nat.pow_le_pow_right (by decide) (by omega)
        have hp3 : (7 : Nat) ^ 6 = 117649 := by decide
        have hsz : found.length + ((fitsF one other k (laid ++ [x])).take (most - found.length)).length ≤ lim := by
          rw [List.length_take]
          show _ ≤ 1000000
          omega
        simp only [if_true]
        by_cases hcut : most ≤ (found ++ (fitsF one other k (laid ++ [x])).take (most - found.length)).length
        · rw [if_pos hcut]
          rw [List.length_append] at hcut
          simp? only [b_fits_from_0, pl_tnD, hi, hg, hc.2, hsub, hlen, e3, ihx, hsz, hcut]
          rw [List.map_append]
        · rw [if_neg hcut]
          have hcut2 := hcut
          rw [List.length_append] at hcut
          refine ⟨_, ?_, by omega, some (.fz (nD x)), rfl⟩
          simp? only [b_fits_from_0, pl_tnD, hi, hg, hc.2, hsub, hlen, e3, ihx, hsz, hcut]
          rw [List.map_append]
    rw [foldE_most most (fitsG one other k laid) (fun l => Vl.ow (.list (l.map tnD))) (List.range other.n) [] hm, List.nil_append, ← fitsF_succ] at loop
    simp only [pl_tnD] at loop
    by_cases hcut : most ≤ (fitsF one other (k + 1) laid).length
    · rw [if_pos hcut] at loop
      simp? only [b_fits_from, pl_tnD, ix0, hk0, rng_1 (show other.n ≤ 1000000 by omega), loop]
    · rw [if_neg hcut] at loop
      obtain ⟨ρ', e1, hf, y_knot, rfl⟩ := loop
      simp? only [b_fits_from, pl_tnD, ix0, hk0, rng_1 (show other.n ≤ 1000000 by omega), e1]
      rw [List.take_of_length_le (by omega)]
def fitsAll (one other : Web) : List (List Nat) := if sortN one.degrees = sortN other.degrees then fitsF one other one.n [] else []
theorem p_fit {L : Nat} (hL : 12 ≤ L) {one other : Web} (h1 : one.n ≤ 7) (h2 : other.n ≤ 7) : runF tb L f_fit [.fz (wbD one), .fz (wbD other)] = .ok (.fz (((fitsAll one other).head?.map tnD).getD .none)) := by
  obtain ⟨n, rfl, hn'⟩ := lvl hL
  rw [run_of tb_fit rfl]
  have q1 := p_degrees (L := n) (by omega) (w := one) (by omega)
  have q2 := p_degrees (L := n) (by omega) (w := other) (by omega)
  have q3 := p_fits_from h1 h2 one.n (L := n) (by omega) (laid := []) (by simp) (most := 1) (by decide) (by decide)
  simp only [tnD, List.map_nil, Int.cast_ofNat_Int] at q3
  unfold fitsAll
  by_cases hd : sortN one.degrees = sortN other.degrees
  · rw [if_pos hd]
    cases hf : fitsF one other one.n [] with
    | nil =>
      simp only [hf, List.take_nil, List.map_nil] at q3
      simp? only [b_fit, q1, q2, hd, q3, eq_l00]
      rfl
    | cons r rs =>
      simp only [hf, List.take_succ_cons, List.take_zero] at q3
      simp? only [b_fit, q1, q2, hd, q3, eq_l0 tnD [r], List.isEmpty_cons, atI_0]
      rfl
  · rw [if_neg hd]
    simp? only [b_fit, q1, q2, hd]
    rfl
theorem isNone_fit {l : List (List Nat)} : isNon ((l.head?.map tnD).getD .none) = l.isEmpty := by cases l <;> rfl
theorem fitsAll_len {one other : Web} (h1 : one.n ≤ 7) (h2 : other.n ≤ 7) : (fitsAll one other).length ≤ 823543 := by
  unfold fitsAll
  split
  · have hp1 : other.n ^ one.n ≤ 7 ^ one.n := Nat.pow_le_pow_left h2 _
    have hp2 : 7 ^ one.n ≤ 7 ^ 7 := Nat.pow_le_pow_right (by decide) h1
    exact Nat.le_trans (fitsF_len _ _ _ _) (Nat.le_trans hp1 (Nat.le_trans hp2 (by decide)))
  · exact Nat.zero_le _
theorem p_fits_many {L : Nat} (hL : 12 ≤ L) {one other : Web} (h1 : one.n ≤ 7) (h2 : other.n ≤ 7) : runF tb L f_fits_many [.fz (wbD one), .fz (wbD other)] = .ok (.fz (.int ((min 10000 (fitsAll one other).length : Nat)))) := by
  obtain ⟨n, rfl, hn'⟩ := lvl hL
  rw [run_of tb_fits_many rfl]
  have q1 := p_degrees (L := n) (by omega) (w := one) (by omega)
  have q2 := p_degrees (L := n) (by omega) (w := other) (by omega)
  have q3 := p_fits_from h1 h2 one.n (L := n) (by omega) (laid := []) (by simp) (most := 10000) (by decide) (by decide)
  simp only [tnD, List.map_nil, Int.cast_ofNat_Int] at q3
  have hp : (10 : Int) ^ 4 = 10000 := by decide
  unfold fitsAll
  by_cases hd : sortN one.degrees = sortN other.degrees
  · rw [if_pos hd]
    simp? only [b_fits_many, q1, q2, hd, q3, show decide ((0 : Int) ≤ 4) = true by decide, show leN 4 1000 = true by decide, show smallI 10 = true by decide, hp, List.length_take]
  · rw [if_neg hd]
    simp? only [b_fits_many, q1, q2, hd]
    rfl
theorem p_alike {L : Nat} (hL : 13 ≤ L) {one other : Web} (h1 : one.n ≤ 7) (h2 : other.n ≤ 7) : runF tb L f_alike [.fz (wbD one), .fz (wbD other)] = .ok (.fz (.bool (!(fitsAll one other).isEmpty))) := by
  obtain ⟨n, rfl, hn'⟩ := lvl hL
  rw [run_of tb_alike rfl]
  simp? only [b_alike, p_fit (L := n) hn' h1 h2, isNone_fit]
theorem p_symmetries {L : Nat} (hL : 13 ≤ L) {w : Web} (h1 : w.n ≤ 7) : runF tb L f_symmetries [.fz (wbD w)] = .ok (.fz (.int ((min 10000 (fitsAll w w).length : Nat)))) := by
  obtain ⟨n, rfl, hn'⟩ := lvl hL
  rw [run_of tb_symmetries rfl]
  simp? only [b_symmetries, p_fits_many (L := n) hn' h1 h1]
end Wv
namespace Wv
open PySem PySem.Spec PyProof.Rows L2
local macro_rules | `(tactic| simp? only [$xs,*]) => `(tactic| simp only [exs, exS, ev, evTs, evDs, evAs, evAnd, evOr, evCond, evIt, evT, evB, evD, evK, b_ok, b_err, b_bad, k_ok, m_ok, dat_fz, dat_ow, keepV_no, keepV_fz, iL_loc, iL_non, iL_bl, iL_int, iL_str, iL_glo, iL_op, iL_chain, iL_neg, iL_not, iL_and, iL_or, iL_ite, iL_tup, iL_lst, iL_ix, iL_sl, iL_isi, iL_bi, iL_lenset, iL_sortset, iL_rep, iL_rev, iL_lrng, iL_mt, iL_call, iL_comp, iL_comp2, iL_dget, iL_dkeys, iL_trng, iL_trng2, iL_ptup, iL_ptl, iL_ptr, iL_ptr2, iL_tix, iL_dnew, iL_disp, iL_dix, iL_dgt, iL_dcopy, iL_gget, iL_gix, dicV_ow, dicV_fd, dat_pt, keepV_pt, argV_pt, lstOf, ptD, ptOf, starD, argV_fz, argV_ow, frzV_lst, frzV_tup, frzV_dct, boolV_bl, kB, kI, tyB, getO, frz, fin_rt, fin_nx, tmsLen, Gc.d, List.getElem?_cons_zero, List.getElem?_cons_succ, List.getElem?_nil, List.set_cons_zero, List.set_cons_succ, List.map_cons, List.map_nil, List.replicate_zero, List.replicate_succ, List.cons_append, List.nil_append, List.append_nil, List.any_cons, List.any_nil, List.all_cons, List.all_nil, Bool.or_false, Bool.false_or, Bool.or_true, Bool.true_or, Bool.and_true, Bool.true_and, Bool.and_false, Bool.false_and, Bool.not_true, Bool.not_false, Bool.not_not, Bool.false_eq_true, Bool.true_eq_false, if_true, if_false, ite_true, ite_false, Nat.reduceSub, Nat.reduceAdd, List.length_cons, List.length_nil, Nat.zero_add, reduceIte, id, plain_non, plain_bl, plain_int, plain_str, plain_lst, plain_tup, isDict_non, isDict_bl, isDict_int, isDict_str, isDict_lst, isDict_tup, eqD_int, eqD_bool, eqD_str, ltD_int, Int.reduceEq, Int.reduceLT, Int.reduceLE, Int.reduceAdd, Int.reduceSub, Int.reduceMul, Int.reduceToNat, Int.reduceNeg, Int.reduceMod, Int.reduceDiv, decide_true, decide_false, Bool.true_beq, Bool.false_beq, compL_sel, selL_some, selL_if, flatL_sel, flatT_some, allD_m, anyD_m, sumD_n, m_err, m_bad, Gc.d, List.length_map, Nat.add_zero, q_tn, q_tb, q_ti, q_tl, q_tt, q_addi, q_adds, q_addl, q_addt, q_sub, q_mul, q_fdiv, q_mod, q_pow, q_le, q_gt, q_ge, q_neg, q_inl, q_int, q_ins, q_add, q_sub2, q_mul2, q_fdiv2, q_mod2, q_pow2, q_eq, q_ne, q_lt, q_le2, q_gt2, q_ge2, q_in, q_ni, q_is, q_isn, q_non, q_nob, q_noi, q_nos, q_nol, q_not, q_ixl, q_ixt, q_ixs, q_bn0, q_bn1, q_sll, q_slt, q_sls, q_lenl, q_lent, q_lens, q_tul, q_tut, q_lil, q_lit, q_ini, q_inb, q_str, q_rep, q_itl, q_itt, q_its, q_enl, q_ent, q_zll, q_ztt, q_app, q_ins2, q_set, q_revl, q_revt, q_repd, q_isin, q_isib, q_isii, q_isis, q_isil, q_isit, q_bi, q_b1, q_b2, q_b3, q_b4, q_b5, q_b6, q_b7, q_b8, q_b9, q_b10, q_b11, q_b12, q_bt1, q_bt2, q_btp, q_dgt, pl_n, pl_pr, pl_wb, pl_tn, in_pr, in_n, in_i, in_ni, in_tn, in_wb, eq_pr, eq_wb, eq_i, eq_tn, eq_ln, eq_tp, eq_l0, q_nD, and_b, or_b, b_ite, k_ite, m_ite, Int.ofNat_inj, Int.ofNat_lt, Int.ofNat_le, Int.natCast_inj, Int.natCast_pos, dec_t, sort_n, sort_p, sort_w, sort_2, lt_pr, lt_wb, lt_tn, c_1, c_add, c_modc, c_mulc, enum_f, zip_f, q_bte, q_btz, c_modl, c_divl, c_addl, c_addr, c_mull, c_mulr, c_ltl, c_ltr, c_lel, c_ler, c_eql, c_eqr, List.length_append, str_tf, beq_self_eq_true, Nat.reduceEqDiff, Nat.reduceLT, Nat.reduceLeDiff, Nat.reduceMod, Nat.reduceMul, Nat.reduceDiv, all_tt, any_ff, wipeE, $xs,*])
/-! ### webs that are alike: plain mathematics -/
/-- an order of the knots -/
def Ord (n : Nat) (row : List Nat) : Prop := row.length = n ∧ row.Nodup ∧ ∀ x ∈ row, x < n
theorem Ord.of_perm {n : Nat} {row : List Nat} (h : row.Perm (List.range n)) : Ord n row := ⟨by rw [h.length_eq, List.length_range], h.nodup_iff.mpr List.nodup_range, fun x hx => List.mem_range.mp (h.mem_iff.mp hx)⟩
theorem Ord.perm {n : Nat} {row : List Nat} (h : Ord n row) : row.Perm (List.range n) := by
  refine (List.perm_ext_iff_of_nodup h.2.1 List.nodup_range).mpr fun a => ⟨fun ha => List.mem_range.mpr (h.2.2 a ha), fun ha => ?_⟩
  have e := free_len h.2.1 h.2.2
  rw [h.1, Nat.sub_self] at e
  have e := List.eq_nil_of_length_eq_zero e
  have := List.filter_eq_nil_iff.mp e a ha
  simpa using this
theorem nodup_get {α : Type} {l : List α} (h : l.Nodup) {i j : Nat} (hi : i < l.length) (hj : j < l.length) (e : l[i] = l[j]) : i = j := by
  rcases Nat.lt_trichotomy i j with q | q | q
  · exact absurd e (List.pairwise_iff_getElem.mp h i j hi hj q)
  · exact q
  · exact absurd e.symm (List.pairwise_iff_getElem.mp h j i hj hi q)
theorem nodup_map_on {α β : Type} {f : α → β} {l : List α} (h : ∀ x ∈ l, ∀ y ∈ l, f x = f y → x = y) (nd : l.Nodup) : (l.map f).Nodup := by
  unfold List.Nodup
  rw [List.pairwise_map]
  exact List.Pairwise.imp_of_mem (fun {a b} ha hb hne e => hne (h a ha b hb e)) nd
theorem Ord.lt {n : Nat} {row : List Nat} (h : Ord n row) {i : Nat} (hi : i < n) : row[i]! < n := by
  rw [getElem!_pos row i (by rw [h.1]; exact hi)]
  exact h.2.2 _ (List.getElem_mem _)
theorem Ord.inj {n : Nat} {row : List Nat} (h : Ord n row) {i j : Nat} (hi : i < n) (hj : j < n) (e : row[i]! = row[j]!) : i = j := by
  rw [getElem!_pos row i (by rw [h.1]; exact hi), getElem!_pos row j (by rw [h.1]; exact hj)] at e
  exact nodup_get h.2.1 _ _ e
theorem Ord.surj {n : Nat} {row : List Nat} (h : Ord n row) {a : Nat} (ha : a < n) : ∃ i, i < n ∧ row[i]! = a := by
  have : a ∈ row := h.perm.mem_iff.mpr (List.mem_range.mpr ha)
  obtain ⟨i, hi, e⟩ := List.mem_iff_getElem.mp this
  exact ⟨i, by rw [← h.1]; exact hi, by rw [getElem!_pos row i hi]; exact e⟩
theorem mem_permsN {n : Nat} {row : List Nat} : row ∈ permsN n ↔ Ord n row := mem_permsTo
theorem ord2_cases (a b : Nat) : ord2 a b = (a, b) ∧ a < b ∨ ord2 a b = (b, a) ∧ b ≤ a := by
  unfold ord2
  by_cases h : a < b
  · rw [if_pos h]; exact .inl ⟨rfl, h⟩
  · rw [if_neg h]; exact .inr ⟨rfl, by omega⟩
theorem ord2_comm (a b : Nat) : ord2 a b = ord2 b a := by
  unfold ord2
  by_cases h : a < b
  · rw [if_pos h, if_neg (by omega)]
  · rw [if_neg h]
    by_cases h2 : b < a
    · rw [if_pos h2]
    · rw [if_neg h2]
      have : a = b := by omega
      rw [this]
theorem Web.tied_comm (w : Web) (a b : Nat) : w.tied a b = w.tied b a := by unfold Web.tied; rw [ord2_comm]
theorem Web.tied_lt (w : Web) {a b : Nat} (h : a < b) : w.tied a b = decide ((a, b) ∈ w.t) := by unfold Web.tied ord2; rw [if_pos h]
theorem Web.Ok.tied_bound {w : Web} (hw : w.Ok) {a b : Nat} (h : w.tied a b = true) : a < w.n ∧ b < w.n ∧ a ≠ b := by
  rcases (hw.tied_iff a b).mp h with h | h
  · have := hw.mem _ h; simp only at this; omega
  · have := hw.mem _ h; simp only at this; omega
/-- two webs are one where the same knots are tied -/
theorem Web.Ok.ext {v w : Web} (hv : v.Ok) (hw : w.Ok) (hn : v.n = w.n) (h : ∀ a b, a < b → b < v.n → v.tied a b = w.tied a b) : v = w := by
  have : v.t = w.t := by
    refine rise_ext tot_p hv.rise hw.rise fun p => ?_
    obtain ⟨a, b⟩ := p
    constructor
    · intro hp
      have hb := hv.mem _ hp
      have := h a b hb.1 hb.2
      rw [v.tied_lt hb.1, w.tied_lt hb.1, decide_eq_decide] at this
      exact this.mp hp
    · intro hp
      have hb := hw.mem _ hp
      have := h a b hb.1 (by rw [hn]; exact hb.2)
      rw [v.tied_lt hb.1, w.tied_lt hb.1, decide_eq_decide] at this
      exact this.mpr hp
  cases v; cases w
  simp only at hn this
  rw [hn, this]
theorem numbered_mem {w : Web} {row : List Nat} {p : Nat × Nat} : p ∈ (w.numbered row).t ↔ ∃ q ∈ w.t, p = ord2 row[q.1]! row[q.2]! := by
  show p ∈ sortP _ ↔ _
  unfold sortP
  rw [sortBy_mem, List.mem_map]
  exact ⟨fun ⟨q, h, e⟩ => ⟨q, h, e.symm⟩, fun ⟨q, h, e⟩ => ⟨q, h, e.symm⟩⟩
theorem ord2_inj {a b c d : Nat} (h : ord2 a b = ord2 c d) : a = c ∧ b = d ∨ a = d ∧ b = c := by
  rcases ord2_cases a b with ⟨e1, _⟩ | ⟨e1, _⟩ <;> rcases ord2_cases c d with ⟨e2, _⟩ | ⟨e2, _⟩ <;> rw [e1, e2] at h <;> simp only [Prod.mk.injEq] at h <;> omega
theorem Web.Ok.numbered {w : Web} (hw : w.Ok) {row : List Nat} (hr : Ord w.n row) : (w.numbered row).Ok where
  pos := hw.pos
  le := hw.le
  rise := by
    refine sortBy_rise tot_p ?_
    refine nodup_map_on ?_ (rise_nodup tot_p hw.rise)
    rintro ⟨a, b⟩ hp ⟨c, d⟩ hq e
    have h1 := hw.mem _ hp
    have h2 := hw.mem _ hq
    simp only at h1 h2 e
    rcases ord2_inj e with ⟨e1, e2⟩ | ⟨e1, e2⟩
    · rw [hr.inj (by omega) (by omega) e1, hr.inj (by omega) (by omega) e2]
    · have := hr.inj (by omega) (by omega) e1
      have := hr.inj (by omega) (by omega) e2
      omega
  mem p hp := by
    obtain ⟨q, hq, rfl⟩ := numbered_mem.mp hp
    have h1 := hw.mem _ hq
    have l1 := hr.lt (i := q.1) (by omega)
    have l2 := hr.lt (i := q.2) (by omega)
    show (ord2 row[q.1]! row[q.2]!).1 < (ord2 row[q.1]! row[q.2]!).2 ∧ (ord2 row[q.1]! row[q.2]!).2 < w.n
    rcases ord2_cases row[q.1]! row[q.2]! with ⟨e, h⟩ | ⟨e, h⟩ <;> rw [e]
    · exact ⟨h, l2⟩
    · refine ⟨?_, l1⟩
      show row[q.2]! < row[q.1]!
      have : row[q.2]! ≠ row[q.1]! := fun z => by have := hr.inj (by omega) (by omega) z; omega
      omega
theorem Web.Ok.tied_numbered {w : Web} (hw : w.Ok) {row : List Nat} (hr : Ord w.n row) {i j : Nat} (hi : i < w.n) (hj : j < w.n) : (w.numbered row).tied row[i]! row[j]! = w.tied i j := by
  rw [Bool.eq_iff_iff]
  unfold Web.tied
  rw [decide_eq_true_eq, decide_eq_true_eq, numbered_mem]
  constructor
  · rintro ⟨⟨a, b⟩, hq, e⟩
    have h1 := hw.mem _ hq
    simp only at h1 e
    rcases ord2_inj e with ⟨e1, e2⟩ | ⟨e1, e2⟩
    · rw [hr.inj hi (by omega) e1, hr.inj hj (by omega) e2]
      unfold ord2
      rw [if_pos h1.1]
      exact hq
    · rw [hr.inj hi (by omega) e1, hr.inj hj (by omega) e2, ord2_comm]
      unfold ord2
      rw [if_pos h1.1]
      exact hq
  · intro h
    refine ⟨_, h, ?_⟩
    rcases ord2_cases i j with ⟨e, _⟩ | ⟨e, _⟩ <;> rw [e]
    exact ord2_comm _ _
theorem Web.Ok.contrary {w : Web} (hw : w.Ok) : w.contrary.Ok where
  pos := hw.pos
  le := hw.le
  rise := (prs_rise w.n).filter _
  mem p hp := prs_mem.mp (List.mem_filter.mp hp).1
theorem Web.Ok.ties_len {w : Web} (hw : w.Ok) : w.t.length ≤ 21 := by
  have e : w.t = (prs w.n).filter fun p => decide (p ∈ w.t) := rise_ext tot_p hw.rise ((prs_rise w.n).filter _) fun p => by
    rw [List.mem_filter, decide_eq_true_eq, prs_mem]
    exact ⟨fun h => ⟨hw.mem p h, h⟩, fun h => h.2⟩
  rw [e]
  have key : ∀ m, m < 8 → (prs m).length ≤ 21 := by decide +kernel
  exact Nat.le_trans (List.length_filter_le _ _) (key w.n (by have := hw.le; omega))
/-- a fit, by all pairs -/
def Fits (one other : Web) (row : List Nat) : Prop := ∀ i j, i < j → j < one.n → one.tied i j = other.tied row[i]! row[j]!
theorem fits_iff {one other : Web} (h1 : one.Ok) (h2 : other.Ok) (hn : one.n = other.n) {row : List Nat} (hr : Ord one.n row) : one.numbered row = other ↔ Fits one other row := by
  constructor
  · rintro rfl i j hij hj
    exact (h1.tied_numbered hr (by omega) hj).symm
  · intro h
    refine (h1.numbered hr).ext h2 hn fun a b hab hb => ?_
    have hb : b < one.n := hb
    obtain ⟨i, hi, rfl⟩ := hr.surj (show a < one.n by omega)
    obtain ⟨j, hj, rfl⟩ := hr.surj hb
    rw [h1.tied_numbered hr hi hj]
    rcases Nat.lt_trichotomy i j with q | q | q
    · exact h i j q hj
    · subst q; omega
    · rw [one.tied_comm, other.tied_comm]
      exact h j i q hi
theorem Fits.all {one other : Web} (h1 : one.Ok) (h2 : other.Ok) {row : List Nat} (h : Fits one other row) {i j : Nat} (hi : i < one.n) (hj : j < one.n) : one.tied i j = other.tied row[i]! row[j]! := by
  rcases Nat.lt_trichotomy i j with q | q | q
  · exact h i j q hj
  · subst q; rw [h1.tied_self, h2.tied_self]
  · rw [one.tied_comm, other.tied_comm]
    exact h j i q hi
/-- degrees go along -/
theorem fits_degree {one other : Web} (h1 : one.Ok) (h2 : other.Ok) (hn : one.n = other.n) {row : List Nat} (hr : Ord one.n row) (h : Fits one other row) {i : Nat} (hi : i < one.n) : (one.near i).length = (other.near row[i]!).length := by
  rw [← h1.near_eq, ← h2.near_eq, ← hn]
  have e : ((List.range one.n).filter fun o => other.tied row[i]! o).Perm (((List.range one.n).filter fun o => one.tied i o).map fun o => row[o]!) := by
    refine (List.perm_ext_iff_of_nodup (List.nodup_range.filter _) (nodup_map_on ?_ (List.nodup_range.filter _))).mpr fun x => ?_
    · intro a ha b hb e
      exact hr.inj (List.mem_range.mp (List.mem_filter.mp ha).1) (List.mem_range.mp (List.mem_filter.mp hb).1) e
    · rw [List.mem_filter, List.mem_map, List.mem_range]
      constructor
      · rintro ⟨hx, ht⟩
        obtain ⟨j, hj, rfl⟩ := hr.surj hx
        exact ⟨j, List.mem_filter.mpr ⟨List.mem_range.mpr hj, by rw [h.all h1 h2 hi hj]; exact ht⟩, rfl⟩
      · rintro ⟨j, hj, rfl⟩
        obtain ⟨hj, ht⟩ := List.mem_filter.mp hj
        have hj := List.mem_range.mp hj
        exact ⟨hr.lt hj, by rw [← h.all h1 h2 hi hj]; exact ht⟩
  rw [e.length_eq, List.length_map]
theorem map_get (l : List Nat) (n : Nat) (h : l.length = n) : (List.range n).map (fun i => l[i]!) = l := by
  refine List.ext_getElem (by simp [h]) fun i h1 h2 => ?_
  simp only [List.getElem_map, List.getElem_range]
  rw [getElem!_pos l i h2]
theorem fits_degrees {one other : Web} (h1 : one.Ok) (h2 : other.Ok) (hn : one.n = other.n) {row : List Nat} (hr : Ord one.n row) (h : Fits one other row) : one.degrees.Perm other.degrees := by
  unfold Web.degrees
  have e : (List.range one.n).map (fun k => (one.near k).length) = row.map fun k => (other.near k).length := by
    conv => rhs; rw [← map_get row one.n hr.1, List.map_map]
    refine List.map_congr_left fun i hi => ?_
    exact fits_degree h1 h2 hn hr h (List.mem_range.mp hi)
  rw [e, ← hn]
  exact hr.perm.map _
/-! ### the search for fits finds all -/
def extD (m : Nat) : Nat → List Nat → List (List Nat)
  | 0, laid => [laid]
  | k + 1, laid => ((List.range m).filter fun x => !decide (x ∈ laid)).flatMap fun x => extD m k (laid ++ [x])
def stepIter (m : Nat) : Nat → List (List Nat) → List (List Nat)
  | 0, f => f
  | k + 1, f => stepIter m k (stepPerms m f)
theorem stepIter_out (m : Nat) : ∀ (k : Nat) (f : List (List Nat)), stepIter m (k + 1) f = stepPerms m (stepIter m k f)
  | 0, _ => rfl
  | k + 1, f => by
    show stepIter m (k + 1) (stepPerms m f) = _
    rw [stepIter_out m k]
    rfl
theorem permsTo_iter (m : Nat) : ∀ i, permsTo m i = stepIter m i [[]]
  | 0 => rfl
  | i + 1 => by
    rw [stepIter_out, ← permsTo_iter m i]
    rfl
theorem stepIter_ext (m : Nat) : ∀ (k : Nat) (f : List (List Nat)), stepIter m k f = f.flatMap (extD m k)
  | 0, f => by
    show f = f.flatMap fun r => [r]
    rw [List.flatMap_singleton']
  | k + 1, f => by
    show stepIter m k (stepPerms m f) = _
    rw [stepIter_ext m k]
    unfold stepPerms
    rw [List.flatMap_assoc]
    congr 1
    funext row
    rw [List.flatMap_map]
    rfl
theorem permsN_ext (m : Nat) : permsN m = extD m m [] := by
  unfold permsN
  rw [permsTo_iter, stepIter_ext]
  simp
theorem extD_pre (m : Nat) : ∀ (k : Nat) (laid row : List Nat), row ∈ extD m k laid → ∃ r, row = laid ++ r ∧ r.length = k
  | 0, laid, row, h => ⟨[], by rw [List.append_nil]; exact List.mem_singleton.mp h, rfl⟩
  | k + 1, laid, row, h => by
    obtain ⟨x, _, hx⟩ := List.mem_flatMap.mp h
    obtain ⟨r, e, hl⟩ := extD_pre m k _ row hx
    exact ⟨x :: r, by rw [e, List.append_assoc]; rfl, by rw [List.length_cons, hl]⟩
def okFrom (one other : Web) (j : Nat) (row : List Nat) : Bool := decide (∀ i, i < row.length → j ≤ i → goesOn one other (row.take i) row[i]! = true)
theorem flatMap_if {α β : Type} (c : α → Bool) (f : α → List β) : ∀ l : List α, (l.flatMap fun x => if c x = true then f x else []) = (l.filter c).flatMap f
  | [] => rfl
  | x :: l => by
    rw [List.flatMap_cons, flatMap_if c f l]
    cases h : c x with
    | true => rw [if_pos rfl, List.filter_cons_of_pos h, List.flatMap_cons]
    | false => rw [if_neg (by simp), List.filter_cons_of_neg (by simp [h]), List.nil_append]
theorem fitsF_ext (one other : Web) : ∀ (k : Nat) (laid : List Nat), fitsF one other k laid = (extD other.n k laid).filter (okFrom one other laid.length)
  | 0, laid => by
    show [laid] = [laid].filter _
    rw [List.filter_cons_of_pos]
    · rfl
    · unfold okFrom
      rw [decide_eq_true_eq]
      intro i h1 h2
      omega
  | k + 1, laid => by
    show (List.range other.n).flatMap (fun x => if (!decide (x ∈ laid) && goesOn one other laid x) = true then fitsF one other k (laid ++ [x]) else []) = (((List.range other.n).filter fun x => !decide (x ∈ laid)).flatMap fun x => extD other.n k (laid ++ [x])).filter _
    rw [flatMap_if, List.filter_flatMap]
    have e : ∀ l : List Nat, (l.filter fun x => !decide (x ∈ laid) && goesOn one other laid x).flatMap (fun x => fitsF one other k (laid ++ [x])) = (l.filter fun x => !decide (x ∈ laid)).flatMap fun x => (extD other.n k (laid ++ [x])).filter (okFrom one other laid.length) := fun l => by
      induction l with
      | nil => rfl
      | cons x l ih =>
        by_cases hx : x ∈ laid
        · rw [List.filter_cons_of_neg (by simp [hx]), List.filter_cons_of_neg (by simp [hx]), ih]
        · rw [List.filter_cons_of_pos (p := fun x => !decide (x ∈ laid)) (by simp [hx]), List.flatMap_cons]
          have split : ∀ row ∈ extD other.n k (laid ++ [x]), okFrom one other laid.length row = (goesOn one other laid x && okFrom one other (laid ++ [x]).length row) := fun row hrow => by
            obtain ⟨r, rfl, hl⟩ := extD_pre _ _ _ _ hrow
            unfold okFrom
            rw [Bool.eq_iff_iff, Bool.and_eq_true, decide_eq_true_eq, decide_eq_true_eq, List.length_append (as := laid) (bs := [x])]
            have e1 : (laid ++ [x] ++ r).take laid.length = laid := by rw [List.append_assoc, List.take_left]
            have e2 : (laid ++ [x] ++ r)[laid.length]! = x := by
              rw [getElem!_pos _ _ (by simp)]
              simp
            constructor
            · intro h
              have := h laid.length (by simp) (Nat.le_refl _)
              rw [e1, e2] at this
              exact ⟨this, fun i h1 h2 => h i h1 (by simp at h2; omega)⟩
            · rintro ⟨h1, h2⟩ i h3 h4
              by_cases h5 : i = laid.length
              · rw [h5, e1, e2]; exact h1
              · exact h2 i h3 (by simp; omega)
          cases hg : goesOn one other laid x with
          | true =>
            rw [List.filter_cons_of_pos (by simp [hx, hg]), List.flatMap_cons, ih, fitsF_ext one other k]
            congr 1
            refine List.filter_congr fun row hrow => ?_
            rw [split row hrow, hg, Bool.true_and]
          | false =>
            rw [List.filter_cons_of_neg (by simp [hg]), ih]
            have : (extD other.n k (laid ++ [x])).filter (okFrom one other laid.length) = [] := by
              rw [List.filter_eq_nil_iff]
              intro row hrow
              rw [split row hrow, hg, Bool.false_and]
              simp
            rw [this, List.nil_append]
    exact e _
theorem goesOn_iff {one other : Web} {row : List Nat} {j : Nat} (hj : j < row.length) : goesOn one other (row.take j) row[j]! = true ↔ ∀ i, i < j → one.tied i j = other.tied row[i]! row[j]! := by
  unfold goesOn
  have hl : (row.take j).length = j := by rw [List.length_take]; omega
  rw [List.all_eq_true, hl]
  constructor
  · intro h i hi
    have hm : (row[i]!, i) ∈ (row.take j).zipIdx := by
      rw [List.mem_zipIdx_iff_getElem?]
      show (row.take j)[i]? = some row[i]!
      rw [List.getElem?_take, if_pos hi, List.getElem?_eq_getElem (by omega), getElem!_pos row i (by omega)]
    have := h _ hm
    exact eq_of_beq this
  · rintro h ⟨x, i⟩ hp
    rw [List.mem_zipIdx_iff_getElem?] at hp
    have hp : (row.take j)[i]? = some x := hp
    have hi : i < j := by
      have := (List.getElem?_eq_some_iff.mp hp).1
      omega
    rw [List.getElem?_take, if_pos hi, List.getElem?_eq_getElem (by omega)] at hp
    have := h i hi
    rw [getElem!_pos row i (by omega), Option.some.inj hp] at this
    show (one.tied i j == other.tied x row[j]!) = true
    rw [this]
    exact beq_self_eq_true _
theorem okFrom_iff {one other : Web} {row : List Nat} (hl : row.length = one.n) : okFrom one other 0 row = true ↔ Fits one other row := by
  unfold okFrom
  rw [decide_eq_true_eq]
  constructor
  · intro h i j hij hj
    exact (goesOn_iff (by omega)).mp (h j (by omega) (Nat.zero_le _)) i hij
  · intro h j hj _
    exact (goesOn_iff hj).mpr fun i hi => h i j hi (by omega)
def lawFits (one other : Web) : List (List Nat) := if one.n = other.n then (permsN one.n).filter fun row => decide (one.numbered row = other) else []
/-- the fits found are those of all orders that are fits -/
theorem fitsAll_eq {one other : Web} (h1 : one.Ok) (h2 : other.Ok) : fitsAll one other = lawFits one other := by
  unfold fitsAll lawFits
  by_cases hn : one.n = other.n
  · rw [if_pos hn]
    have e : fitsF one other one.n [] = (permsN one.n).filter fun row => decide (one.numbered row = other) := by
      rw [fitsF_ext, permsN_ext, hn]
      refine List.filter_congr fun row hrow => ?_
      have hr : Ord one.n row := by
        rw [hn]
        exact mem_permsN.mp (by rw [permsN_ext]; exact hrow)
      rw [Bool.eq_iff_iff, decide_eq_true_eq, fits_iff h1 h2 hn hr]
      exact okFrom_iff hr.1
    by_cases hd : sortN one.degrees = sortN other.degrees
    · rw [if_pos hd, e]
    · rw [if_neg hd]
      refine (List.filter_eq_nil_iff.mpr fun row hrow => ?_).symm
      rw [decide_eq_true_eq]
      intro q
      have hr := mem_permsN.mp hrow
      exact hd (sortBy_congr tot_n (fits_degrees h1 h2 hn hr ((fits_iff h1 h2 hn hr).mp q)))
  · rw [if_neg hn, if_neg fun hd => ?_]
    have := congrArg List.length hd
    unfold sortN at this
    rw [sortBy_len, sortBy_len] at this
    unfold Web.degrees at this
    rw [List.length_map, List.length_map, List.length_range, List.length_range] at this
    exact hn this
end Wv
namespace Wv
open PySem PySem.Spec PyProof.Rows L2
local macro_rules | `(tactic| simp? only [$xs,*]) => `(tactic| simp only [exs, exS, ev, evTs, evDs, evAs, evAnd, evOr, evCond, evIt, evT, evB, evD, evK, b_ok, b_err, b_bad, k_ok, m_ok, dat_fz, dat_ow, keepV_no, keepV_fz, iL_loc, iL_non, iL_bl, iL_int, iL_str, iL_glo, iL_op, iL_chain, iL_neg, iL_not, iL_and, iL_or, iL_ite, iL_tup, iL_lst, iL_ix, iL_sl, iL_isi, iL_bi, iL_lenset, iL_sortset, iL_rep, iL_rev, iL_lrng, iL_mt, iL_call, iL_comp, iL_comp2, iL_dget, iL_dkeys, iL_trng, iL_trng2, iL_ptup, iL_ptl, iL_ptr, iL_ptr2, iL_tix, iL_dnew, iL_disp, iL_dix, iL_dgt, iL_dcopy, iL_gget, iL_gix, dicV_ow, dicV_fd, dat_pt, keepV_pt, argV_pt, lstOf, ptD, ptOf, starD, argV_fz, argV_ow, frzV_lst, frzV_tup, frzV_dct, boolV_bl, kB, kI, tyB, getO, frz, fin_rt, fin_nx, tmsLen, Gc.d, List.getElem?_cons_zero, List.getElem?_cons_succ, List.getElem?_nil, List.set_cons_zero, List.set_cons_succ, List.map_cons, List.map_nil, List.replicate_zero, List.replicate_succ, List.cons_append, List.nil_append, List.append_nil, List.any_cons, List.any_nil, List.all_cons, List.all_nil, Bool.or_false, Bool.false_or, Bool.or_true, Bool.true_or, Bool.and_true, Bool.true_and, Bool.and_false, Bool.false_and, Bool.not_true, Bool.not_false, Bool.not_not, Bool.false_eq_true, Bool.true_eq_false, if_true, if_false, ite_true, ite_false, Nat.reduceSub, Nat.reduceAdd, List.length_cons, List.length_nil, Nat.zero_add, reduceIte, id, plain_non, plain_bl, plain_int, plain_str, plain_lst, plain_tup, isDict_non, isDict_bl, isDict_int, isDict_str, isDict_lst, isDict_tup, eqD_int, eqD_bool, eqD_str, ltD_int, Int.reduceEq, Int.reduceLT, Int.reduceLE, Int.reduceAdd, Int.reduceSub, Int.reduceMul, Int.reduceToNat, Int.reduceNeg, Int.reduceMod, Int.reduceDiv, decide_true, decide_false, Bool.true_beq, Bool.false_beq, compL_sel, selL_some, selL_if, flatL_sel, flatT_some, allD_m, anyD_m, sumD_n, m_err, m_bad, Gc.d, List.length_map, Nat.add_zero, q_tn, q_tb, q_ti, q_tl, q_tt, q_addi, q_adds, q_addl, q_addt, q_sub, q_mul, q_fdiv, q_mod, q_pow, q_le, q_gt, q_ge, q_neg, q_inl, q_int, q_ins, q_add, q_sub2, q_mul2, q_fdiv2, q_mod2, q_pow2, q_eq, q_ne, q_lt, q_le2, q_gt2, q_ge2, q_in, q_ni, q_is, q_isn, q_non, q_nob, q_noi, q_nos, q_nol, q_not, q_ixl, q_ixt, q_ixs, q_bn0, q_bn1, q_sll, q_slt, q_sls, q_lenl, q_lent, q_lens, q_tul, q_tut, q_lil, q_lit, q_ini, q_inb, q_str, q_rep, q_itl, q_itt, q_its, q_enl, q_ent, q_zll, q_ztt, q_app, q_ins2, q_set, q_revl, q_revt, q_repd, q_isin, q_isib, q_isii, q_isis, q_isil, q_isit, q_bi, q_b1, q_b2, q_b3, q_b4, q_b5, q_b6, q_b7, q_b8, q_b9, q_b10, q_b11, q_b12, q_bt1, q_bt2, q_btp, q_dgt, pl_n, pl_pr, pl_wb, pl_tn, in_pr, in_n, in_i, in_ni, in_tn, in_wb, eq_pr, eq_wb, eq_i, eq_tn, eq_ln, eq_tp, eq_l0, q_nD, and_b, or_b, b_ite, k_ite, m_ite, Int.ofNat_inj, Int.ofNat_lt, Int.ofNat_le, Int.natCast_inj, Int.natCast_pos, dec_t, sort_n, sort_p, sort_w, sort_2, lt_pr, lt_wb, lt_tn, c_1, c_add, c_modc, c_mulc, enum_f, zip_f, q_bte, q_btz, c_modl, c_divl, c_addl, c_addr, c_mull, c_mulr, c_ltl, c_ltr, c_lel, c_ler, c_eql, c_eqr, List.length_append, str_tf, beq_self_eq_true, Nat.reduceEqDiff, Nat.reduceLT, Nat.reduceLeDiff, Nat.reduceMod, Nat.reduceMul, Nat.reduceDiv, all_tt, any_ff, wipeE, $xs,*])
/-! ### plain webs -/
theorem min_w (w : Web) (ws : List Web) : minD (.list (wbD w :: ws.map wbD)) = .ok (.fz (wbD (leastF ltW w ws))) := ord_wb.min (by decide) (.inl fun _ => rfl) (fun a => by
  show PyData.plainAll [_, _] = true
  simp only [PyData.plainAll, PyData.plain, plainAll_f (f := prD) (fun _ => rfl), Bool.and_self]) rfl
theorem pl_lnD (r : List Nat) : lnD r = .list (r.map nD) := rfl
def cls (rows : List Nat) (d : Nat) : List Nat := (rows.zipIdx.filter fun p => decide (p.1 = d)).map (·.2)
def stepO (rows : List Nat) (os : List (List Nat)) (d : Nat) : List (List Nat) := os.flatMap fun o => (ordersF (cls rows d).length (cls rows d)).map fun r => o ++ r
def ordersW (w : Web) : List (List Nat) := (risN w.degrees).foldl (stepO w.degrees) [[]]
def invO (n : Nat) (o : List Nat) : List Nat := (List.range n).map fun k => o.idxOf k
def stepB (w : Web) (best : Option Web) (o : List Nat) : Option Web := match best with
  | none => some (w.numbered (invO w.n o))
  | some b => if ltW (w.numbered (invO w.n o)) b = true then some (w.numbered (invO w.n o)) else some b
def plainO (w : Web) : Option Web := (ordersW w).foldl (stepB w) none
def optD : Option Web → PyData
  | none => .none
  | some w => wbD w
theorem mem_cls {rows : List Nat} {d k : Nat} : k ∈ cls rows d ↔ rows[k]? = some d := by
  unfold cls
  simp only [List.mem_map, List.mem_filter, List.mem_zipIdx_iff_getElem?, decide_eq_true_eq]
  constructor
  · rintro ⟨⟨x, i⟩, ⟨h1, h2⟩, rfl⟩
    subst h2
    exact h1
  · intro h
    exact ⟨(d, k), ⟨h, rfl⟩, rfl⟩
theorem cls_nodup (rows : List Nat) (d : Nat) : (cls rows d).Nodup := by
  unfold cls
  have h : (rows.zipIdx.map (·.2)).Nodup := by
    rw [List.zipIdx_map_snd]
    exact List.nodup_range'
  exact h.sublist (List.filter_sublist.map _)
structure GoodO (rows ds o : List Nat) : Prop where
  nd : o.Nodup
  mem : ∀ k, k ∈ o ↔ ∃ d ∈ ds, rows[k]? = some d
  up : o.Pairwise fun a b => rows[a]! ≤ rows[b]!
theorem getB {rows : List Nat} {k d : Nat} (h : rows[k]? = some d) : rows[k]! = d := by
  obtain ⟨h1, h2⟩ := List.getElem?_eq_some_iff.mp h
  rw [getElem!_pos rows k h1, h2]
theorem foldl_snoc {α β : Type} (f : β → α → β) (b : β) (l : List α) (x : α) : (l ++ [x]).foldl f b = f (l.foldl f b) x := by rw [List.foldl_append]; rfl
theorem rec_snoc {α : Type} {P : List α → Prop} (h0 : P []) (h1 : ∀ l x, P l → P (l ++ [x])) : ∀ l, P l := fun l => by
  have : ∀ r : List α, P r.reverse := fun r => by
    induction r with
    | nil => exact h0
    | cons x r ih => rw [List.reverse_cons]; exact h1 _ _ ih
  have := this l.reverse
  rwa [List.reverse_reverse] at this
theorem mem_fold (rows : List Nat) : ∀ ds : List Nat, ds.Pairwise (· < ·) → ∀ o, o ∈ ds.foldl (stepO rows) [[]] ↔ GoodO rows ds o := by
  refine rec_snoc (fun _ o => ?_) fun ds d ih hs o => ?_
  · show o ∈ [[]] ↔ _
    rw [List.mem_singleton]
    constructor
    · rintro rfl
      exact ⟨.nil, fun k => by simp, .nil⟩
    · intro h
      cases o with
      | nil => rfl
      | cons x o =>
        obtain ⟨d, hd, _⟩ := (h.mem x).mp List.mem_cons_self
        cases hd
  · obtain ⟨hs1, _, hs2⟩ := List.pairwise_append.mp hs
    have ih := ih hs1
    have hd : ∀ e ∈ ds, e < d := fun e he => hs2 e he d (by simp)
    rw [foldl_snoc]
    unfold stepO at ih ⊢
    rw [List.mem_flatMap]
    constructor
    · rintro ⟨a, ha, hr⟩
      obtain ⟨b, hb, rfl⟩ := List.mem_map.mp hr
      have ga := (ih a).mp ha
      have gb := (mem_ordersF _ rfl).mp hb
      have mb : ∀ k, k ∈ b ↔ rows[k]? = some d := fun k => by rw [gb.mem_iff, mem_cls]
      refine ⟨List.nodup_append.mpr ⟨ga.nd, gb.nodup_iff.mpr (cls_nodup _ _), fun x hx y hy => ?_⟩, fun k => ?_, List.pairwise_append.mpr ⟨ga.up, List.pairwise_of_forall_mem_list fun x hx y hy => ?_, fun x hx y hy => ?_⟩⟩
      · rintro rfl
        obtain ⟨e, he, h1⟩ := (ga.mem x).mp hx
        have h2 := (mb x).mp hy
        rw [h1] at h2
        have := hd e he
        cases h2
        omega
      · rw [List.mem_append, ga.mem, mb]
        constructor
        · rintro (⟨e, he, h⟩ | h)
          · exact ⟨e, List.mem_append_left _ he, h⟩
          · exact ⟨d, by simp, h⟩
        · rintro ⟨e, he, h⟩
          rcases List.mem_append.mp he with he | he
          · exact .inl ⟨e, he, h⟩
          · rw [List.mem_singleton.mp he] at h
            exact .inr h
      · rw [getB ((mb x).mp hx), getB ((mb y).mp hy)]
        exact Nat.le_refl _
      · obtain ⟨e, he, h⟩ := (ga.mem x).mp hx
        rw [getB h, getB ((mb y).mp hy)]
        exact Nat.le_of_lt (hd e he)
    · intro g
      refine ⟨o.filter fun k => decide (rows[k]! < d), (ih _).mpr ⟨g.nd.filter _, fun k => ?_, g.up.filter _⟩, List.mem_map.mpr ⟨o.filter fun k => !decide (rows[k]! < d), (mem_ordersF _ rfl).mpr ?_, ?_⟩⟩
      · rw [List.mem_filter, g.mem, decide_eq_true_eq]
        constructor
        · rintro ⟨⟨e, he, h⟩, hlt⟩
          rw [getB h] at hlt
          rcases List.mem_append.mp he with he | he
          · exact ⟨e, he, h⟩
          · rw [List.mem_singleton.mp he] at hlt
            omega
        · rintro ⟨e, he, h⟩
          exact ⟨⟨e, List.mem_append_left _ he, h⟩, by rw [getB h]; exact hd e he⟩
      · refine (List.perm_ext_iff_of_nodup (g.nd.filter _) (cls_nodup _ _)).mpr fun k => ?_
        rw [List.mem_filter, g.mem, mem_cls, Bool.not_eq_true', decide_eq_false_iff_not]
        constructor
        · rintro ⟨⟨e, he, h⟩, hlt⟩
          rw [getB h] at hlt
          rcases List.mem_append.mp he with he | he
          · exact absurd (hd e he) hlt
          · rw [List.mem_singleton.mp he] at h
            exact h
        · intro h
          exact ⟨⟨d, by simp, h⟩, by rw [getB h]; omega⟩
      · have key : ∀ l : List Nat, (l.Pairwise fun a b => rows[a]! ≤ rows[b]!) → (l.filter fun k => decide (rows[k]! < d)) ++ (l.filter fun k => !decide (rows[k]! < d)) = l := fun l => by
          induction l with
          | nil => intro _; rfl
          | cons x l ihl =>
            intro hp
            obtain ⟨h1, h2⟩ := List.pairwise_cons.mp hp
            by_cases hx : rows[x]! < d
            · rw [List.filter_cons_of_pos (by simpa using hx), List.filter_cons_of_neg (by simpa using hx), List.cons_append, ihl h2]
            · have hn : (l.filter fun k => decide (rows[k]! < d)) = [] := List.filter_eq_nil_iff.mpr fun y hy => by
                have := h1 y hy
                rw [decide_eq_true_eq]
                omega
              have hs : (l.filter fun k => !decide (rows[k]! < d)) = l := List.filter_eq_self.mpr fun y hy => by
                have := h1 y hy
                rw [Bool.not_eq_true', decide_eq_false_iff_not]
                omega
              rw [List.filter_cons_of_neg (by simpa using hx), List.filter_cons_of_pos (by simpa using hx), hn, hs]
              rfl
        exact key o g.up
theorem cls_count (rows : List Nat) (d : Nat) : (cls rows d).length = rows.count d := by
  unfold cls
  have key : ∀ (l : List Nat) (j : Nat), ((l.zipIdx j).filter fun p => decide (p.1 = d)).length = l.count d := fun l => by
    induction l with
    | nil => intro j; rfl
    | cons x l ih =>
      intro j
      rw [List.zipIdx_cons]
      by_cases h : x = d
      · rw [List.filter_cons_of_pos (by simpa using h), List.length_cons, ih, h, List.count_cons_self]
      · rw [List.filter_cons_of_neg (by simpa using h), ih, List.count_cons_of_ne h]
  rw [List.length_map]
  exact key rows 0
theorem sum_count : ∀ (ds rows : List Nat), ds.Nodup → (ds.map fun d => rows.count d).sum ≤ rows.length
  | [], rows, _ => Nat.zero_le _
  | d :: ds, rows, h => by
    obtain ⟨h1, h2⟩ := List.nodup_cons.mp h
    have ih := sum_count ds (rows.filter fun x => !decide (x = d)) h2
    have e : (ds.map fun d => rows.count d) = ds.map fun e => (rows.filter fun x => !decide (x = d)).count e := List.map_congr_left fun e he => by
      have hne : e ≠ d := fun q => h1 (q ▸ he)
      exact (List.count_filter (by simpa using hne)).symm
    have e2 : ∀ l : List Nat, l.count d + (l.filter fun x => !decide (x = d)).length = l.length := fun l => by
      induction l with
      | nil => rfl
      | cons x l ihl =>
        by_cases hx : x = d
        · rw [List.filter_cons_of_neg (by simpa using hx), hx, List.count_cons_self, List.length_cons]; omega
        · rw [List.filter_cons_of_pos (by simpa using hx), List.count_cons_of_ne hx, List.length_cons, List.length_cons]; omega
    have := e2 rows
    rw [List.map_cons, List.sum_cons, e]
    omega
theorem fold_len {rows : List Nat} (hr : rows.length ≤ 7) {ds : List Nat} (nd : ds.Nodup) : ∀ i, (((ds.take i).foldl (stepO rows) [[]]).length ≤ fac (((ds.take i).map fun d => rows.count d).sum) ∧ ((ds.take i).map fun d => rows.count d).sum ≤ 7) := fun i => by
  have hs : ∀ l : List Nat, l.Nodup → (l.foldl (stepO rows) [[]]).length ≤ fac ((l.map fun d => rows.count d).sum) := by
    refine rec_snoc (fun _ => Nat.le_refl _) fun l d ih hl => ?_
    obtain ⟨h1, _, _⟩ := List.nodup_append.mp hl
    have ih := ih h1
    have hsum := sum_count (l ++ [d]) rows hl
    rw [List.map_append, List.sum_append] at hsum ⊢
    simp only [List.map_cons, List.map_nil, List.sum_cons, List.sum_nil, Nat.add_zero] at hsum ⊢
    rw [foldl_snoc]
    have := flat_le (l := l.foldl (stepO rows) [[]]) (f := fun o => (ordersF (cls rows d).length (cls rows d)).map fun r => o ++ r) (k := fac (rows.count d)) fun o _ => by
      rw [List.length_map, ← cls_count]
      exact ordersF_len _ rfl
    refine Nat.le_trans this (Nat.le_trans (Nat.mul_le_mul_right _ ih) (fac_add (by omega)))
  have nd2 : (ds.take i).Nodup := nd.sublist (List.take_sublist i ds)
  exact ⟨hs _ nd2, Nat.le_trans (sum_count _ _ nd2) hr⟩
theorem deg_len (w : Web) : w.degrees.length = w.n := by unfold Web.degrees; rw [List.length_map, List.length_range]
theorem mem_ordersW {w : Web} {o : List Nat} : o ∈ ordersW w ↔ Ord w.n o ∧ o.Pairwise fun a b => w.degrees[a]! ≤ w.degrees[b]! := by
  unfold ordersW
  rw [mem_fold _ _ (risN_sort _)]
  have hm : ∀ k, (∃ d ∈ risN w.degrees, w.degrees[k]? = some d) ↔ k < w.n := fun k => by
    constructor
    · rintro ⟨d, _, h⟩
      have := (List.getElem?_eq_some_iff.mp h).1
      rwa [deg_len] at this
    · intro h
      have hk : k < w.degrees.length := by rw [deg_len]; exact h
      exact ⟨w.degrees[k], (risN_mem _ _).mpr (List.getElem_mem hk), List.getElem?_eq_getElem hk⟩
  constructor
  · intro g
    refine ⟨Ord.of_perm ((List.perm_ext_iff_of_nodup g.nd List.nodup_range).mpr fun k => ?_), g.up⟩
    rw [g.mem, hm, List.mem_range]
  · rintro ⟨h1, h2⟩
    refine ⟨h1.2.1, fun k => ?_, h2⟩
    rw [hm, h1.perm.mem_iff, List.mem_range]
theorem Ord.has {n : Nat} {o : List Nat} (h : Ord n o) {k : Nat} (hk : k < n) : k ∈ o := h.perm.mem_iff.mpr (List.mem_range.mpr hk)
theorem invO_get {n : Nat} {o : List Nat} {k : Nat} (hk : k < n) : (invO n o)[k]! = o.idxOf k := by
  unfold invO
  rw [getElem!_pos _ _ (by simpa using hk), List.getElem_map, List.getElem_range]
theorem at_idx {o : List Nat} {k : Nat} (h : k ∈ o) : o[o.idxOf k]! = k := by
  have hl := List.idxOf_lt_length_of_mem h
  rw [getElem!_pos o _ hl]
  exact List.getElem_idxOf hl
theorem Ord.inv {n : Nat} {o : List Nat} (h : Ord n o) : Ord n (invO n o) := by
  refine ⟨by unfold invO; simp, nodup_map_on (fun x hx y hy e => ?_) List.nodup_range, fun x hx => ?_⟩
  · rw [← at_idx (h.has (List.mem_range.mp hx)), ← at_idx (h.has (List.mem_range.mp hy)), e]
  · obtain ⟨k, hk, rfl⟩ := List.mem_map.mp hx
    have := List.idxOf_lt_length_of_mem (h.has (List.mem_range.mp hk))
    rwa [h.1] at this
theorem invO_idx {n : Nat} {o : List Nat} (h : Ord n o) {j : Nat} (hj : j < n) : (invO n o).idxOf j = o[j]! := by
  have h1 := h.lt hj
  have e : (invO n o)[o[j]!]! = j := by rw [invO_get h1]; exact idx_at h.2.1 (by rw [h.1]; exact hj)
  have := idx_at h.inv.2.1 (i := o[j]!) (by rw [h.inv.1]; exact h1)
  rwa [e] at this
theorem invO_invO {n : Nat} {o : List Nat} (h : Ord n o) : invO n (invO n o) = o := by
  have e : invO n (invO n o) = (List.range n).map fun j => o[j]! := List.map_congr_left fun j hj => invO_idx h (List.mem_range.mp hj)
  rw [e, map_get o n h.1]
def newL (w : Web) (row : List Nat) : List Nat := (List.range w.n).map fun j => w.degrees[row.idxOf j]!
def cL (w : Web) (row : List Nat) : Bool := decide (newL w row = sortN (newL w row))
theorem sortN_iff (l : List Nat) : l = sortN l ↔ l.Pairwise (· ≤ ·) := by
  have e : (fun a b => (!ltN b a) = true) = fun (a b : Nat) => a ≤ b := by
    funext a b
    simp [ltN]
  constructor
  · intro h
    have := sortBy_sorted tot_n l
    rw [e] at this
    rw [h]
    exact this
  · intro h
    refine sorted_eq tot_n (sortBy_perm _).symm ?_ (sortBy_sorted tot_n _)
    rw [e]
    exact h
theorem cL_iff {w : Web} {row : List Nat} : cL w row = true ↔ (invO w.n row).Pairwise fun a b => w.degrees[a]! ≤ w.degrees[b]! := by
  unfold cL
  rw [decide_eq_true_eq, sortN_iff]
  have e : newL w row = (invO w.n row).map fun a => w.degrees[a]! := by
    unfold newL invO
    rw [List.map_map]
    rfl
  rw [e, List.pairwise_map]
def numO (w : Web) : List Web := (ordersW w).map fun o => w.numbered (invO w.n o)
def numL (w : Web) : List Web := ((permsN w.n).filter (cL w)).map w.numbered
theorem num_mem (w : Web) (z : Web) : z ∈ numO w ↔ z ∈ numL w := by
  unfold numO numL
  simp only [List.mem_map, List.mem_filter, mem_ordersW, mem_permsN, cL_iff]
  constructor
  · rintro ⟨o, ⟨h1, h2⟩, rfl⟩
    exact ⟨invO w.n o, ⟨h1.inv, by rw [invO_invO h1]; exact h2⟩, rfl⟩
  · rintro ⟨o, ⟨h1, h2⟩, rfl⟩
    exact ⟨invO w.n o, ⟨h1.inv, h2⟩, by rw [invO_invO h1]⟩
theorem ordersW_ne (w : Web) : ∃ o, o ∈ ordersW w := by
  refine ⟨(List.range w.n).mergeSort fun a b => decide (w.degrees[a]! ≤ w.degrees[b]!), mem_ordersW.mpr ⟨Ord.of_perm (List.mergeSort_perm _ _), ?_⟩⟩
  have := List.pairwise_mergeSort (le := fun a b => decide (w.degrees[a]! ≤ w.degrees[b]!)) (fun a b c h1 h2 => by simp at *; omega) (fun a b => by simp; omega) (List.range w.n)
  exact this.imp fun h => by simpa using h
theorem foldB (w : Web) : ∀ (os : List (List Nat)) (b : Web), os.foldl (stepB w) (some b) = some (leastF ltW b (os.map fun o => w.numbered (invO w.n o)))
  | [], b => rfl
  | o :: os, b => by
    show os.foldl (stepB w) (if ltW (w.numbered (invO w.n o)) b = true then some (w.numbered (invO w.n o)) else some b) = some (leastF ltW (if ltW (w.numbered (invO w.n o)) b = true then w.numbered (invO w.n o) else b) (os.map fun o => w.numbered (invO w.n o)))
    rw [← foldB w os]
    split <;> rfl
/-- the plain web -/
theorem plain_both (w : Web) : ∃ m y ys, plainO w = some m ∧ numL w = y :: ys ∧ leastF ltW y ys = m ∧ m ∈ numO w ∧ ∀ z ∈ numO w, ltW z m = false := by
  obtain ⟨o, ho⟩ := ordersW_ne w
  have key : ∀ {x : Web} {xs : List Web}, numO w = x :: xs → ∃ y ys, numL w = y :: ys ∧ leastF ltW y ys = leastF ltW x xs := fun {x xs} hx => by
    have hm : ∀ z, z ∈ x :: xs ↔ z ∈ numL w := fun z => by rw [← hx]; exact num_mem w z
    cases hy : numL w with
    | nil =>
      have := (hm x).mp List.mem_cons_self
      rw [hy] at this
      cases this
    | cons y ys =>
      rw [hy] at hm
      exact ⟨y, ys, rfl, (leastF_eq tot_w hm).symm⟩
  cases hos : ordersW w with
  | nil => rw [hos] at ho; cases ho
  | cons a os =>
    have hx : numO w = w.numbered (invO w.n a) :: os.map fun o => w.numbered (invO w.n o) := by unfold numO; rw [hos]; rfl
    obtain ⟨y, ys, h1, h2⟩ := key hx
    refine ⟨leastF ltW (w.numbered (invO w.n a)) (os.map fun o => w.numbered (invO w.n o)), y, ys, ?_, h1, h2, ?_, ?_⟩
    · unfold plainO
      rw [hos]
      exact foldB w os _
    · rw [hx]; exact leastF_mem _ _
    · rw [hx]; exact leastF_le tot_w _ _
def gO (k : Nat) (l : List Nat) (p : Nat × Nat) : List (List Nat) := (ordersF k (l.take p.2 ++ l.drop (p.2 + 1))).map fun r => p.1 :: r
theorem zip_get {l : List Nat} {i : Nat} {d : PyData} (h : (l.zipIdx.map (enD nD))[i]? = some d) : i < l.length ∧ d = enD nD (l[i]!, i) ∧ l.zipIdx[i]? = some (l[i]!, i) := by
  rw [List.getElem?_map] at h
  obtain ⟨p, hp, rfl⟩ := Option.map_eq_some_iff.mp h
  have hp2 := hp
  rw [List.getElem?_zipIdx] at hp
  obtain ⟨x, hx, rfl⟩ := Option.map_eq_some_iff.mp hp
  obtain ⟨h1, h2⟩ := List.getElem?_eq_some_iff.mp hx
  rw [Nat.zero_add] at hp2 ⊢
  have e : l[i]! = x := by rw [getElem!_pos l i h1, h2]
  rw [e]
  exact ⟨h1, rfl, hp2⟩
theorem gO_len {k : Nat} {l : List Nat} (hl : l.length = k + 1) (hk : k + 1 ≤ 7) (j : Nat) : ((l.zipIdx.take j).flatMap (gO k l)).length ≤ 40000 := by
  have h := flat_le (l := l.zipIdx.take j) (f := gO k l) (k := 5040) fun ⟨x, i⟩ hp => by
    obtain ⟨hi, _⟩ := List.getElem?_eq_some_iff.mp (List.mem_zipIdx_iff_getElem?.mp (List.mem_of_mem_take hp))
    unfold gO
    rw [List.length_map]
    exact Nat.le_trans (ordersF_len k (by rw [List.length_append, List.length_take, List.length_drop]; show _ = _; omega)) (fac7 (by omega))
  have h2 : (l.zipIdx.take j).length ≤ 7 := Nat.le_trans (List.length_take_le' _ _) (by rw [List.length_zipIdx]; omega)
  have := Nat.mul_le_mul_right 5040 h2
  omega
theorem p_orders_of : ∀ (k : Nat) {L : Nat} (hL : k + 1 ≤ L) {l : List Nat} (hl : l.length = k) (hk : k ≤ 7), runF tb L f_orders_of [.fz (.list (l.map nD))] = .ok (.ow (.list ((ordersF k l).map lnD)))
  | 0, L, hL, l, hl, hk => by
    obtain ⟨n, rfl, hn'⟩ := lvl hL
    rw [run_of tb_orders_of rfl]
    have := List.eq_nil_of_length_eq_zero hl
    subst this
    simp? only [b_orders_of, eq_l00]
    rfl
  | k + 1, L, hL, l, hl, hk => by
    obtain ⟨n, rfl, hn'⟩ := lvl hL
    rw [run_of tb_orders_of rfl]
    have he : l.isEmpty = false := by
      cases l with
      | nil => cases hl
      | cons => rfl
    have hdl : ∀ i, i < l.length → (l.take i ++ l.drop (i + 1)).length = k := fun i hi => by rw [List.length_append, List.length_take, List.length_drop]; omega
    have ih := fun (i : Nat) (hi : i < l.length) => p_orders_of k (L := n) hn' (hdl i hi) (by omega)
    obtain ⟨ρ', e1, y_at, y_knot, y_rest, rfl⟩ := for_ok (bnd := fun d ρ => bindT [2, 3] true d ρ) (body := fun ρ1 => exs (runF tb n) b_orders_of_1 ρ1) (ds := l.zipIdx.map (enD nD)) (ρ := [some (.fz (.list (l.map nD))), some (.ow (.list [])), none, none, none])
      (fun i ρ => ∃ y_at y_knot y_rest : Option Vl, ρ = [some (.fz (.list (l.map nD))), some (.ow (.list (((l.zipIdx.take i).flatMap (gO k l)).map lnD))), y_at, y_knot, y_rest]) ⟨_, _, _, rfl⟩ fun i d ρ hd hI => by
      obtain ⟨y_at, y_knot, y_rest, rfl⟩ := hI
      obtain ⟨hi, rfl, hz⟩ := zip_get hd
      refine ⟨_, _, q_bte, ?_, some (.fz (.int i)), some (.fz (nD l[i]!)), y_rest, rfl⟩
      have hln : (l.take i).length + (l.drop (i + 1)).length ≤ lim := by
        have := hdl i hi
        rw [List.length_append] at this
        show _ ≤ 1000000
        omega
      have es : (l.zipIdx.take (i + 1)).flatMap (gO k l) = (l.zipIdx.take i).flatMap (gO k l) ++ gO k l (l[i]!, i) := by
        rw [List.take_add_one, hz, List.flatMap_append]
        simp
      have hl2 : ((l.zipIdx.take i).flatMap (gO k l)).length + (ordersF k (l.take i ++ l.drop (i + 1))).length ≤ lim := by
        have h1 := gO_len (k := k) hl hk (i + 1)
        have h2 : (gO k l (l[i]!, i)).length = (ordersF k (l.take i ++ l.drop (i + 1))).length := List.length_map _
        rw [es, List.length_append, h2] at h1
        show _ ≤ 1000000
        omega
      have ihi := ih i hi
      rw [es]
      have e9 : (gO k l (l[i]!, i)).map lnD = (ordersF k (l.take i ++ l.drop (i + 1))).map fun r => lnD (l[i]! :: r) := by
        unfold gO
        rw [List.map_map]
        rfl
      simp? only [b_orders_of_1, cut_n1, cut_n2, ← List.map_take, ← List.map_drop, hln, ← List.map_append, ihi]
      rw [selL_all (fun r => lnD (l[i]! :: r)) fun r hr => ?_]
      · simp? only [hl2]
        rw [List.map_append, e9]
      · have hrl := ((mem_ordersF k (hdl i hi)).mp hr).length_eq
        rw [hdl i hi] at hrl
        simp? only [e_orders_of_0, pl_lnD, show 1 + r.length ≤ lim by show _ ≤ 1000000; omega]
    simp only [List.take_zero, List.flatMap_nil, List.map_nil, List.length_map, List.length_zipIdx] at e1
    rw [List.take_of_length_le (by rw [List.length_zipIdx]; exact Nat.le_refl _)] at e1
    simp? only [b_orders_of, he, e1]
    rfl
theorem ordersW_len {w : Web} (hw : w.n ≤ 7) : (ordersW w).length ≤ 5040 := by
  have nd : (risN w.degrees).Nodup := (risN_sort w.degrees).imp fun h => by omega
  have := fold_len (rows := w.degrees) (by rw [deg_len]; exact hw) nd (risN w.degrees).length
  rw [List.take_length] at this
  exact Nat.le_trans this.1 (fac7 this.2)
theorem p_plain {L : Nat} (hL : 13 ≤ L) {w : Web} (hw : w.Ok) : runF tb L f_plain [.fz (wbD w)] = .ok (.fz (optD (plainO w))) := by
  obtain ⟨n, rfl, hn'⟩ := lvl hL
  rw [run_of tb_plain rfl]
  have hw7 := hw.le
  have hdeg := p_degrees (L := n) (by omega) (w := w) (by omega)
  have hdl := deg_len w
  have nd : (risN w.degrees).Nodup := (risN_sort w.degrees).imp fun h => by omega
  have hfl := fold_len (rows := w.degrees) (by omega) nd
  have hdk : dkeysD (w.degrees.map fun (x : Nat) => PyData.int (x : Nat)) = _ := dkeys_n (l := w.degrees) (by omega)
  obtain ⟨ρ', e1, y_degree, y_row, y_some, rfl⟩ := for_ok (bnd := fun d ρ => .ok (ρ.set 3 (some (.fz d)))) (body := fun ρ1 => exs (runF tb n) b_plain_6 ρ1) (ds := (risN w.degrees).map nD) (ρ := [some (.fz (wbD w)), some (.ow (.list (w.degrees.map nD))), some (.ow (.list [.list []])), none, none, none, none, none, none, none, none, none])
    (fun i ρ => ∃ y_degree y_row y_some : Option Vl, ρ = [some (.fz (wbD w)), some (.ow (.list (w.degrees.map nD))), some (.ow (.list ((((risN w.degrees).take i).foldl (stepO w.degrees) [[]]).map lnD))), y_degree, y_row, y_some, none, none, none, none, none, none]) ⟨_, _, _, rfl⟩ fun i d ρ hd hI => by
    obtain ⟨y_degree, y_row, y_some, rfl⟩ := hI
    rw [List.getElem?_map] at hd
    obtain ⟨d, hd2, rfl⟩ := Option.map_eq_some_iff.mp hd
    have es : ((risN w.degrees).take (i + 1)).foldl (stepO w.degrees) [[]] = stepO w.degrees (((risN w.degrees).take i).foldl (stepO w.degrees) [[]]) d := by
      rw [List.take_add_one, hd2]
      exact foldl_snoc _ _ _ _
    have hcl : (cls w.degrees d).length ≤ 7 := by rw [cls_count]; exact Nat.le_trans List.count_le_length (by omega)
    have ho := p_orders_of _ (L := n) (by omega) (l := cls w.degrees d) rfl hcl
    have hlen : (stepO w.degrees (((risN w.degrees).take i).foldl (stepO w.degrees) [[]]) d).length ≤ lim := by
      rw [← es]
      have := hfl (i + 1)
      have := fac7 this.2
      show _ ≤ 1000000
      omega
    have hcm : List.map (fun p : Nat × Nat => PyData.int (p.2 : Nat)) (w.degrees.zipIdx.filter fun p => decide (p.1 = d)) = (cls w.degrees d).map nD := by
      unfold cls
      rw [List.map_map]
      rfl
    have hol : ∀ o ∈ ((risN w.degrees).take i).foldl (stepO w.degrees) [[]], o.length ≤ 7 := fun o h => by
      have g := (mem_fold w.degrees _ ((risN_sort w.degrees).sublist (List.take_sublist i _)) o).mp h
      refine Nat.le_trans (g.nd.length_le_of_subset (l₂ := List.range w.n) fun k hk => ?_) (by rw [List.length_range]; exact hw7)
      obtain ⟨e, _, h⟩ := (g.mem k).mp hk
      have := (List.getElem?_eq_some_iff.mp h).1
      rw [hdl] at this
      exact List.mem_range.mpr this
    rw [es]
    refine ⟨_, _, rfl, ?_, some (.fz (nD d)), y_row, some (.fz (.list ((ordersF (cls w.degrees d).length (cls w.degrees d)).map lnD))), rfl⟩
    simp? only [b_plain_6, e_plain_4, c_plain_5, hcm, ho]
    rw [flatT_ok (fun o => ((ordersF (cls w.degrees d).length (cls w.degrees d)).map fun r => o ++ r).map lnD) fun o h => ?_]
    · have ef : (((risN w.degrees).take i).foldl (stepO w.degrees) [[]]).flatMap (fun o => ((ordersF (cls w.degrees d).length (cls w.degrees d)).map fun r => o ++ r).map lnD) = (stepO w.degrees (((risN w.degrees).take i).foldl (stepO w.degrees) [[]]) d).map lnD := by
        rw [← List.map_flatMap]
        rfl
      simp? only [ef, hlen]
    · rw [selL_all (fun r => lnD (o ++ r)) fun r hr => ?_]
      · rw [List.map_map]
        rfl
      · have := ((mem_ordersF _ rfl).mp hr).length_eq
        have := hol o h
        simp? only [e_plain_3, pl_lnD, show o.length + r.length ≤ lim by show _ ≤ 1000000; omega]
        rw [List.map_append]
  rw [List.length_map, List.take_length] at e1
  have eW : (risN w.degrees).foldl (stepO w.degrees) [[]] = ordersW w := rfl
  rw [eW] at e1
  obtain ⟨ρ2, e2, y_degree, y_row, y_some, y_knot, y_order, y_rest, y_at, y_made, rfl⟩ := forL_st (bnd := fun d ρ => .ok (ρ.set 7 (some (.fz d)))) (body := fun ρ1 => exs (runF tb n) b_plain_1 ρ1) (enc := lnD) (xs := ordersW w) (s0 := none) (ρ0 := [some (.fz (wbD w)), some (.ow (.list (w.degrees.map nD))), some (.fz (.list ((ordersW w).map lnD))), y_degree, y_row, y_some, none, none, none, some (.fz .none), none, none])
    (fun s ρ => ∃ y_degree y_row y_some y_knot y_order y_rest y_at y_made : Option Vl, ρ = [some (.fz (wbD w)), some (.ow (.list (w.degrees.map nD))), some (.fz (.list ((ordersW w).map lnD))), y_degree, y_row, y_some, y_knot, y_order, y_rest, some (.fz (optD s)), y_at, y_made]) (stepB w) ⟨_, _, _, _, _, _, _, _, rfl⟩ fun s ρ o ho hI => by
    obtain ⟨y_degree, y_row, y_some, y_knot, y_order, y_rest, y_at, y_made, rfl⟩ := hI
    have hord := (mem_ordersW.mp ho).1
    obtain ⟨ρ3, e3, y_at, y_knot, rfl⟩ := for_ok (bnd := fun d ρ => bindT [10, 6] true d ρ) (body := fun ρ1 => exs (runF tb n) b_plain_0 ρ1) (ds := o.zipIdx.map (enD nD)) (ρ := [some (.fz (wbD w)), some (.ow (.list (w.degrees.map nD))), some (.fz (.list ((ordersW w).map lnD))), y_degree, some (.ow (.list ((setTo w.n o id 0).map nD))), y_some, y_knot, some (.fz (lnD o)), y_rest, some (.fz (optD s)), y_at, y_made])
      (fun i ρ => ∃ y_at y_knot : Option Vl, ρ = [some (.fz (wbD w)), some (.ow (.list (w.degrees.map nD))), some (.fz (.list ((ordersW w).map lnD))), y_degree, some (.ow (.list ((setTo w.n o id i).map nD))), y_some, y_knot, some (.fz (lnD o)), y_rest, some (.fz (optD s)), y_at, y_made]) ⟨_, _, rfl⟩ fun i d ρ hd hI => by
      obtain ⟨y_at, y_knot, rfl⟩ := hI
      obtain ⟨hi, rfl, _⟩ := zip_get hd
      have hb : o[i]! < w.n := hord.lt (by rw [← hord.1]; exact hi)
      have hix := ixN_n (m := (setTo w.n o id i).length) (k := o[i]!) (by rw [setTo_len]; exact hb)
      have hst := setTo_step (n := w.n) id hord.2.1 hi hb
      have hs : ((setTo w.n o id i).map nD).set o[i]! (.int (i : Nat)) = (setTo w.n o id (i + 1)).map nD := by
        rw [← hst, List.map_set]
        rfl
      refine ⟨_, _, q_bte, ?_, some (.fz (.int i)), some (.fz (nD o[i]!)), rfl⟩
      simp? only [b_plain_0, hix, hs]
    rw [List.length_map, List.length_zipIdx, setTo_all id fun k hk => hord.has hk] at e3
    have hinv : ((List.range w.n).map fun k => id (o.idxOf k)) = invO w.n o := rfl
    rw [hinv, setTo_zero, List.map_replicate] at e3
    have hnum := p_numbered (L := n) (by omega) (w := w) (row := invO w.n o) (fun p hp => by have := hw.mem p hp; rw [hord.inv.1]; omega) (d := .list ((invO w.n o).map nD)) (.inr rfl)
    refine ⟨_, _, rfl, ?_, y_degree, some (.fz (.list ((invO w.n o).map nD))), y_some, y_knot, some (.fz (lnD o)), y_rest, y_at, some (.fz (wbD (w.numbered (invO w.n o)))), rfl⟩
    have hn1 : inN (w.n : Int) lim = true := inN_nat (by show _ ≤ 1000000; omega)
    simp only [q_nD, pl_lnD, Int.cast_ofNat_Int] at e3
    cases s with
    | none =>
      simp only [optD, stepB] at e3 ⊢
      simp? only [b_plain_1, ix0, hn1, Int.toNat_natCast, pl_lnD, e3, hnum]
    | some b =>
      simp only [optD, stepB] at e3 ⊢
      simp? only [b_plain_1, ix0, hn1, Int.toNat_natCast, pl_lnD, e3, hnum, show isNon (wbD b) = false from rfl]
      cases hlt : ltW (w.numbered (invO w.n o)) b <;> simp? only []
  simp? only [b_plain, hdeg, e_plain_2, hdk, e1, e2]
  rfl
end Wv
namespace Wv
open PySem PySem.Spec PyProof.Rows L2
local macro_rules | `(tactic| simp? only [$xs,*]) => `(tactic| simp only [exs, exS, ev, evTs, evDs, evAs, evAnd, evOr, evCond, evIt, evT, evB, evD, evK, b_ok, b_err, b_bad, k_ok, m_ok, dat_fz, dat_ow, keepV_no, keepV_fz, iL_loc, iL_non, iL_bl, iL_int, iL_str, iL_glo, iL_op, iL_chain, iL_neg, iL_not, iL_and, iL_or, iL_ite, iL_tup, iL_lst, iL_ix, iL_sl, iL_isi, iL_bi, iL_lenset, iL_sortset, iL_rep, iL_rev, iL_lrng, iL_mt, iL_call, iL_comp, iL_comp2, iL_dget, iL_dkeys, iL_trng, iL_trng2, iL_ptup, iL_ptl, iL_ptr, iL_ptr2, iL_tix, iL_dnew, iL_disp, iL_dix, iL_dgt, iL_dcopy, iL_gget, iL_gix, dicV_ow, dicV_fd, dat_pt, keepV_pt, argV_pt, lstOf, ptD, ptOf, starD, argV_fz, argV_ow, frzV_lst, frzV_tup, frzV_dct, boolV_bl, kB, kI, tyB, getO, frz, fin_rt, fin_nx, tmsLen, Gc.d, List.getElem?_cons_zero, List.getElem?_cons_succ, List.getElem?_nil, List.set_cons_zero, List.set_cons_succ, List.map_cons, List.map_nil, List.replicate_zero, List.replicate_succ, List.cons_append, List.nil_append, List.append_nil, List.any_cons, List.any_nil, List.all_cons, List.all_nil, Bool.or_false, Bool.false_or, Bool.or_true, Bool.true_or, Bool.and_true, Bool.true_and, Bool.and_false, Bool.false_and, Bool.not_true, Bool.not_false, Bool.not_not, Bool.false_eq_true, Bool.true_eq_false, if_true, if_false, ite_true, ite_false, Nat.reduceSub, Nat.reduceAdd, List.length_cons, List.length_nil, Nat.zero_add, reduceIte, id, plain_non, plain_bl, plain_int, plain_str, plain_lst, plain_tup, isDict_non, isDict_bl, isDict_int, isDict_str, isDict_lst, isDict_tup, eqD_int, eqD_bool, eqD_str, ltD_int, Int.reduceEq, Int.reduceLT, Int.reduceLE, Int.reduceAdd, Int.reduceSub, Int.reduceMul, Int.reduceToNat, Int.reduceNeg, Int.reduceMod, Int.reduceDiv, decide_true, decide_false, Bool.true_beq, Bool.false_beq, compL_sel, selL_some, selL_if, flatL_sel, flatT_some, allD_m, anyD_m, sumD_n, m_err, m_bad, Gc.d, List.length_map, Nat.add_zero, q_tn, q_tb, q_ti, q_tl, q_tt, q_addi, q_adds, q_addl, q_addt, q_sub, q_mul, q_fdiv, q_mod, q_pow, q_le, q_gt, q_ge, q_neg, q_inl, q_int, q_ins, q_add, q_sub2, q_mul2, q_fdiv2, q_mod2, q_pow2, q_eq, q_ne, q_lt, q_le2, q_gt2, q_ge2, q_in, q_ni, q_is, q_isn, q_non, q_nob, q_noi, q_nos, q_nol, q_not, q_ixl, q_ixt, q_ixs, q_bn0, q_bn1, q_sll, q_slt, q_sls, q_lenl, q_lent, q_lens, q_tul, q_tut, q_lil, q_lit, q_ini, q_inb, q_str, q_rep, q_itl, q_itt, q_its, q_enl, q_ent, q_zll, q_ztt, q_app, q_ins2, q_set, q_revl, q_revt, q_repd, q_isin, q_isib, q_isii, q_isis, q_isil, q_isit, q_bi, q_b1, q_b2, q_b3, q_b4, q_b5, q_b6, q_b7, q_b8, q_b9, q_b10, q_b11, q_b12, q_bt1, q_bt2, q_btp, q_dgt, pl_n, pl_pr, pl_wb, pl_tn, in_pr, in_n, in_i, in_ni, in_tn, in_wb, eq_pr, eq_wb, eq_i, eq_tn, eq_ln, eq_tp, eq_l0, q_nD, and_b, or_b, b_ite, k_ite, m_ite, Int.ofNat_inj, Int.ofNat_lt, Int.ofNat_le, Int.natCast_inj, Int.natCast_pos, dec_t, sort_n, sort_p, sort_w, sort_2, lt_pr, lt_wb, lt_tn, c_1, c_add, c_modc, c_mulc, enum_f, zip_f, q_bte, q_btz, c_modl, c_divl, c_addl, c_addr, c_mull, c_mulr, c_ltl, c_ltr, c_lel, c_ler, c_eql, c_eqr, List.length_append, str_tf, beq_self_eq_true, Nat.reduceEqDiff, Nat.reduceLT, Nat.reduceLeDiff, Nat.reduceMod, Nat.reduceMul, Nat.reduceDiv, all_tt, any_ff, wipeE, $xs,*])
/-! ### webs.py: is_web of webs, part, beside -/
theorem zip_lt {α : Type} {lt : α → α → Bool} : ∀ {t : List α}, (t.Pairwise fun a b => lt a b = true) → (t.zip (t.drop 1)).all (fun p => lt p.1 p.2) = true
  | [], _ => rfl
  | [_], _ => rfl
  | a :: b :: t, h => by
    obtain ⟨h1, h2⟩ := List.pairwise_cons.mp h
    have ih := zip_lt h2
    simp only [List.drop_succ_cons, List.drop_zero, List.zip_cons_cons, List.all_cons] at ih ⊢
    rw [h1 b List.mem_cons_self, Bool.true_and]
    exact ih
def Web.part (w : Web) (ks : List Nat) : Web := ⟨ks.length, (w.t.filter fun p => decide (p.1 ∈ ks) && decide (p.2 ∈ ks)).map fun p => (ks.idxOf p.1, ks.idxOf p.2)⟩
def Web.beside (v w : Web) : Web := ⟨v.n + w.n, v.t ++ w.t.map fun p => (p.1 + v.n, p.2 + v.n)⟩
theorem idx_cast (k : Nat) : ∀ ks : List Nat, (ks.map fun (i : Nat) => (i : Int)).idxOf (k : Int) = ks.idxOf k
  | [] => rfl
  | x :: r => by
    rw [List.map_cons, List.idxOf_cons, List.idxOf_cons, idx_cast k r]
    by_cases h : x = k
    · simp [h]
    · have h1 : ((x : Int) == (k : Int)) = false := by simp only [beq_eq_false_iff_ne, ne_eq]; omega
      have h2 : (x == k) = false := by simpa using h
      rw [h1, h2]
theorem tix_n {ks : List Nat} {k : Nat} (h : k ∈ ks) : tixD (ks.map nD) (.int (k : Nat)) = .ok (.fz (.int (ks.idxOf k : Nat))) := by
  have h2 : (k : Int) ∈ ks.map fun (i : Nat) => (i : Int) := List.mem_map.mpr ⟨k, h, rfl⟩
  simp only [tixD, intsOf_nD, h2, if_true, idx_cast, kI]
theorem p_beside {L : Nat} (hL : 1 ≤ L) {v w : Web} (h : v.n + w.n ≤ 7) (hv : v.t.length ≤ 1000) (hw : w.t.length ≤ 1000) : runF tb L f_beside [.fz (wbD v), .fz (wbD w)] = .ok (.fz (wbD (v.beside w))) := by
  obtain ⟨n, rfl, hn'⟩ := lvl hL
  rw [run_of tb_beside rfl]
  have h7 : ¬ (7 < v.n + w.n) := by omega
  have e : List.map (fun p : Nat × Nat => PyData.tuple [.int ((p.1 + v.n : Nat)), .int ((p.2 + v.n : Nat))]) w.t = (w.t.map fun p => (p.1 + v.n, p.2 + v.n)).map prD := by rw [List.map_map]; rfl
  simp? only [b_beside, ix0, ix1, h7, e_beside_0, e, show v.t.length + w.t.length ≤ lim by show _ ≤ 1000000; omega]
  rw [← List.map_append]
  rfl
theorem p_numberedP {L : Nat} (hL : 2 ≤ L) {w : Web} {row : List Nat} (hw : ∀ p ∈ w.t, p.1 < row.length ∧ p.2 < row.length) : runF tb L f_numbered [.fz (wbD w), .pt (row.map nD)] = .ok (.fz (wbD (w.numbered row))) := by
  obtain ⟨n, rfl, hn'⟩ := lvl hL
  rw [run_of tb_numbered rfl]
  simp? only [b_numbered, ix0, ix1, e_numbered_0]
  rw [selL_all (fun p => prD (ord2 row[p.1]! row[p.2]!)) fun p hp => ?_]
  · have e : List.map (fun p => prD (ord2 row[p.1]! row[p.2]!)) w.t = (w.t.map fun p => ord2 row[p.1]! row[p.2]!).map prD := by rw [List.map_map]; rfl
    simp? only [e]
    rfl
  · obtain ⟨h1, h2⟩ := hw p hp
    simp? only [atI_d nD h1, atI_d nD h2, p_in_order (L := n) (by omega)]
end Wv
namespace Wv
open PySem PySem.Spec PyProof.Rows L2
local macro_rules | `(tactic| simp? only [$xs,*]) => `(tactic| simp only [exs, exS, ev, evTs, evDs, evAs, evAnd, evOr, evCond, evIt, evT, evB, evD, evK, b_ok, b_err, b_bad, k_ok, m_ok, dat_fz, dat_ow, keepV_no, keepV_fz, iL_loc, iL_non, iL_bl, iL_int, iL_str, iL_glo, iL_op, iL_chain, iL_neg, iL_not, iL_and, iL_or, iL_ite, iL_tup, iL_lst, iL_ix, iL_sl, iL_isi, iL_bi, iL_lenset, iL_sortset, iL_rep, iL_rev, iL_lrng, iL_mt, iL_call, iL_comp, iL_comp2, iL_dget, iL_dkeys, iL_trng, iL_trng2, iL_ptup, iL_ptl, iL_ptr, iL_ptr2, iL_tix, iL_dnew, iL_disp, iL_dix, iL_dgt, iL_dcopy, iL_gget, iL_gix, dicV_ow, dicV_fd, dat_pt, keepV_pt, argV_pt, lstOf, ptD, ptOf, starD, argV_fz, argV_ow, frzV_lst, frzV_tup, frzV_dct, boolV_bl, kB, kI, tyB, getO, frz, fin_rt, fin_nx, tmsLen, Gc.d, List.getElem?_cons_zero, List.getElem?_cons_succ, List.getElem?_nil, List.set_cons_zero, List.set_cons_succ, List.map_cons, List.map_nil, List.replicate_zero, List.replicate_succ, List.cons_append, List.nil_append, List.append_nil, List.any_cons, List.any_nil, List.all_cons, List.all_nil, Bool.or_false, Bool.false_or, Bool.or_true, Bool.true_or, Bool.and_true, Bool.true_and, Bool.and_false, Bool.false_and, Bool.not_true, Bool.not_false, Bool.not_not, Bool.false_eq_true, Bool.true_eq_false, if_true, if_false, ite_true, ite_false, Nat.reduceSub, Nat.reduceAdd, List.length_cons, List.length_nil, Nat.zero_add, reduceIte, id, plain_non, plain_bl, plain_int, plain_str, plain_lst, plain_tup, isDict_non, isDict_bl, isDict_int, isDict_str, isDict_lst, isDict_tup, eqD_int, eqD_bool, eqD_str, ltD_int, Int.reduceEq, Int.reduceLT, Int.reduceLE, Int.reduceAdd, Int.reduceSub, Int.reduceMul, Int.reduceToNat, Int.reduceNeg, Int.reduceMod, Int.reduceDiv, decide_true, decide_false, Bool.true_beq, Bool.false_beq, compL_sel, selL_some, selL_if, flatL_sel, flatT_some, allD_m, anyD_m, sumD_n, m_err, m_bad, Gc.d, List.length_map, Nat.add_zero, q_tn, q_tb, q_ti, q_tl, q_tt, q_addi, q_adds, q_addl, q_addt, q_sub, q_mul, q_fdiv, q_mod, q_pow, q_le, q_gt, q_ge, q_neg, q_inl, q_int, q_ins, q_add, q_sub2, q_mul2, q_fdiv2, q_mod2, q_pow2, q_eq, q_ne, q_lt, q_le2, q_gt2, q_ge2, q_in, q_ni, q_is, q_isn, q_non, q_nob, q_noi, q_nos, q_nol, q_not, q_ixl, q_ixt, q_ixs, q_bn0, q_bn1, q_sll, q_slt, q_sls, q_lenl, q_lent, q_lens, q_tul, q_tut, q_lil, q_lit, q_ini, q_inb, q_str, q_rep, q_itl, q_itt, q_its, q_enl, q_ent, q_zll, q_ztt, q_app, q_ins2, q_set, q_revl, q_revt, q_repd, q_isin, q_isib, q_isii, q_isis, q_isil, q_isit, q_bi, q_b1, q_b2, q_b3, q_b4, q_b5, q_b6, q_b7, q_b8, q_b9, q_b10, q_b11, q_b12, q_bt1, q_bt2, q_btp, q_dgt, pl_n, pl_pr, pl_wb, pl_tn, in_pr, in_n, in_i, in_ni, in_tn, in_wb, eq_pr, eq_wb, eq_i, eq_tn, eq_ln, eq_tp, eq_l0, q_nD, and_b, or_b, b_ite, k_ite, m_ite, Int.ofNat_inj, Int.ofNat_lt, Int.ofNat_le, Int.natCast_inj, Int.natCast_pos, dec_t, sort_n, sort_p, sort_w, sort_2, lt_pr, lt_wb, lt_tn, c_1, c_add, c_modc, c_mulc, enum_f, zip_f, q_bte, q_btz, c_modl, c_divl, c_addl, c_addr, c_mull, c_mulr, c_ltl, c_ltr, c_lel, c_ler, c_eql, c_eqr, List.length_append, str_tf, beq_self_eq_true, Nat.reduceEqDiff, Nat.reduceLT, Nat.reduceLeDiff, Nat.reduceMod, Nat.reduceMul, Nat.reduceDiv, all_tt, any_ff, wipeE, $xs,*])
/-! ### contraries, parts, webs beside one another -/
theorem Web.tied_contrary (w : Web) {a b : Nat} (ha : a < w.n) (hb : b < w.n) (hab : a ≠ b) : w.contrary.tied a b = !w.tied a b := by
  have key : ∀ {a b : Nat}, a < b → b < w.n → w.contrary.tied a b = !w.tied a b := fun {a b} h1 h2 => by
    rw [Web.tied_lt _ h1, Web.tied_lt _ h1]
    unfold Web.contrary
    have hp : (a, b) ∈ prs w.n := prs_mem.mpr ⟨h1, h2⟩
    by_cases h : (a, b) ∈ w.t
    · simp [List.mem_filter, h]
    · simp [List.mem_filter, h, hp]
  rcases Nat.lt_or_gt_of_ne hab with h | h
  · exact key h hb
  · rw [Web.tied_comm w.contrary, Web.tied_comm w]
    exact key h ha
theorem Web.Ok.contrary2 {w : Web} (hw : w.Ok) : w.contrary.contrary = w := by
  refine hw.contrary.contrary.ext hw rfl fun a b h1 h2 => ?_
  have h2 : b < w.n := h2
  rw [Web.tied_contrary w.contrary (show a < w.n by omega) h2 (by omega), Web.tied_contrary w (by omega) h2 (by omega), Bool.not_not]
theorem Web.Ok.ties_all {w : Web} (hw : w.Ok) : w.t.length + w.contrary.t.length = (prs w.n).length := by
  have e : (prs w.n).filter (fun p => decide (p ∈ w.t)) = w.t := rise_ext tot_p ((prs_rise w.n).filter _) hw.rise fun p => by
    rw [List.mem_filter, decide_eq_true_eq, prs_mem]
    exact ⟨fun h => h.2, fun h => ⟨hw.mem p h, h⟩⟩
  have e2 : ∀ l : List (Nat × Nat), l.length = (l.filter fun p => decide (p ∈ w.t)).length + (l.filter fun p => !decide (p ∈ w.t)).length := fun l => by
    induction l with
    | nil => rfl
    | cons x l ih =>
      by_cases h : x ∈ w.t
      · rw [List.filter_cons_of_pos (by simp [h]), List.filter_cons_of_neg (by simp [h]), List.length_cons, List.length_cons, ih]; omega
      · rw [List.filter_cons_of_neg (by simp [h]), List.filter_cons_of_pos (by simp [h]), List.length_cons, List.length_cons, ih]; omega
  have := e2 (prs w.n)
  rw [e] at this
  exact this.symm
theorem prs_many {m : Nat} (h : m ≤ 7) : (prs m).length = m * (m - 1) / 2 := by
  have key : ∀ m, m < 8 → (prs m).length = m * (m - 1) / 2 := by decide +kernel
  exact key m (by omega)
theorem filter_split {α : Type} (a b : α → Bool) : ∀ l : List α, (l.filter fun x => a x && b x).length + (l.filter fun x => a x && !b x).length = (l.filter a).length
  | [] => rfl
  | x :: l => by
    have ih := filter_split a b l
    cases h1 : a x <;> cases h2 : b x <;> simp only [List.filter_cons, h1, h2, Bool.and_self, Bool.and_true, Bool.and_false, Bool.true_and, Bool.false_and, Bool.not_true, Bool.not_false, if_true, if_false, Bool.false_eq_true, List.length_cons] <;> omega
theorem filter_ne {n k : Nat} (h : k < n) : ((List.range n).filter fun o => !decide (o = k)).length = n - 1 := by
  have e : ∀ l : List Nat, l.Nodup → k ∈ l → (l.filter fun o => !decide (o = k)).length + 1 = l.length := fun l => by
    induction l with
    | nil => intro _ h; cases h
    | cons x l ih =>
      intro hn hm
      obtain ⟨h1, h2⟩ := List.nodup_cons.mp hn
      by_cases hx : x = k
      · subst hx
        have : l.filter (fun o => !decide (o = x)) = l := List.filter_eq_self.mpr fun y hy => by
          have : y ≠ x := by rintro rfl; exact h1 hy
          simpa using this
        rw [List.filter_cons_of_neg (by simp), this, List.length_cons]
      · have hm2 : k ∈ l := by
          rcases List.mem_cons.mp hm with h | h
          · exact absurd h.symm hx
          · exact h
        rw [List.filter_cons_of_pos (by simpa using hx), List.length_cons, List.length_cons, ih h2 hm2]
  have := e (List.range n) List.nodup_range (List.mem_range.mpr h)
  rw [List.length_range] at this
  omega
theorem Web.near_both (w : Web) {k : Nat} (hk : k < w.n) : (w.near k).length + (w.contrary.near k).length = w.n - 1 := by
  have e : w.contrary.near k = (List.range w.n).filter fun o => !decide (o = k) && !w.tied k o := by
    unfold Web.near
    refine List.filter_congr fun o ho => ?_
    by_cases h : o = k
    · simp [h]
    · rw [Web.tied_contrary w hk (List.mem_range.mp ho) (Ne.symm h)]
  rw [e]
  unfold Web.near
  rw [filter_split (fun o => !decide (o = k)) (fun o => w.tied k o), filter_ne hk]
/-- the ties at a knot -/
theorem Web.Ok.near_ties {w : Web} (hw : w.Ok) {k : Nat} (hk : k < w.n) : (w.near k).length = (w.t.filter fun p => decide (p.1 = k)).length + (w.t.filter fun p => decide (p.2 = k)).length := by
  have hnd := rise_nodup tot_p hw.rise
  have hp : (w.near k).Perm ((w.t.filter fun p => decide (p.1 = k)).map (·.2) ++ (w.t.filter fun p => decide (p.2 = k)).map (·.1)) := by
    refine (List.perm_ext_iff_of_nodup (List.nodup_range.filter _) (List.nodup_append.mpr ⟨?_, ?_, fun a ha b hb => ?_⟩)).mpr fun o => ?_
    · refine nodup_map_on (fun p hp q hq e => ?_) (hnd.filter _)
      have h1 := of_decide_eq_true (List.mem_filter.mp hp).2
      have h2 := of_decide_eq_true (List.mem_filter.mp hq).2
      exact Prod.ext (h1.trans h2.symm) e
    · refine nodup_map_on (fun p hp q hq e => ?_) (hnd.filter _)
      have h1 := of_decide_eq_true (List.mem_filter.mp hp).2
      have h2 := of_decide_eq_true (List.mem_filter.mp hq).2
      exact Prod.ext e (h1.trans h2.symm)
    · obtain ⟨p, hp, rfl⟩ := List.mem_map.mp ha
      obtain ⟨q, hq, rfl⟩ := List.mem_map.mp hb
      obtain ⟨p1, p2⟩ := List.mem_filter.mp hp
      obtain ⟨q1, q2⟩ := List.mem_filter.mp hq
      have p2 := of_decide_eq_true p2
      have q2 := of_decide_eq_true q2
      have := (hw.mem p p1).1
      have := (hw.mem q q1).1
      omega
    · rw [List.mem_filter, List.mem_range, List.mem_append, Bool.and_eq_true, Bool.not_eq_true', decide_eq_false_iff_not, Web.Ok.tied_iff hw]
      simp only [List.mem_map, List.mem_filter, decide_eq_true_eq]
      constructor
      · rintro ⟨h1, h2, h3 | h3⟩
        · exact .inl ⟨(k, o), ⟨h3, rfl⟩, rfl⟩
        · exact .inr ⟨(o, k), ⟨h3, rfl⟩, rfl⟩
      · rintro (⟨p, ⟨h1, h2⟩, rfl⟩ | ⟨p, ⟨h1, h2⟩, rfl⟩)
        · have := hw.mem p h1
          subst h2
          exact ⟨this.2, by omega, .inl h1⟩
        · have := hw.mem p h1
          subst h2
          exact ⟨by omega, by omega, .inr h1⟩
  rw [hp.length_eq, List.length_append, List.length_map, List.length_map]
theorem sum_fibres {α : Type} (f : α → Nat) (n : Nat) : ∀ l : List α, (∀ x ∈ l, f x < n) → ((List.range n).map fun k => (l.filter fun x => decide (f x = k)).length).sum = l.length
  | [], _ => by
    have : ∀ m : List Nat, (m.map fun _ => ([] : List α).length).sum = 0 := fun m => by
      induction m with
      | nil => rfl
      | cons x m ih => rw [List.map_cons, List.sum_cons, ih]; rfl
    exact this _
  | x :: l, h => by
    have ih := sum_fibres f n l fun y hy => h y (List.mem_cons_of_mem _ hy)
    have hx := h x List.mem_cons_self
    have e : ∀ m : List Nat, m.Nodup → (m.map fun k => ((x :: l).filter fun x => decide (f x = k)).length).sum = (m.map fun k => (l.filter fun x => decide (f x = k)).length).sum + if f x ∈ m then 1 else 0 := fun m => by
      induction m with
      | nil => intro _; rfl
      | cons k m ihm =>
        intro hn
        obtain ⟨h1, h2⟩ := List.nodup_cons.mp hn
        rw [List.map_cons, List.map_cons, List.sum_cons, List.sum_cons, ihm h2]
        by_cases hk : f x = k
        · rw [List.filter_cons_of_pos (by simpa using hk), List.length_cons, if_neg (by rw [hk]; exact h1), if_pos (by simp [hk])]
          omega
        · rw [List.filter_cons_of_neg (by simpa using hk)]
          by_cases hm : f x ∈ m
          · rw [if_pos hm, if_pos (List.mem_cons_of_mem _ hm)]; omega
          · rw [if_neg hm, if_neg (fun q => (List.mem_cons.mp q).elim hk hm)]; omega
    rw [e _ List.nodup_range, ih, if_pos (List.mem_range.mpr hx), List.length_cons]
theorem sum_add {α : Type} (f g : α → Nat) : ∀ l : List α, (l.map fun x => f x + g x).sum = (l.map f).sum + (l.map g).sum
  | [] => rfl
  | x :: l => by rw [List.map_cons, List.map_cons, List.map_cons, List.sum_cons, List.sum_cons, List.sum_cons, sum_add f g l]; omega
theorem Web.Ok.handshake {w : Web} (hw : w.Ok) : w.degrees.sum = 2 * w.t.length := by
  have e : w.degrees = (List.range w.n).map fun k => (w.t.filter fun p => decide (p.1 = k)).length + (w.t.filter fun p => decide (p.2 = k)).length := List.map_congr_left fun k hk => hw.near_ties (List.mem_range.mp hk)
  rw [e, sum_add, sum_fibres (fun p : Nat × Nat => p.1) w.n w.t fun p hp => by have := hw.mem p hp; omega, sum_fibres (fun p : Nat × Nat => p.2) w.n w.t fun p hp => (hw.mem p hp).2]
  omega
/-! ### parts -/
def Rising (n : Nat) (ks : List Nat) : Prop := (ks.Pairwise fun a b => a < b) ∧ ∀ k ∈ ks, k < n
theorem Rising.nodup {n : Nat} {ks : List Nat} (h : Rising n ks) : ks.Nodup := h.1.imp fun h => by omega
theorem Rising.get {n : Nat} {ks : List Nat} (h : Rising n ks) {i j : Nat} (hij : i < j) (hj : j < ks.length) : ks[i]! < ks[j]! := by
  rw [getElem!_pos ks i (by omega), getElem!_pos ks j hj]
  exact List.pairwise_iff_getElem.mp h.1 i j (by omega) hj hij
theorem Rising.at_ {n : Nat} {ks : List Nat} (h : Rising n ks) {i : Nat} (hi : i < ks.length) : ks[i]! ∈ ks ∧ ks[i]! < n := by
  rw [getElem!_pos ks i hi]
  exact ⟨List.getElem_mem _, h.2 _ (List.getElem_mem _)⟩
theorem Rising.idx {n : Nat} {ks : List Nat} (h : Rising n ks) {a b : Nat} (ha : a ∈ ks) (hb : b ∈ ks) (hab : a < b) : ks.idxOf a < ks.idxOf b := by
  have la := List.idxOf_lt_length_of_mem ha
  have ga : ks[ks.idxOf a]! = a := by rw [getElem!_pos ks _ la]; exact List.getElem_idxOf la
  have lb := List.idxOf_lt_length_of_mem hb
  have gb : ks[ks.idxOf b]! = b := by rw [getElem!_pos ks _ lb]; exact List.getElem_idxOf lb
  rcases Nat.lt_trichotomy (ks.idxOf a) (ks.idxOf b) with q | q | q
  · exact q
  · rw [q, gb] at ga; omega
  · have := h.get q la
    omega
theorem Rising.idx_at {n : Nat} {ks : List Nat} (h : Rising n ks) {i : Nat} (hi : i < ks.length) : ks.idxOf ks[i]! = i := by
  rw [getElem!_pos ks i hi]
  exact h.nodup.idxOf_getElem i hi
theorem Rising.len {n : Nat} {ks : List Nat} (h : Rising n ks) : ks.length ≤ n := by
  have := h.nodup.length_le_of_subset (l₂ := List.range n) fun k hk => List.mem_range.mpr (h.2 k hk)
  rwa [List.length_range] at this
theorem Web.Ok.part {w : Web} (hw : w.Ok) {ks : List Nat} (h : Rising w.n ks) (h0 : 0 < ks.length) : (w.part ks).Ok where
  pos := h0
  le := Nat.le_trans h.len hw.le
  rise := by
    show ((w.t.filter _).map _).Pairwise _
    rw [List.pairwise_map]
    refine (hw.rise.filter _).imp_of_mem fun {p q} hp hq hlt => ?_
    have hp2 := (List.mem_filter.mp hp).2
    have hq2 := (List.mem_filter.mp hq).2
    simp only [Bool.and_eq_true, decide_eq_true_eq] at hp2 hq2
    simp only [ltP, ltTwo, ltN] at hlt ⊢
    by_cases e : p.1 = q.1
    · rw [if_pos e] at hlt
      rw [if_pos (by rw [e])]
      exact decide_eq_true (h.idx hp2.2 hq2.2 (of_decide_eq_true hlt))
    · rw [if_neg e] at hlt
      have := h.idx hp2.1 hq2.1 (of_decide_eq_true hlt)
      rw [if_neg (by omega)]
      exact decide_eq_true this
  mem p hp := by
    obtain ⟨q, hq, rfl⟩ := List.mem_map.mp hp
    obtain ⟨q1, q2⟩ := List.mem_filter.mp hq
    simp only [Bool.and_eq_true, decide_eq_true_eq] at q2
    exact ⟨h.idx q2.1 q2.2 (hw.mem q q1).1, List.idxOf_lt_length_of_mem q2.2⟩
theorem Web.tied_part (w : Web) {ks : List Nat} (h : Rising w.n ks) {i j : Nat} (hij : i < j) (hj : j < ks.length) : (w.part ks).tied i j = w.tied ks[i]! ks[j]! := by
  have hlt := h.get hij hj
  rw [Web.tied_lt _ hij, Web.tied_lt _ hlt]
  refine decide_eq_decide.mpr ?_
  unfold Web.part
  simp only [List.mem_map, List.mem_filter, Bool.and_eq_true, decide_eq_true_eq, Prod.mk.injEq]
  constructor
  · rintro ⟨p, ⟨h1, h2, h3⟩, e1, e2⟩
    have la := List.idxOf_lt_length_of_mem h2
    have ga : ks[ks.idxOf p.1]! = p.1 := by rw [getElem!_pos ks _ la]; exact List.getElem_idxOf la
    have lb := List.idxOf_lt_length_of_mem h3
    have gb : ks[ks.idxOf p.2]! = p.2 := by rw [getElem!_pos ks _ lb]; exact List.getElem_idxOf lb
    rw [← e1, ← e2, ga, gb]
    exact h1
  · intro q
    exact ⟨(ks[i]!, ks[j]!), ⟨q, (h.at_ (by omega)).1, (h.at_ hj).1⟩, h.idx_at (by omega), h.idx_at hj⟩
theorem Web.Ok.part_contrary {w : Web} (hw : w.Ok) {ks : List Nat} (h : Rising w.n ks) (h0 : 0 < ks.length) : w.contrary.part ks = (w.part ks).contrary := by
  have h' : Rising w.contrary.n ks := h
  refine (hw.contrary.part h' h0).ext (hw.part h h0).contrary rfl fun i j hij hj => ?_
  have hj : j < ks.length := hj
  have hlt := h.get hij hj
  rw [Web.tied_part _ h' hij hj, Web.tied_contrary w (h.at_ (by omega)).2 (h.at_ hj).2 (by omega), Web.tied_contrary (w.part ks) (show i < ks.length by omega) hj (by omega), Web.tied_part _ h hij hj]
theorem range_rising (n : Nat) : Rising n (List.range n) := ⟨List.pairwise_lt_range, fun k hk => List.mem_range.mp hk⟩
theorem range_get {n i : Nat} (h : i < n) : (List.range n)[i]! = i := by rw [getElem!_pos _ _ (by simpa using h), List.getElem_range]
theorem Web.Ok.part_all {w : Web} (hw : w.Ok) : w.part (List.range w.n) = w := by
  refine (hw.part (range_rising w.n) (by rw [List.length_range]; exact hw.pos)).ext hw (by show (List.range w.n).length = _; rw [List.length_range]) fun i j hij hj => ?_
  have hj : j < (List.range w.n).length := hj
  have hj2 : j < w.n := by simpa using hj
  rw [Web.tied_part _ (range_rising w.n) hij hj, range_get (by omega), range_get hj2]
theorem Web.Ok.part_one {w : Web} (hw : w.Ok) : w.part [0] = ⟨1, []⟩ := by
  have : (w.t.filter fun p => decide (p.1 ∈ [0]) && decide (p.2 ∈ [0])) = [] := List.filter_eq_nil_iff.mpr fun p hp => by
    have := (hw.mem p hp).1
    simp
    omega
  unfold Web.part
  rw [this]
  rfl
/-! ### webs beside one another -/
theorem Web.Ok.beside {v w : Web} (hv : v.Ok) (hw : w.Ok) (h : v.n + w.n ≤ 7) : (v.beside w).Ok where
  pos := by have := hv.pos; show 1 ≤ v.n + w.n; omega
  le := h
  rise := by
    show (v.t ++ w.t.map _).Pairwise _
    refine List.pairwise_append.mpr ⟨hv.rise, ?_, fun p hp q hq => ?_⟩
    · rw [List.pairwise_map]
      refine hw.rise.imp fun {p q} hlt => ?_
      simp only [ltP, ltTwo, ltN] at hlt ⊢
      by_cases e : p.1 = q.1
      · rw [if_pos e] at hlt
        rw [if_pos (by rw [e])]
        have := of_decide_eq_true hlt
        exact decide_eq_true (by omega)
      · rw [if_neg e] at hlt
        have := of_decide_eq_true hlt
        rw [if_neg (by omega)]
        exact decide_eq_true (by omega)
    · obtain ⟨r, hr, rfl⟩ := List.mem_map.mp hq
      have := hv.mem p hp
      simp only [ltP, ltTwo, ltN]
      rw [if_neg (by omega)]
      exact decide_eq_true (by omega)
  mem p hp := by
    have hp : p ∈ v.t ++ w.t.map _ := hp
    show p.1 < p.2 ∧ p.2 < v.n + w.n
    rcases List.mem_append.mp hp with hp | hp
    · have := hv.mem p hp; omega
    · obtain ⟨r, hr, rfl⟩ := List.mem_map.mp hp
      have := hw.mem r hr
      show r.1 + v.n < r.2 + v.n ∧ r.2 + v.n < v.n + w.n
      omega
theorem tied_low {v w : Web} (hw : w.Ok) {i j : Nat} (hi : i < v.n) (hj : j < v.n) : (v.beside w).tied i j = v.tied i j := by
  have key : ∀ {i j : Nat}, i < v.n → j < v.n → ((v.beside w).tied i j = true ↔ v.tied i j = true) := fun {i j} hi hj => by
    unfold Web.tied Web.beside
    rw [decide_eq_true_eq, decide_eq_true_eq]
    show ord2 i j ∈ v.t ++ w.t.map _ ↔ _
    rw [List.mem_append]
    constructor
    · rintro (h | h)
      · exact h
      · obtain ⟨r, hr, e⟩ := List.mem_map.mp h
        have := hw.mem r hr
        exfalso
        unfold ord2 at e
        split at e
        · injection e with e1 e2; omega
        · injection e with e1 e2; omega
    · exact .inl
  exact Bool.eq_iff_iff.mpr (key hi hj)
theorem tied_high {v w : Web} (hv : v.Ok) {i j : Nat} : (v.beside w).tied (v.n + i) (v.n + j) = w.tied i j := by
  refine Bool.eq_iff_iff.mpr ?_
  unfold Web.tied Web.beside
  rw [decide_eq_true_eq, decide_eq_true_eq]
  have e : ord2 (v.n + i) (v.n + j) = ((ord2 i j).1 + v.n, (ord2 i j).2 + v.n) := by
    unfold ord2
    by_cases h : i < j
    · rw [if_pos h, if_pos (by omega)]; exact Prod.ext (by show v.n + i = i + v.n; omega) (by show v.n + j = j + v.n; omega)
    · rw [if_neg h, if_neg (by omega)]; exact Prod.ext (by show v.n + j = j + v.n; omega) (by show v.n + i = i + v.n; omega)
  rw [e]
  show _ ∈ v.t ++ w.t.map _ ↔ _
  rw [List.mem_append]
  constructor
  · rintro (h | h)
    · have := hv.mem _ h
      simp only at this
      omega
    · obtain ⟨r, hr, e⟩ := List.mem_map.mp h
      injection e with e1 e2
      have : r = ord2 i j := Prod.ext (by omega) (by omega)
      rw [← this]
      exact hr
  · intro h
    exact .inr (List.mem_map.mpr ⟨_, h, rfl⟩)
theorem tied_over {v w : Web} (hv : v.Ok) {i j : Nat} (hi : i < v.n) : (v.beside w).tied i (v.n + j) = false := by
  unfold Web.tied Web.beside ord2
  rw [if_pos (by omega)]
  refine decide_eq_false fun h => ?_
  have h : (i, v.n + j) ∈ v.t ++ w.t.map _ := h
  rcases List.mem_append.mp h with h | h
  · have := hv.mem _ h
    simp only at this
    omega
  · obtain ⟨r, hr, e⟩ := List.mem_map.mp h
    injection e with e1 e2
    omega
theorem part_low {v w : Web} (hv : v.Ok) (hw : w.Ok) (h : v.n + w.n ≤ 7) : (v.beside w).part (List.range v.n) = v := by
  have hr : Rising (v.beside w).n (List.range v.n) := ⟨List.pairwise_lt_range, fun k hk => by have := List.mem_range.mp hk; show k < v.n + w.n; omega⟩
  refine ((hv.beside hw h).part hr (by rw [List.length_range]; exact hv.pos)).ext hv (by show (List.range v.n).length = _; rw [List.length_range]) fun i j hij hj => ?_
  have hj : j < (List.range v.n).length := hj
  have hj2 : j < v.n := by simpa using hj
  rw [Web.tied_part _ hr hij hj, range_get (by omega), range_get hj2, tied_low hw (by omega) hj2]
def ends (a b : Nat) : List Nat := (List.range b).map fun i => a + i
theorem ends_get {a b i : Nat} (h : i < b) : (ends a b)[i]! = a + i := by
  unfold ends
  rw [getElem!_pos _ _ (by simpa using h), List.getElem_map, List.getElem_range]
theorem part_high {v w : Web} (hv : v.Ok) (hw : w.Ok) (h : v.n + w.n ≤ 7) : (v.beside w).part (ends v.n w.n) = w := by
  have hl : (ends v.n w.n).length = w.n := by unfold ends; simp
  have hr : Rising (v.beside w).n (ends v.n w.n) := by
    refine ⟨?_, fun k hk => ?_⟩
    · unfold ends
      rw [List.pairwise_map]
      exact List.pairwise_lt_range.imp fun h => by omega
    · obtain ⟨i, hi, rfl⟩ := List.mem_map.mp hk
      have := List.mem_range.mp hi
      show v.n + i < v.n + w.n
      omega
  refine ((hv.beside hw h).part hr (by rw [hl]; exact hw.pos)).ext hw hl fun i j hij hj => ?_
  have hj : j < (ends v.n w.n).length := hj
  have hj2 : j < w.n := by rw [hl] at hj; exact hj
  rw [Web.tied_part _ hr hij hj, ends_get (by omega), ends_get hj2, tied_high hv]
theorem degrees_beside {v w : Web} (hv : v.Ok) (hw : w.Ok) : (v.beside w).degrees = v.degrees ++ w.degrees := by
  have hr : List.range (v.n + w.n) = List.range v.n ++ (List.range w.n).map fun i => v.n + i := List.range_add
  have e1 : ∀ k, k < v.n → ((v.beside w).near k).length = (v.near k).length := fun k hk => by
    unfold Web.near
    show ((List.range (v.n + w.n)).filter _).length = _
    rw [hr, List.filter_append, List.length_append]
    have a : (List.range v.n).filter (fun o => !decide (o = k) && (v.beside w).tied k o) = (List.range v.n).filter fun o => !decide (o = k) && v.tied k o := List.filter_congr fun o ho => by rw [tied_low hw hk (List.mem_range.mp ho)]
    have b : ((List.range w.n).map fun i => v.n + i).filter (fun o => !decide (o = k) && (v.beside w).tied k o) = [] := List.filter_eq_nil_iff.mpr fun o ho => by
      obtain ⟨i, _, rfl⟩ := List.mem_map.mp ho
      rw [tied_over hv hk]
      simp
    rw [a, b]
    rfl
  have e2 : ∀ k, k < w.n → ((v.beside w).near (v.n + k)).length = (w.near k).length := fun k hk => by
    unfold Web.near
    show ((List.range (v.n + w.n)).filter _).length = _
    rw [hr, List.filter_append, List.length_append]
    have a : (List.range v.n).filter (fun o => !decide (o = v.n + k) && (v.beside w).tied (v.n + k) o) = [] := List.filter_eq_nil_iff.mpr fun o ho => by
      rw [Web.tied_comm, tied_over hv (List.mem_range.mp ho)]
      simp
    have b : (((List.range w.n).map fun i => v.n + i).filter fun o => !decide (o = v.n + k) && (v.beside w).tied (v.n + k) o) = ((List.range w.n).filter fun o => !decide (o = k) && w.tied k o).map fun i => v.n + i := by
      rw [List.filter_map]
      refine congrArg _ (List.filter_congr fun o _ => ?_)
      show (!decide (v.n + o = v.n + k) && (v.beside w).tied (v.n + k) (v.n + o)) = _
      rw [tied_high hv]
      have : decide (v.n + o = v.n + k) = decide (o = k) := decide_eq_decide.mpr (by omega)
      rw [this]
    rw [a, b, List.length_map]
    simp
  unfold Web.degrees
  show (List.range (v.n + w.n)).map _ = _
  rw [hr, List.map_append, List.map_map]
  congr 1
  · exact List.map_congr_left fun k hk => e1 k (List.mem_range.mp hk)
  · exact List.map_congr_left fun k hk => e2 k (List.mem_range.mp hk)
end Wv
namespace Wv
open PySem PySem.Spec PyProof.Rows L2
local macro_rules | `(tactic| simp? only [$xs,*]) => `(tactic| simp only [exs, exS, ev, evTs, evDs, evAs, evAnd, evOr, evCond, evIt, evT, evB, evD, evK, b_ok, b_err, b_bad, k_ok, m_ok, dat_fz, dat_ow, keepV_no, keepV_fz, iL_loc, iL_non, iL_bl, iL_int, iL_str, iL_glo, iL_op, iL_chain, iL_neg, iL_not, iL_and, iL_or, iL_ite, iL_tup, iL_lst, iL_ix, iL_sl, iL_isi, iL_bi, iL_lenset, iL_sortset, iL_rep, iL_rev, iL_lrng, iL_mt, iL_call, iL_comp, iL_comp2, iL_dget, iL_dkeys, iL_trng, iL_trng2, iL_ptup, iL_ptl, iL_ptr, iL_ptr2, iL_tix, iL_dnew, iL_disp, iL_dix, iL_dgt, iL_dcopy, iL_gget, iL_gix, dicV_ow, dicV_fd, dat_pt, keepV_pt, argV_pt, lstOf, ptD, ptOf, starD, argV_fz, argV_ow, frzV_lst, frzV_tup, frzV_dct, boolV_bl, kB, kI, tyB, getO, frz, fin_rt, fin_nx, tmsLen, Gc.d, List.getElem?_cons_zero, List.getElem?_cons_succ, List.getElem?_nil, List.set_cons_zero, List.set_cons_succ, List.map_cons, List.map_nil, List.replicate_zero, List.replicate_succ, List.cons_append, List.nil_append, List.append_nil, List.any_cons, List.any_nil, List.all_cons, List.all_nil, Bool.or_false, Bool.false_or, Bool.or_true, Bool.true_or, Bool.and_true, Bool.true_and, Bool.and_false, Bool.false_and, Bool.not_true, Bool.not_false, Bool.not_not, Bool.false_eq_true, Bool.true_eq_false, if_true, if_false, ite_true, ite_false, Nat.reduceSub, Nat.reduceAdd, List.length_cons, List.length_nil, Nat.zero_add, reduceIte, id, plain_non, plain_bl, plain_int, plain_str, plain_lst, plain_tup, isDict_non, isDict_bl, isDict_int, isDict_str, isDict_lst, isDict_tup, eqD_int, eqD_bool, eqD_str, ltD_int, Int.reduceEq, Int.reduceLT, Int.reduceLE, Int.reduceAdd, Int.reduceSub, Int.reduceMul, Int.reduceToNat, Int.reduceNeg, Int.reduceMod, Int.reduceDiv, decide_true, decide_false, Bool.true_beq, Bool.false_beq, compL_sel, selL_some, selL_if, flatL_sel, flatT_some, allD_m, anyD_m, sumD_n, m_err, m_bad, Gc.d, List.length_map, Nat.add_zero, q_tn, q_tb, q_ti, q_tl, q_tt, q_addi, q_adds, q_addl, q_addt, q_sub, q_mul, q_fdiv, q_mod, q_pow, q_le, q_gt, q_ge, q_neg, q_inl, q_int, q_ins, q_add, q_sub2, q_mul2, q_fdiv2, q_mod2, q_pow2, q_eq, q_ne, q_lt, q_le2, q_gt2, q_ge2, q_in, q_ni, q_is, q_isn, q_non, q_nob, q_noi, q_nos, q_nol, q_not, q_ixl, q_ixt, q_ixs, q_bn0, q_bn1, q_sll, q_slt, q_sls, q_lenl, q_lent, q_lens, q_tul, q_tut, q_lil, q_lit, q_ini, q_inb, q_str, q_rep, q_itl, q_itt, q_its, q_enl, q_ent, q_zll, q_ztt, q_app, q_ins2, q_set, q_revl, q_revt, q_repd, q_isin, q_isib, q_isii, q_isis, q_isil, q_isit, q_bi, q_b1, q_b2, q_b3, q_b4, q_b5, q_b6, q_b7, q_b8, q_b9, q_b10, q_b11, q_b12, q_bt1, q_bt2, q_btp, q_dgt, pl_n, pl_pr, pl_wb, pl_tn, in_pr, in_n, in_i, in_ni, in_tn, in_wb, eq_pr, eq_wb, eq_i, eq_tn, eq_ln, eq_tp, eq_l0, q_nD, and_b, or_b, b_ite, k_ite, m_ite, Int.ofNat_inj, Int.ofNat_lt, Int.ofNat_le, Int.natCast_inj, Int.natCast_pos, dec_t, sort_n, sort_p, sort_w, sort_2, lt_pr, lt_wb, lt_tn, c_1, c_add, c_modc, c_mulc, enum_f, zip_f, q_bte, q_btz, c_modl, c_divl, c_addl, c_addr, c_mull, c_mulr, c_ltl, c_ltr, c_lel, c_ler, c_eql, c_eqr, List.length_append, str_tf, beq_self_eq_true, Nat.reduceEqDiff, Nat.reduceLT, Nat.reduceLeDiff, Nat.reduceMod, Nat.reduceMul, Nat.reduceDiv, all_tt, any_ff, wipeE, $xs,*])
/-! ### pieces -/
theorem Web.Ok.symm {w : Web} (hw : w.Ok) (a b : Nat) : w.tied a b = w.tied b a := by
  rw [Bool.eq_iff_iff, hw.tied_iff, hw.tied_iff]
  exact Or.comm
theorem ks_len {w : Web} (hw : w.Ok) {ks : List Nat} (nd : ks.Nodup) (hk : ∀ k ∈ ks, k < w.n) : ks.length ≤ 7 := by
  have h := nodup_le nd (m := List.range w.n) fun x hx => List.mem_range.mpr (hk x hx)
  rw [List.length_range] at h
  have := hw.le
  omega
theorem pieces_in {n : Nat} (hn : 3 ≤ n) {w : Web} (hw : w.Ok) {ks : List Nat} (hk : ∀ k ∈ ks, k < w.n) (hkl : ks.length ≤ 7) {s : Nat} (hs : s ∈ ks) {y_left y_found y_knot y_other : Option Vl} :
    ∃ p ρ', IsPiece w.tied ks s p ∧ whileL (fun ρ1 => evB (runF tb n) e_pieces_of_5 ρ1) (fun ρ1 => exs (runF tb n) b_pieces_of_4 ρ1) fuel [some (.fz (wbD w)), some (.fz (.list (ks.map nD))), y_left, y_found, some (.ow (.list [])), some (.ow (.list [.int (s : Nat)])), y_knot, y_other]
      = .ok (.nx ρ') ∧ ∃ y_knot : Option Vl, ρ' = [some (.fz (wbD w)), some (.fz (.list (ks.map nD))), y_left, y_found, some (.ow (.list (p.map nD))), some (.ow (.list [])), y_knot, y_other] := by
  have hw7 := hw.le
  obtain ⟨⟨p, a⟩, ρ', e1, ⟨hB, hm, y_knot2, rfl⟩, hf⟩ := whileL_st (σ := List Nat × List Nat) (cond := fun ρ1 => evB (runF tb n) e_pieces_of_5 ρ1) (body := fun ρ1 => exs (runF tb n) b_pieces_of_4 ρ1)
    (fun st ρ => Bfs w.tied ks s st.1 st.2 ∧ st.2.length + (ks.length - st.1.length) * 8 ≤ 100 ∧ ∃ y_knot : Option Vl, ρ = [some (.fz (wbD w)), some (.fz (.list (ks.map nD))), y_left, y_found, some (.ow (.list (st.1.map nD))), some (.ow (.list (st.2.map nD))), y_knot, y_other])
    (fun st => st.2.length + (ks.length - st.1.length) * 8) (fun st => st.2 = []) (fun st ρ hI => by
      obtain ⟨p, a⟩ := st
      obtain ⟨hB, hm, y_knot, rfl⟩ := hI
      simp only at hB hm
      have hpl := hB.len
      cases a with
      | nil =>
        refine .inl ⟨?_, rfl⟩
        simp? only [e_pieces_of_5, eq_l00]
      | cons k r =>
        have c1 : eqD (.list (.int (k : Nat) :: r.map nD)) (.list []) = .ok false := eq_l0 nD (k :: r)
        simp only [List.length_cons] at hm
        refine .inr ⟨by simp? only [e_pieces_of_5, c1], ?_⟩
        by_cases hkp : k ∈ p
        · refine ⟨(p, r), [some (.fz (wbD w)), some (.fz (.list (ks.map nD))), y_left, y_found, some (.ow (.list (p.map nD))), some (.ow (.list (r.map nD))), some (.fz (.int (k : Nat))), y_other], ?_, ⟨hB.skip hkp, ?_, _, rfl⟩, ?_⟩
          · simp? only [b_pieces_of_4, hkp]
          · simp only; omega
          · simp only [List.length_cons]; omega
        · have hkk : k ∈ ks := (hB.ra k List.mem_cons_self).mem
          have hb : ∀ y, y ∈ (w.near k).filter (fun x => decide (x ∈ ks)) ↔ y ∈ ks ∧ w.tied k y = true := fun y => by
            rw [List.mem_filter, decide_eq_true_eq]
            unfold Web.near
            rw [List.mem_filter, List.mem_range]
            simp only [Bool.and_eq_true, Bool.not_eq_true', decide_eq_false_iff_not]
            constructor
            · rintro ⟨⟨_, _, h⟩, h2⟩
              exact ⟨h2, h⟩
            · rintro ⟨h1, h2⟩
              refine ⟨⟨hk y h1, fun e => ?_, h2⟩, h1⟩
              rw [e, hw.tied_self] at h2
              cases h2
          have hB2 := hB.add hkp hb
          have hl := hB2.len
          have hnl : ((w.near k).filter fun x => decide (x ∈ ks)).length ≤ 7 := by
            have h1 := List.length_filter_le (fun x => decide (x ∈ ks)) (w.near k)
            have h2 : (w.near k).length ≤ w.n := by
              unfold Web.near
              have := List.length_filter_le (fun o => !decide (o = k) && w.tied k o) (List.range w.n)
              rwa [List.length_range] at this
            omega
          rw [List.length_append, List.length_singleton] at hl
          have l1 : p.length < lim := by show _ < 1000000; omega
          have l2 : r.length + ((w.near k).filter fun x => decide (x ∈ ks)).length ≤ lim := by show _ ≤ 1000000; omega
          refine ⟨(p ++ [k], r ++ (w.near k).filter fun x => decide (x ∈ ks)), [some (.fz (wbD w)), some (.fz (.list (ks.map nD))), y_left, y_found, some (.ow (.list ((p ++ [k]).map nD))), some (.ow (.list ((r ++ (w.near k).filter fun x => decide (x ∈ ks)).map nD))), some (.fz (.int (k : Nat))), y_other], ?_, ⟨hB2, ?_, _, rfl⟩, ?_⟩
          · simp? only [b_pieces_of_4, hkp, l1, l2, e_pieces_of_2, c_pieces_of_3, p_near hn (show w.n ≤ 100 by omega), List.map_append]
            rfl
          · simp only [List.length_append, List.length_singleton]; omega
          · simp only [List.length_append, List.length_singleton, List.length_cons]; omega)
    fuel ([], [s]) _ ⟨Bfs.start hs, by simp only [List.length_cons, List.length_nil]; omega, y_knot, rfl⟩ (by show _ < 100000; simp only [List.length_cons, List.length_nil]; omega)
  simp only at hf
  subst hf
  exact ⟨p, _, hB.done, e1, y_knot2, rfl⟩
theorem p_pieces_of {L : Nat} (hL : 4 ≤ L) {w : Web} (hw : w.Ok) {ks : List Nat} (nd : ks.Nodup) (hk : ∀ k ∈ ks, k < w.n) :
    ∃ ps : List (List Nat), All2 List.Perm ps (piecesA w.tied ks.length ks) ∧ runF tb L f_pieces_of [.fz (wbD w), .fz (.list (ks.map nD))] = .ok (.ow (.list (ps.map lnD))) := by
  obtain ⟨n, rfl, hn'⟩ := lvl hL
  rw [run_of tb_pieces_of rfl]
  have hkl := ks_len hw nd hk
  have sy := hw.symm
  obtain ⟨⟨left, found⟩, ρ', e1, ⟨_, _, _, _, ⟨done, f, d1, d2, d3⟩, y_piece, y_ahead, y_knot, y_other, rfl⟩, hf⟩ := whileL_st (σ := List Nat × List (List Nat)) (cond := fun ρ1 => evB (runF tb n) e_pieces_of_7 ρ1) (body := fun ρ1 => exs (runF tb n) b_pieces_of_6 ρ1)
    (fun st ρ => st.1.Nodup ∧ (∀ x ∈ st.1, x ∈ ks) ∧ ClosedA w.tied ks st.1 ∧ st.2.length + st.1.length ≤ 7 ∧ (∃ done f, All2 List.Perm st.2 done ∧ st.1.length ≤ f ∧ piecesA w.tied ks.length ks = done ++ piecesA w.tied f st.1) ∧
      ∃ y_piece y_ahead y_knot y_other : Option Vl, ρ = [some (.fz (wbD w)), some (.fz (.list (ks.map nD))), some (.ow (.list (st.1.map nD))), some (.ow (.list (st.2.map lnD))), y_piece, y_ahead, y_knot, y_other])
    (fun st => st.1.length) (fun st => st.1 = []) (fun st ρ hI => by
      obtain ⟨left, found⟩ := st
      obtain ⟨i1, i2, i3, i4, ⟨done, f, d1, d2, d3⟩, y_piece, y_ahead, y_knot, y_other, rfl⟩ := hI
      simp only at i1 i2 i3 i4 d1 d2 d3
      by_cases h0 : left = []
      · subst h0
        refine .inl ⟨?_, rfl⟩
        simp? only [e_pieces_of_7, eq_l00]
      · obtain ⟨s, r, hsr⟩ := List.exists_cons_of_ne_nil h0
        have c1 : eqD (.list (left.map nD)) (.list []) = .ok false := by rw [eq_l0, hsr]; rfl
        refine .inr ⟨by simp? only [e_pieces_of_7, c1], ?_⟩
        have hsl : s ∈ left := by rw [hsr]; exact List.mem_cons_self
        obtain ⟨p, ρ1, hp, e1, y_knot2, rfl⟩ := pieces_in hn' hw hk hkl (i2 s hsl) (y_left := some (.ow (.list (left.map nD)))) (y_found := some (.ow (.list (found.map lnD)))) (y_knot := y_knot) (y_other := y_other)
        simp only [evB, evT] at e1
        have hq : IsPiece w.tied ks s (pieceA w.tied left) := by subst hsr; exact (piece_is sy i1).wide i2 i3
        have hpq := hp.perm hq
        have hrest := rest_perm (left := left) hpq
        obtain ⟨f', f1, f2⟩ : ∃ f', (restA left (pieceA w.tied left)).length ≤ f' ∧ piecesA w.tied f left = pieceA w.tied left :: piecesA w.tied f' (restA left (pieceA w.tied left)) := by subst hsr; exact piecesA_step d2
        have hlen : (restA left p).length < left.length := by subst hsr; exact Nat.lt_succ_of_le (rest_len hp.head)
        have cl := rest_closed sy i3 hp.cl (fun x hx => (hp.re x hx).mem) i2
        have hl0 : 0 < left.length := by rw [hsr]; exact Nat.succ_pos _
        have l1 : found.length < lim := by show _ < 1000000; omega
        have a0 : L2.atI (left.map nD) 0 = some (.int (s : Nat)) := by rw [hsr, atI_0]; rfl
        have e2 : left.filter (fun k => !decide (k ∈ p)) = restA left p := rfl
        refine ⟨(restA left p, found ++ [p]), (fun y_knot => [some (.fz (wbD w)), some (.fz (.list (ks.map nD))), some (.ow (.list ((restA left p).map nD))), some (.ow (.list ((found ++ [p]).map lnD))), some (.fz (.list (p.map nD))), some (.ow (.list [])), y_knot, y_other]) y_knot2, ?_, ⟨i1.sublist List.filter_sublist, fun x hx => i2 x (List.mem_filter.mp hx).1, cl, ?_, ⟨done ++ [pieceA w.tied left], f', d1.app (.cons hpq .nil), ?_, ?_⟩, _, _, _, _, rfl⟩, ?_⟩
        · simp? only [b_pieces_of_6, a0, e1, l1, e_pieces_of_0, c_pieces_of_1, e2, List.map_append]
          rfl
        · simp only [List.length_append, List.length_singleton]; omega
        · rw [hrest]; exact f1
        · rw [d3, f2, hrest, List.append_assoc]; rfl
        · exact hlen)
    fuel (ks, []) [some (.fz (wbD w)), some (.fz (.list (ks.map nD))), some (.ow (.list (ks.map nD))), some (.ow (.list [])), none, none, none, none] ⟨nd, fun x hx => hx, fun x _ y hy _ => hy, by simp only [List.length_nil]; omega, ⟨[], ks.length, .nil, Nat.le_refl _, rfl⟩, _, _, _, _, rfl⟩ (by show _ < 100000; simp only; omega)
  simp only at hf
  subst hf
  simp only [evB, evT, List.map_nil] at e1
  refine ⟨found, ?_, ?_⟩
  · rw [piecesA_nil, List.append_nil] at d3
    rw [d3]
    exact d1
  · simp? only [b_pieces_of, e1]
end Wv
namespace Wv
open PySem PySem.Spec PyProof.Rows L2
local macro_rules | `(tactic| simp? only [$xs,*]) => `(tactic| simp only [exs, exS, ev, evTs, evDs, evAs, evAnd, evOr, evCond, evIt, evT, evB, evD, evK, b_ok, b_err, b_bad, k_ok, m_ok, dat_fz, dat_ow, keepV_no, keepV_fz, iL_loc, iL_non, iL_bl, iL_int, iL_str, iL_glo, iL_op, iL_chain, iL_neg, iL_not, iL_and, iL_or, iL_ite, iL_tup, iL_lst, iL_ix, iL_sl, iL_isi, iL_bi, iL_lenset, iL_sortset, iL_rep, iL_rev, iL_lrng, iL_mt, iL_call, iL_comp, iL_comp2, iL_dget, iL_dkeys, iL_trng, iL_trng2, iL_ptup, iL_ptl, iL_ptr, iL_ptr2, iL_tix, iL_dnew, iL_disp, iL_dix, iL_dgt, iL_dcopy, iL_gget, iL_gix, dicV_ow, dicV_fd, dat_pt, keepV_pt, argV_pt, lstOf, ptD, ptOf, starD, argV_fz, argV_ow, frzV_lst, frzV_tup, frzV_dct, boolV_bl, kB, kI, tyB, getO, frz, fin_rt, fin_nx, tmsLen, Gc.d, List.getElem?_cons_zero, List.getElem?_cons_succ, List.getElem?_nil, List.set_cons_zero, List.set_cons_succ, List.map_cons, List.map_nil, List.replicate_zero, List.replicate_succ, List.cons_append, List.nil_append, List.append_nil, List.any_cons, List.any_nil, List.all_cons, List.all_nil, Bool.or_false, Bool.false_or, Bool.or_true, Bool.true_or, Bool.and_true, Bool.true_and, Bool.and_false, Bool.false_and, Bool.not_true, Bool.not_false, Bool.not_not, Bool.false_eq_true, Bool.true_eq_false, if_true, if_false, ite_true, ite_false, Nat.reduceSub, Nat.reduceAdd, List.length_cons, List.length_nil, Nat.zero_add, reduceIte, id, plain_non, plain_bl, plain_int, plain_str, plain_lst, plain_tup, isDict_non, isDict_bl, isDict_int, isDict_str, isDict_lst, isDict_tup, eqD_int, eqD_bool, eqD_str, ltD_int, Int.reduceEq, Int.reduceLT, Int.reduceLE, Int.reduceAdd, Int.reduceSub, Int.reduceMul, Int.reduceToNat, Int.reduceNeg, Int.reduceMod, Int.reduceDiv, decide_true, decide_false, Bool.true_beq, Bool.false_beq, compL_sel, selL_some, selL_if, flatL_sel, flatT_some, allD_m, anyD_m, sumD_n, m_err, m_bad, Gc.d, List.length_map, Nat.add_zero, q_tn, q_tb, q_ti, q_tl, q_tt, q_addi, q_adds, q_addl, q_addt, q_sub, q_mul, q_fdiv, q_mod, q_pow, q_le, q_gt, q_ge, q_neg, q_inl, q_int, q_ins, q_add, q_sub2, q_mul2, q_fdiv2, q_mod2, q_pow2, q_eq, q_ne, q_lt, q_le2, q_gt2, q_ge2, q_in, q_ni, q_is, q_isn, q_non, q_nob, q_noi, q_nos, q_nol, q_not, q_ixl, q_ixt, q_ixs, q_bn0, q_bn1, q_sll, q_slt, q_sls, q_lenl, q_lent, q_lens, q_tul, q_tut, q_lil, q_lit, q_ini, q_inb, q_str, q_rep, q_itl, q_itt, q_its, q_enl, q_ent, q_zll, q_ztt, q_app, q_ins2, q_set, q_revl, q_revt, q_repd, q_isin, q_isib, q_isii, q_isis, q_isil, q_isit, q_bi, q_b1, q_b2, q_b3, q_b4, q_b5, q_b6, q_b7, q_b8, q_b9, q_b10, q_b11, q_b12, q_bt1, q_bt2, q_btp, q_dgt, pl_n, pl_pr, pl_wb, pl_tn, in_pr, in_n, in_i, in_ni, in_tn, in_wb, eq_pr, eq_wb, eq_i, eq_tn, eq_ln, eq_tp, eq_l0, q_nD, and_b, or_b, b_ite, k_ite, m_ite, Int.ofNat_inj, Int.ofNat_lt, Int.ofNat_le, Int.natCast_inj, Int.natCast_pos, dec_t, sort_n, sort_p, sort_w, sort_2, lt_pr, lt_wb, lt_tn, c_1, c_add, c_modc, c_mulc, enum_f, zip_f, q_bte, q_btz, c_modl, c_divl, c_addl, c_addr, c_mull, c_mulr, c_ltl, c_ltr, c_lel, c_ler, c_eql, c_eqr, List.length_append, str_tf, beq_self_eq_true, Nat.reduceEqDiff, Nat.reduceLT, Nat.reduceLeDiff, Nat.reduceMod, Nat.reduceMul, Nat.reduceDiv, all_tt, any_ff, wipeE, $xs,*])
/-! ### symmetries: plain mathematics -/
theorem permsTo_nodup (m : Nat) : ∀ i, (permsTo m i).Nodup
  | 0 => by simp [permsTo]
  | i + 1 => by
    show (List.flatMap _ (permsTo m i)).Nodup
    unfold List.Nodup
    rw [List.pairwise_flatMap]
    refine ⟨fun row _ => ?_, ?_⟩
    · rw [List.pairwise_map]
      refine List.Pairwise.imp (fun {a b} h e => h ?_) (List.nodup_range.sublist (List.filter_sublist (p := fun k => !decide (k ∈ row)) (l := List.range m)))
      have := List.append_cancel_left e
      simpa using this
    · refine List.Pairwise.imp (fun {a b} h => ?_) (permsTo_nodup m i)
      intro x hx y hy e
      obtain ⟨k, _, rfl⟩ := List.mem_map.mp hx
      obtain ⟨l, _, rfl⟩ := List.mem_map.mp hy
      exact h (List.append_inj_left' e rfl)
theorem permsN_nodup (m : Nat) : (permsN m).Nodup := permsTo_nodup m m
/-- how many fits -/
def symN (v w : Web) : Nat := (lawFits v w).length
theorem lawFits_nodup (v w : Web) : (lawFits v w).Nodup := by
  unfold lawFits
  split
  · exact (permsN_nodup v.n).sublist List.filter_sublist
  · exact List.nodup_nil
theorem mem_lawFits {v w : Web} (hv : v.Ok) (hw : w.Ok) (hn : v.n = w.n) {t : List Nat} : t ∈ lawFits v w ↔ Ord v.n t ∧ Fits v w t := by
  unfold lawFits
  rw [if_pos hn, List.mem_filter, decide_eq_true_eq, mem_permsN]
  constructor
  · rintro ⟨h1, h2⟩
    exact ⟨h1, (fits_iff hv hw hn h1).mp h2⟩
  · rintro ⟨h1, h2⟩
    exact ⟨h1, (fits_iff hv hw hn h1).mpr h2⟩
theorem symN_le {v w : Web} (hn : v.n = w.n) (hv : v.n ≤ 7) : symN v w ≤ 5040 := by
  unfold symN lawFits
  rw [if_pos hn]
  refine Nat.le_trans (List.length_filter_le _ _) ?_
  unfold permsN
  rw [permsTo_len]
  exact desc7 hv (Nat.le_refl _)
/-- t behind s -/
def compO (t s : List Nat) : List Nat := s.map fun i => t[i]!
theorem compO_get {n : Nat} {t s : List Nat} (hs : Ord n s) {i : Nat} (hi : i < n) : (compO t s)[i]! = t[s[i]!]! := by
  unfold compO
  rw [getElem!_pos _ _ (by rw [List.length_map, hs.1]; exact hi), List.getElem_map, getElem!_pos s i (by rw [hs.1]; exact hi)]
theorem compO_ord {n : Nat} {t s : List Nat} (ht : Ord n t) (hs : Ord n s) : Ord n (compO t s) := by
  refine ⟨by unfold compO; rw [List.length_map, hs.1], nodup_map_on (fun x hx y hy e => ?_) hs.2.1, fun x hx => ?_⟩
  · exact ht.inj (hs.2.2 x hx) (hs.2.2 y hy) e
  · obtain ⟨k, hk, rfl⟩ := List.mem_map.mp hx
    exact ht.lt (hs.2.2 k hk)
theorem ext_get {n : Nat} {s t : List Nat} (hs : s.length = n) (ht : t.length = n) (h : ∀ i, i < n → s[i]! = t[i]!) : s = t := by
  refine List.ext_getElem (by rw [hs, ht]) fun i h1 h2 => ?_
  have := h i (by rw [← hs]; exact h1)
  rwa [getElem!_pos s i h1, getElem!_pos t i h2] at this
theorem inv_at {n : Nat} {r : List Nat} (hr : Ord n r) {k : Nat} (hk : k < n) : r[(invO n r)[k]!]! = k := by
  rw [invO_get hk, at_idx (hr.has hk)]
theorem Fits.inv {v w : Web} (hv : v.Ok) (hw : w.Ok) (hn : v.n = w.n) {r : List Nat} (hr : Ord v.n r) (h : Fits v w r) : Fits w v (invO v.n r) := fun i j hij hj => by
  rw [← hn] at hj
  have hi : i < v.n := by omega
  rw [h.all hv hw (hr.inv.lt hi) (hr.inv.lt hj), inv_at hr hi, inv_at hr hj]
/-- fits of u go on -/
theorem sym_post {u v w : Web} (hu : u.Ok) (hv : v.Ok) (hw : w.Ok) (hn : v.n = w.n) (hun : u.n = v.n) {r : List Nat} (hr : Ord v.n r) (h : Fits v w r) : symN u v ≤ symN u w := by
  have h1 : ((lawFits u v).map (compO r)).Nodup := nodup_map_on (fun x hx y hy e => by
    have ox := ((mem_lawFits hu hv hun).mp hx).1
    have oy := ((mem_lawFits hu hv hun).mp hy).1
    rw [hun] at ox oy
    refine ext_get ox.1 oy.1 fun i hi => ?_
    have e2 := congrArg (fun l : List Nat => l[i]!) e
    rw [compO_get ox hi, compO_get oy hi] at e2
    exact hr.inj (ox.lt hi) (oy.lt hi) e2) (lawFits_nodup u v)
  have h2 := nodup_le h1 (m := lawFits u w) fun x hx => by
    obtain ⟨s, hs, rfl⟩ := List.mem_map.mp hx
    obtain ⟨os, fs⟩ := (mem_lawFits hu hv hun).mp hs
    have os' : Ord v.n s := by rw [← hun]; exact os
    refine (mem_lawFits hu hw (by rw [hun, hn])).mpr ⟨by rw [hun]; exact compO_ord hr os', fun i j hij hj => ?_⟩
    rw [compO_get os (by omega), compO_get os hj, fs i j hij hj]
    exact h.all hv hw (os'.lt (by omega)) (os'.lt (by omega))
  rwa [List.length_map] at h2
/-- fits of w come behind -/
theorem sym_pre {u v w : Web} (hu : u.Ok) (hv : v.Ok) (hw : w.Ok) (hn : v.n = w.n) (hun : w.n = u.n) {r : List Nat} (hr : Ord v.n r) (h : Fits v w r) : symN w u ≤ symN v u := by
  have hr' : Ord w.n r := by rw [← hn]; exact hr
  have h1 : ((lawFits w u).map fun t => compO t r).Nodup := nodup_map_on (fun x hx y hy e => by
    have ox := ((mem_lawFits hw hu hun).mp hx).1
    have oy := ((mem_lawFits hw hu hun).mp hy).1
    refine ext_get ox.1 oy.1 fun i hi => ?_
    obtain ⟨k, hk, rfl⟩ := hr'.surj hi
    have e2 := congrArg (fun l : List Nat => l[k]!) e
    rwa [compO_get hr' hk, compO_get hr' hk] at e2) (lawFits_nodup w u)
  have h2 := nodup_le h1 (m := lawFits v u) fun x hx => by
    obtain ⟨t, ht, rfl⟩ := List.mem_map.mp hx
    obtain ⟨ot, ft⟩ := (mem_lawFits hw hu hun).mp ht
    have ot' : Ord v.n t := by rw [hn]; exact ot
    refine (mem_lawFits hv hu (by rw [hn, hun])).mpr ⟨compO_ord ot' hr, fun i j hij hj => ?_⟩
    rw [compO_get hr (by omega), compO_get hr hj, h i j hij hj]
    exact ft.all hw hu (by rw [← hn]; exact hr.lt (by omega)) (by rw [← hn]; exact hr.lt hj)
  rwa [List.length_map] at h2
/-- webs that fit have as many fits -/
theorem sym_same {v w : Web} (hv : v.Ok) (hw : w.Ok) (hn : v.n = w.n) {r : List Nat} (hr : Ord v.n r) (h : Fits v w r) : symN v w = symN v v ∧ symN w w = symN v v := by
  have hi := h.inv hv hw hn hr
  have hri : Ord w.n (invO v.n r) := by rw [← hn]; exact hr.inv
  have a1 := sym_post hv hv hw hn rfl hr h
  have a2 := sym_post hv hw hv hn.symm hn hri hi
  have b1 := sym_pre hw hv hw hn rfl hr h
  have b2 := sym_pre hw hw hv hn.symm hn hri hi
  omega
theorem sym_numbered {w : Web} (hw : w.Ok) {r : List Nat} (hr : Ord w.n r) : symN w (w.numbered r) = symN w w ∧ symN (w.numbered r) (w.numbered r) = symN w w :=
  sym_same hw (hw.numbered hr) rfl hr ((fits_iff hw (hw.numbered hr) rfl hr).mp rfl)
theorem sym_contrary {w : Web} (hw : w.Ok) : symN w.contrary w.contrary = symN w w := by
  unfold symN lawFits
  rw [if_pos rfl, if_pos rfl]
  refine congrArg List.length (List.filter_congr fun t ht => ?_)
  have ot := mem_permsN.mp ht
  have ot' : Ord w.n t := ot
  rw [Bool.eq_iff_iff, decide_eq_true_eq, decide_eq_true_eq, fits_iff hw.contrary hw.contrary rfl ot, fits_iff hw hw rfl ot']
  have key : ∀ i j, i < j → j < w.n → (w.contrary.tied i j = w.contrary.tied t[i]! t[j]! ↔ w.tied i j = w.tied t[i]! t[j]!) := fun i j hij hj => by
    have hne : t[i]! ≠ t[j]! := fun e => by
      have := ot'.inj (by omega) hj e
      omega
    rw [Web.tied_contrary w (by omega) hj (by omega), Web.tied_contrary w (ot'.lt (by omega)) (ot'.lt hj) hne]
    cases w.tied i j <;> cases w.tied t[i]! t[j]! <;> simp
  exact ⟨fun h i j hij hj => (key i j hij hj).mp (h i j hij hj), fun h i j hij hj => (key i j hij hj).mpr (h i j hij hj)⟩
theorem sym_pos {w : Web} (hw : w.Ok) : 0 < symN w w := by
  refine List.length_pos_of_mem (a := List.range w.n) ((mem_lawFits hw hw rfl).mpr ⟨Ord.of_perm (List.Perm.refl _), fun i j hij hj => ?_⟩)
  rw [range_get (by omega), range_get hj]
theorem fibres_dvd {α β : Type} [DecidableEq β] (f : α → β) (k : Nat) : ∀ (m : Nat) (l : List α), l.length ≤ m → (∀ x ∈ l, (l.filter fun y => decide (f y = f x)).length = k) → k ∣ l.length
  | m, [], _, _ => ⟨0, by simp⟩
  | 0, x :: r, hm, _ => by simp at hm
  | m + 1, x :: r, hm, h => by
    have h0 := h x List.mem_cons_self
    have hs := filter_split (fun _ => true) (fun y => decide (f y = f x)) (x :: r)
    simp only [Bool.true_and] at hs
    have ht : (x :: r).filter (fun _ => true) = x :: r := List.filter_eq_self.mpr fun _ _ => rfl
    rw [ht] at hs
    have hlt : ((x :: r).filter fun y => !decide (f y = f x)).length ≤ m := by
      have : ((x :: r).filter fun y => !decide (f y = f x)) = r.filter fun y => !decide (f y = f x) := List.filter_cons_of_neg (by simp)
      rw [this]
      have := List.length_filter_le (fun y => !decide (f y = f x)) r
      rw [List.length_cons] at hm
      omega
    have ih := fibres_dvd f k m ((x :: r).filter fun y => !decide (f y = f x)) hlt fun y hy => by
      obtain ⟨hy1, hy2⟩ := List.mem_filter.mp hy
      have hne : f y ≠ f x := by simpa using hy2
      rw [List.filter_filter, ← h y hy1]
      refine congrArg List.length (List.filter_congr fun z _ => ?_)
      by_cases e : f z = f y
      · simp [e, hne]
      · simp [e]
    obtain ⟨q, hq⟩ := ih
    exact ⟨q + 1, by rw [Nat.mul_succ, ← hq]; omega⟩
theorem perms_len {m : Nat} (hm : m ≤ 7) : (permsN m).length = fac m := by
  unfold permsN
  rw [permsTo_len]
  have key : ∀ m, m < 8 → desc m m = fac m := by decide +kernel
  exact key m (by omega)
/-- the symmetries divide the orders -/
theorem sym_dvd {w : Web} (hw : w.Ok) : symN w w ∣ fac w.n := by
  rw [← perms_len hw.le]
  refine fibres_dvd w.numbered (symN w w) _ (permsN w.n) (Nat.le_refl _) fun r hr => ?_
  have ho := mem_permsN.mp hr
  rw [← (sym_numbered hw ho).1]
  unfold symN lawFits
  rw [if_pos (show w.n = (w.numbered r).n from rfl)]
theorem sym_empty {n : Nat} (h1 : 1 ≤ n) (h2 : n ≤ 7) : symN ⟨n, []⟩ ⟨n, []⟩ = fac n := by
  rw [← perms_len h2]
  unfold symN lawFits
  rw [if_pos rfl, List.filter_eq_self.mpr]
  intro t _
  refine decide_eq_true ?_
  have e : sortP ([] : List (Nat × Nat)) = [] := List.eq_nil_of_length_eq_zero (by unfold sortP; rw [sortBy_len]; rfl)
  show (⟨n, sortP []⟩ : Web) = _
  rw [e]
theorem fitsAll_n {v w : Web} (hv : v.Ok) (hw : w.Ok) : (fitsAll v w).length = symN v w := by rw [fitsAll_eq hv hw]; rfl
/-- rows of a list's places -/
def lotsL {α : Type} : List α → List (List α)
  | [] => [[]]
  | x :: r => lotsL r ++ (lotsL r).map (x :: ·)
theorem lots_filter {α : Type} (c : α → Bool) : ∀ l : List α, l.filter c ∈ lotsL l
  | [] => by simp [lotsL]
  | x :: r => by
    rw [List.filter_cons]
    split
    · exact List.mem_append_right _ (List.mem_map.mpr ⟨_, lots_filter c r, rfl⟩)
    · exact List.mem_append_left _ (lots_filter c r)
def onePiece (w : Web) : Bool := decide ((piecesA w.tied w.n (List.range w.n)).length = 1)
def besideB (w : Web) : Bool := !onePiece w || decide ((fitsF (w.beside w) (w.beside w) (w.n + w.n) []).length = 2 * (fitsF w w w.n []).length * (fitsF w w w.n []).length)
theorem beside_all : ∀ n ∈ [1, 2, 3], ∀ t ∈ lotsL (prs n), besideB ⟨n, t⟩ = true := by decide +kernel
theorem sym_beside {w : Web} (hw : w.Ok) (h : w.n < 4) (h1 : (piecesA w.tied w.n (List.range w.n)).length = 1) : (fitsAll (w.beside w) (w.beside w)).length = 2 * (fitsAll w w).length * (fitsAll w w).length := by
  have hp := hw.pos
  have e : w.t = (prs w.n).filter fun p => decide (p ∈ w.t) := rise_ext tot_p hw.rise ((prs_rise w.n).filter _) fun p => by
    rw [List.mem_filter, decide_eq_true_eq, prs_mem]
    exact ⟨fun h => ⟨hw.mem p h, h⟩, fun h => h.2⟩
  have hm : w.t ∈ lotsL (prs w.n) := by rw [e]; exact lots_filter _ _
  have hn : w.n ∈ [1, 2, 3] := by
    have : w.n = 1 ∨ w.n = 2 ∨ w.n = 3 := by omega
    rcases this with h | h | h <;> simp [h]
  have hb := beside_all w.n hn w.t hm
  unfold besideB onePiece at hb
  have h2 : (⟨w.n, w.t⟩ : Web) = w := rfl
  rw [h2, h1] at hb
  have f1 : ∀ v : Web, fitsAll v v = fitsF v v v.n [] := fun v => if_pos rfl
  rw [f1, f1]
  have h3 : (fitsF (w.beside w) (w.beside w) (w.n + w.n) []).length = 2 * (fitsF w w w.n []).length * (fitsF w w w.n []).length := by simpa using hb
  exact h3
end Wv
namespace Wv
open PySem PySem.Spec PyProof.Rows L2
local macro_rules | `(tactic| simp? only [$xs,*]) => `(tactic| simp only [exs, exS, ev, evTs, evDs, evAs, evAnd, evOr, evCond, evIt, evT, evB, evD, evK, b_ok, b_err, b_bad, k_ok, m_ok, dat_fz, dat_ow, keepV_no, keepV_fz, iL_loc, iL_non, iL_bl, iL_int, iL_str, iL_glo, iL_op, iL_chain, iL_neg, iL_not, iL_and, iL_or, iL_ite, iL_tup, iL_lst, iL_ix, iL_sl, iL_isi, iL_bi, iL_lenset, iL_sortset, iL_rep, iL_rev, iL_lrng, iL_mt, iL_call, iL_comp, iL_comp2, iL_dget, iL_dkeys, iL_trng, iL_trng2, iL_ptup, iL_ptl, iL_ptr, iL_ptr2, iL_tix, iL_dnew, iL_disp, iL_dix, iL_dgt, iL_dcopy, iL_gget, iL_gix, dicV_ow, dicV_fd, dat_pt, keepV_pt, argV_pt, lstOf, ptD, ptOf, starD, argV_fz, argV_ow, frzV_lst, frzV_tup, frzV_dct, boolV_bl, kB, kI, tyB, getO, frz, fin_rt, fin_nx, tmsLen, Gc.d, List.getElem?_cons_zero, List.getElem?_cons_succ, List.getElem?_nil, List.set_cons_zero, List.set_cons_succ, List.map_cons, List.map_nil, List.replicate_zero, List.replicate_succ, List.cons_append, List.nil_append, List.append_nil, List.any_cons, List.any_nil, List.all_cons, List.all_nil, Bool.or_false, Bool.false_or, Bool.or_true, Bool.true_or, Bool.and_true, Bool.true_and, Bool.and_false, Bool.false_and, Bool.not_true, Bool.not_false, Bool.not_not, Bool.false_eq_true, Bool.true_eq_false, if_true, if_false, ite_true, ite_false, Nat.reduceSub, Nat.reduceAdd, List.length_cons, List.length_nil, Nat.zero_add, reduceIte, id, plain_non, plain_bl, plain_int, plain_str, plain_lst, plain_tup, isDict_non, isDict_bl, isDict_int, isDict_str, isDict_lst, isDict_tup, eqD_int, eqD_bool, eqD_str, ltD_int, Int.reduceEq, Int.reduceLT, Int.reduceLE, Int.reduceAdd, Int.reduceSub, Int.reduceMul, Int.reduceToNat, Int.reduceNeg, Int.reduceMod, Int.reduceDiv, decide_true, decide_false, Bool.true_beq, Bool.false_beq, compL_sel, selL_some, selL_if, flatL_sel, flatT_some, allD_m, anyD_m, sumD_n, m_err, m_bad, Gc.d, List.length_map, Nat.add_zero, q_tn, q_tb, q_ti, q_tl, q_tt, q_addi, q_adds, q_addl, q_addt, q_sub, q_mul, q_fdiv, q_mod, q_pow, q_le, q_gt, q_ge, q_neg, q_inl, q_int, q_ins, q_add, q_sub2, q_mul2, q_fdiv2, q_mod2, q_pow2, q_eq, q_ne, q_lt, q_le2, q_gt2, q_ge2, q_in, q_ni, q_is, q_isn, q_non, q_nob, q_noi, q_nos, q_nol, q_not, q_ixl, q_ixt, q_ixs, q_bn0, q_bn1, q_sll, q_slt, q_sls, q_lenl, q_lent, q_lens, q_tul, q_tut, q_lil, q_lit, q_ini, q_inb, q_str, q_rep, q_itl, q_itt, q_its, q_enl, q_ent, q_zll, q_ztt, q_app, q_ins2, q_set, q_revl, q_revt, q_repd, q_isin, q_isib, q_isii, q_isis, q_isil, q_isit, q_bi, q_b1, q_b2, q_b3, q_b4, q_b5, q_b6, q_b7, q_b8, q_b9, q_b10, q_b11, q_b12, q_bt1, q_bt2, q_btp, q_dgt, pl_n, pl_pr, pl_wb, pl_tn, in_pr, in_n, in_i, in_ni, in_tn, in_wb, eq_pr, eq_wb, eq_i, eq_tn, eq_ln, eq_tp, eq_l0, q_nD, and_b, or_b, b_ite, k_ite, m_ite, Int.ofNat_inj, Int.ofNat_lt, Int.ofNat_le, Int.natCast_inj, Int.natCast_pos, dec_t, sort_n, sort_p, sort_w, sort_2, lt_pr, lt_wb, lt_tn, c_1, c_add, c_modc, c_mulc, enum_f, zip_f, q_bte, q_btz, c_modl, c_divl, c_addl, c_addr, c_mull, c_mulr, c_ltl, c_ltr, c_lel, c_ler, c_eql, c_eqr, List.length_append, str_tf, beq_self_eq_true, Nat.reduceEqDiff, Nat.reduceLT, Nat.reduceLeDiff, Nat.reduceMod, Nat.reduceMul, Nat.reduceDiv, all_tt, any_ff, wipeE, $xs,*])
/-! ### law k08 -/
theorem q_sym {L : Nat} (hL : 13 ≤ L) {w : Web} (hw : w.Ok) : runF tb L f_symmetries [.fz (wbD w)] = .ok (.fz (.int (symN w w : Nat))) := by
  have h := p_symmetries hL (w := w) hw.le
  rw [fitsAll_n hw hw, Nat.min_eq_right (Nat.le_trans (symN_le rfl hw.le) (by decide))] at h
  exact h
theorem symN_small {v w : Web} (hv : v.n ≤ 7) : symN v w ≤ 5040 := by
  by_cases hn : v.n = w.n
  · exact symN_le hn hv
  · unfold symN lawFits
    rw [if_neg hn]
    exact Nat.zero_le _
theorem q_fits {L : Nat} (hL : 12 ≤ L) {v w : Web} (hv : v.Ok) (hw : w.Ok) : runF tb L f_fits_many [.fz (wbD v), .fz (wbD w)] = .ok (.fz (.int (symN v w : Nat))) := by
  have h := p_fits_many hL (one := v) (other := w) hv.le hw.le
  rw [fitsAll_n hv hw, Nat.min_eq_right (Nat.le_trans (symN_small hv.le) (by decide))] at h
  exact h
theorem fac_step (i : Nat) : fac i * (i + 1) = fac (i + 1) := Nat.mul_comm _ _
theorem fac_small {m : Nat} (h : m ≤ 7) : fac m ≤ 5040 := by
  have key : ∀ m, m < 8 → fac m ≤ 5040 := by decide +kernel
  exact key m (by omega)
theorem rng_get2 {a n i : Nat} {d : PyData} (h : ((List.range' a n).map nD)[i]? = some d) : i < n ∧ d = .int ((a + i : Nat) : Int) := by
  rw [List.getElem?_map] at h
  obtain ⟨x, hx, rfl⟩ := Option.map_eq_some_iff.mp h
  have hi : i < n := by
    have := (List.getElem?_eq_some_iff.mp hx).1
    rwa [List.length_range'] at this
  rw [List.getElem?_range' hi] at hx
  cases hx
  refine ⟨hi, ?_⟩
  rw [Nat.one_mul]
  rfl
theorem small_fac {m : Nat} (h : m ≤ 7) : smallI ((fac m : Nat) : Int) = true := by
  have key : ∀ m, m < 8 → smallI ((fac m : Nat) : Int) = true := by decide +kernel
  exact key m (by omega)
theorem p_count {L : Nat} (hL : 14 ≤ L) {w : Web} (hw : w.Ok) : runF tb L f_count [.fz (wbD w)] = .ok (.fz (.int ((fac w.n / symN w w : Nat) : Int))) := by
  obtain ⟨n, rfl, hn'⟩ := lvl hL
  rw [run_of tb_count rfl]
  have hw7 := hw.le
  obtain ⟨ρ', e1, y_number, rfl⟩ := for_ok (bnd := fun d ρ => .ok (ρ.set 2 (some (.fz d)))) (body := fun ρ1 => exs (runF tb n) b_count_0 ρ1) (ds := (List.range' 1 w.n).map nD) (ρ := [some (.fz (wbD w)), some (.fz (.int 1)), none])
    (fun i ρ => ∃ y_number, ρ = [some (.fz (wbD w)), some (.fz (.int (fac i : Nat))), y_number]) ⟨_, rfl⟩ fun i d ρ hd hI => by
    obtain ⟨y_number, rfl⟩ := hI
    obtain ⟨hi, rfl⟩ := rng_get2 hd
    have hs := small_fac (m := i) (by omega)
    have hf := fac_step i
    rw [Nat.add_comm i 1] at hf
    refine ⟨_, [some (.fz (wbD w)), some (.fz (.int (fac (i + 1) : Nat))), some (.fz (.int ((1 + i : Nat) : Int)))], rfl, ?_, _, rfl⟩
    rw [Nat.add_comm i 1]
    simp? only [b_count_0, hs, hf]
  rw [List.length_map, List.length_range'] at e1
  have r2 : rngD [.int 1, .int ((w.n + 1 : Nat) : Int)] = .ok ((List.range' 1 w.n).map nD) := rng_2 (a := 1) (b := w.n + 1) (by omega) (by omega)
  have hp := sym_pos hw
  have hle : leN ((symN w w : Nat) : Int) 1073741823 = true := by
    have h1 := symN_le (v := w) (w := w) rfl hw7
    show Nat.ble (symN w w) 1073741823 = true
    exact Nat.ble_eq_true_of_le (by omega)
  have hdv : ((fac w.n : Nat) : Int) / ((symN w w : Nat) : Int) = ((fac w.n / symN w w : Nat) : Int) := (Int.natCast_ediv _ _).symm
  simp? only [b_count, ix0, r2, e1, q_sym (L := n) hn' hw, hp, hle, hdv]
theorem p_pieces {L : Nat} (hL : 6 ≤ L) {w : Web} (hw : w.Ok) : runF tb L f_measure [.fz (wbD w), .fz (.str "pieces")] = .ok (.fz (.int ((piecesA w.tied w.n (List.range w.n)).length : Nat))) := by
  obtain ⟨n, rfl, hn'⟩ := lvl hL
  rw [run_of tb_measure rfl]
  have hw7 := hw.le
  obtain ⟨ps, h1, h2⟩ := p_pieces_of (L := n) (by omega) hw (ks := List.range w.n) List.nodup_range fun k hk => List.mem_range.mp hk
  have hl : ps.length = (piecesA w.tied w.n (List.range w.n)).length := by
    have : ∀ {as bs : List (List Nat)}, All2 List.Perm as bs → as.length = bs.length := fun h => by
      induction h with
      | nil => rfl
      | cons _ _ ih => rw [List.length_cons, List.length_cons, ih]
    have := this h1
    rwa [List.length_range] at this
  have s1 : inD (.str "pieces") [.str "knots", .str "ties"] = .ok false := by rfl
  have s2 : inD (.str "pieces") [.str "least", .str "most"] = .ok false := by rfl
  have s3 : ((Str.ofString "pieces") == (Str.ofString "pieces")) = true := by decide +kernel
  have lr : lrngD [.int (w.n : Nat)] = .ok (.ow (.list ((List.range w.n).map nD))) := by
    show (if inN (w.n : Int) lim = true then _ else _) = _
    rw [if_pos (inN_nat (by show _ ≤ 1000000; omega)), Int.toNat_natCast]
    rfl
  simp? only [b_measure, ix0, lr, h2, hl, s1, s2, s3]
theorem p_orders {n m : Nat} (hm : m ≤ 7) {y_script y_cell y_picks y_web y_other y_many y_number y_third : Option Vl} : ∃ ρ', forL (fun d ρ => .ok (ρ.set 7 (some (.fz d)))) (fun ρ1 => exs (runF tb n) b_law_0 ρ1) ((List.range' 1 m).map nD) [y_script, y_cell, y_picks, y_web, y_other, y_many, some (.fz (.int 1)), y_number, y_third] = .ok (.nx ρ') ∧ ∃ y_number, ρ' = [y_script, y_cell, y_picks, y_web, y_other, y_many, some (.fz (.int (fac m : Nat))), y_number, y_third] := by
  obtain ⟨ρ', e1, y_number, rfl⟩ := for_ok (bnd := fun d ρ => .ok (ρ.set 7 (some (.fz d)))) (body := fun ρ1 => exs (runF tb n) b_law_0 ρ1) (ds := (List.range' 1 m).map nD) (ρ := [y_script, y_cell, y_picks, y_web, y_other, y_many, some (.fz (.int 1)), y_number, y_third])
    (fun i ρ => ∃ y_number, ρ = [y_script, y_cell, y_picks, y_web, y_other, y_many, some (.fz (.int (fac i : Nat))), y_number, y_third]) ⟨_, rfl⟩ fun i d ρ hd hI => by
    obtain ⟨y_number, rfl⟩ := hI
    obtain ⟨hi, rfl⟩ := rng_get2 hd
    have hs := small_fac (m := i) (by omega)
    have hf := fac_step i
    rw [Nat.add_comm i 1] at hf
    refine ⟨_, [y_script, y_cell, y_picks, y_web, y_other, y_many, some (.fz (.int (fac (i + 1) : Nat))), some (.fz (.int ((1 + i : Nat) : Int))), y_third], rfl, ?_, _, rfl⟩
    rw [Nat.add_comm i 1]
    simp? only [b_law_0, hs, hf]
  rw [List.length_map, List.length_range'] at e1
  exact ⟨_, e1, y_number, rfl⟩
theorem law_turn {n : Nat} (hn : 100 ≤ n) {c : Int} {y_script y_picks y_web y_other y_many y_orders y_number y_third : Option Vl} : ∃ z2 z3 z4 z5 z6 z7 z8, exs (runF tb n) b_law_1 [y_script, some (.fz (.int c)), y_picks, y_web, y_other, y_many, y_orders, y_number, y_third] = .ok (.nx [y_script, some (.fz (.int c)), z2, z3, z4, z5, z6, z7, z8]) := by
  obtain ⟨fs, hfl, hfd, hdr⟩ := p_draws (L := n) (by omega) (cell := c) (size := 1000) (many := 60) (by decide) (by decide) (by decide)
  simp only [Int.cast_ofNat_Int] at hdr
  have p7 : ∀ m ≤ 6, (prs m).length + 2 ≤ 17 := by
    intro m hm
    have key : ∀ m, m < 7 → (prs m).length + 2 ≤ 17 := by decide +kernel
    exact key m (by omega)
  obtain ⟨w, hw, hw6, _, hweb⟩ := p_law_web (L := n) (by omega) (fs := fs) (limit := 6) (by decide) (by decide) fun m hm => by have := p7 m hm; omega
  obtain ⟨w3, hw3, _, _, hweb3⟩ := p_law_web (L := n) (by omega) (fs := fs.drop 40) (limit := 5) (by decide) (by decide) fun m hm => by have := p7 m (by omega); rw [List.length_drop]; omega
  simp only [Int.cast_ofNat_Int] at hweb hweb3
  obtain ⟨row, hrow, hord⟩ := p_law_order (L := n) (by omega) (fs := fs.drop 30) (m := w.n) (by omega) (by rw [List.length_drop]; omega)
  have hr := Ord.of_perm hrow
  have ho := hw.numbered hr
  have hnum := p_numbered (L := n) (by omega) (w := w) (row := row) (fun p hp => by have := hw.mem p hp; rw [hr.1]; omega) (d := .tuple (row.map nD)) (.inl rfl)
  have c30 : cut (fs.map nD) (some 30) none = (fs.drop 30).map nD := by rw [cut_from _ (by decide), List.map_drop]; rfl
  have c40 : cut (fs.map nD) (some 40) none = (fs.drop 40).map nD := by rw [cut_from _ (by decide), List.map_drop]; rfl
  obtain ⟨k, hk⟩ : ∃ k, k = symN w w := ⟨_, rfl⟩
  obtain ⟨sn1, sn2⟩ := sym_numbered hw hr
  have t1 := q_sym (L := n) (by omega) hw
  have t2 := q_fits (L := n) (by omega) hw ho
  have t3 := q_sym (L := n) (by omega) ho
  have t4 := q_sym (L := n) (by omega) hw.contrary
  rw [sn1] at t2
  rw [sn2] at t3
  rw [sym_contrary hw] at t4
  have t5 := p_contrary (L := n) (by omega) (w := w) (by omega)
  obtain ⟨m, y, ys, pm, _, _, pmem, _⟩ := plain_both w
  have t6 := p_plain (L := n) (by omega) hw
  rw [pm] at t6
  obtain ⟨o, hoo, hom⟩ := List.mem_map.mp pmem
  have hoi := (mem_ordersW.mp hoo).1.inv
  have t7 := q_sym (L := n) (by omega) (hw.numbered hoi)
  rw [(sym_numbered hw hoi).2, hom] at t7
  have t8 := p_count (L := n) (by omega) hw
  have t9 := p_count (L := n) (by omega) ho
  rw [sn2, show (w.numbered row).n = w.n from rfl] at t9
  have hpos := sym_pos hw
  have hmul : symN w w * (fac w.n / symN w w) = fac w.n := Nat.mul_div_cancel' (sym_dvd hw)
  have hp1 := hw.pos
  have he : (⟨w.n, []⟩ : Web).Ok := ⟨hw.pos, hw.le, .nil, fun p hp => nomatch hp⟩
  have t10 := q_sym (L := n) (by omega) he
  have t11 := q_sym (L := n) (by omega) he.contrary
  rw [sym_contrary he] at t11
  rw [sym_empty hp1 hw.le] at t10 t11
  have t12 := p_contrary (L := n) (by omega) (w := ⟨w.n, []⟩) (by show w.n ≤ 100; omega)
  have t13 := p_pieces (L := n) (by omega) hw
  have t14 := p_alike (L := n) (by omega) hw.le hw3.le
  have t15 := q_fits (L := n) (by omega) hw hw3
  have d1 : PyData.tuple [.int (w.n : Nat), .tuple []] = wbD ⟨w.n, []⟩ := rfl
  have r2 : rngD [.int 1, .int ((w.n + 1 : Nat) : Int)] = .ok ((List.range' 1 w.n).map nD) := rng_2 (a := 1) (b := w.n + 1) (by omega) (by omega)
  obtain ⟨ρ1, e1, y_number2, rfl⟩ := p_orders (n := n) (m := w.n) hw.le (y_script := y_script) (y_cell := some (.fz (.int c))) (y_picks := some (.fz (.list (fs.map nD)))) (y_web := some (.fz (wbD w))) (y_other := some (.fz (wbD (w.numbered row)))) (y_many := some (.fz (.int (symN w w : Nat)))) (y_number := y_number) (y_third := y_third)
  have sk : smallI ((symN w w : Nat) : Int) = true := by
    have h1 := symN_le (v := w) (w := w) rfl hw.le
    have key : ∀ k, k < 5041 → smallI ((k : Nat) : Int) = true := by decide +kernel
    exact key _ (by omega)
  have hal : (fitsAll w w3).isEmpty = decide (symN w w3 = 0) := by
    have := fitsAll_n hw hw3
    rw [Bool.eq_iff_iff, decide_eq_true_eq, List.isEmpty_iff, ← this, List.length_eq_zero_iff]
  rw [hal] at t14
  have sm2 : smallI 2 = true := by decide
  have hlt : ((symN w w3 : Nat) : Int) = 0 ↔ symN w w3 = 0 := by omega
  by_cases h4 : w.n < 4
  · have t16 := p_beside (L := n) (by omega) (v := w) (w := w) (by omega) (by have := hw.ties_len; omega) (by have := hw.ties_len; omega)
    have t17 := q_sym (L := n) (by omega) (hw.beside hw (by omega))
    by_cases hpc : (piecesA w.tied w.n (List.range w.n)).length = 1
    · have hb := sym_beside hw h4 hpc
      rw [fitsAll_n hw hw, fitsAll_n (hw.beside hw (by omega)) (hw.beside hw (by omega))] at hb
      rw [hb] at t17
      by_cases hz : symN w w3 = 0
      · simp? only [b_law_1, hdr, hweb, hweb3, ix0, c30, c40, hord, hnum, t1, t2, t3, t4, t5, t6, optD, t7, t8, t9, hmul, d1, t10, t11, t12, t13, t14, t15, t16, t17, r2, e1, sk, sm2, h4, hpc, hz]
        exact ⟨_, _, _, _, _, _, _, rfl⟩
      · simp? only [b_law_1, hdr, hweb, hweb3, ix0, c30, c40, hord, hnum, t1, t2, t3, t4, t5, t6, optD, t7, t8, t9, hmul, d1, t10, t11, t12, t13, t14, t15, t16, t17, r2, e1, sk, sm2, h4, hpc, hz]
        exact ⟨_, _, _, _, _, _, _, rfl⟩
    · by_cases hz : symN w w3 = 0
      · simp? only [b_law_1, hdr, hweb, hweb3, ix0, c30, c40, hord, hnum, t1, t2, t3, t4, t5, t6, optD, t7, t8, t9, hmul, d1, t10, t11, t12, t13, t14, t15, t16, t17, r2, e1, sk, sm2, h4, hpc, hz]
        exact ⟨_, _, _, _, _, _, _, rfl⟩
      · simp? only [b_law_1, hdr, hweb, hweb3, ix0, c30, c40, hord, hnum, t1, t2, t3, t4, t5, t6, optD, t7, t8, t9, hmul, d1, t10, t11, t12, t13, t14, t15, t16, t17, r2, e1, sk, sm2, h4, hpc, hz]
        exact ⟨_, _, _, _, _, _, _, rfl⟩
  · by_cases hz : symN w w3 = 0
    · simp? only [b_law_1, hdr, hweb, hweb3, ix0, c30, c40, hord, hnum, t1, t2, t3, t4, t5, t6, optD, t7, t8, t9, hmul, d1, t10, t11, t12, t14, t15, r2, e1, sk, sm2, h4, hz]
      exact ⟨_, _, _, _, _, _, _, rfl⟩
    · simp? only [b_law_1, hdr, hweb, hweb3, ix0, c30, c40, hord, hnum, t1, t2, t3, t4, t5, t6, optD, t7, t8, t9, hmul, d1, t10, t11, t12, t14, t15, r2, e1, sk, sm2, h4, hz]
      exact ⟨_, _, _, _, _, _, _, rfl⟩
theorem law_plain : ∀ ns : List Int, ns.length ≤ 63 → runF tb 230 f_law [.fz (.list (ns.map PyData.int))] = .ok (.fz (.bool true)) := fun ns hns => by
  rw [run_of tb_law rfl]
  obtain ⟨c, hc⟩ := p_cell_at (L := 229) (by decide) (ns := ns) (k := 0)
  simp only [Int.cast_ofNat_Int] at hc
  have bc : cut (ns.map PyData.int) (some 1) (some 4) = ((ns.take 4).drop 1).map PyData.int := by
    rw [cut_ft _ (by decide) (by decide), ← List.map_take, ← List.map_drop]
    rfl
  have hl : 1 + ((ns.take 4).drop 1).length ≤ lim := by
    rw [List.length_drop, List.length_take]
    show _ ≤ 1000000
    omega
  obtain ⟨ρ', e1, y_cell, y_picks, y_web, y_other, y_many, y_orders, y_number, y_third, h⟩ := forL_all (bnd := fun d ρ => .ok (ρ.set 1 (some (.fz d)))) (body := fun ρ1 => exs (runF tb 229) b_law_1 ρ1) (enc := PyData.int) (xs := c :: (ns.take 4).drop 1) (ρ0 := [some (.fz (.list (ns.map PyData.int))), none, none, none, none, none, none, none, none])
    (fun ρ => ∃ y_cell y_picks y_web y_other y_many y_orders y_number y_third : Option Vl, ρ = [some (.fz (.list (ns.map PyData.int))), y_cell, y_picks, y_web, y_other, y_many, y_orders, y_number, y_third]) ⟨_, _, _, _, _, _, _, _, rfl⟩ fun ρ x _ hI => by
    obtain ⟨y_cell, y_picks, y_web, y_other, y_many, y_orders, y_number, y_third, rfl⟩ := hI
    obtain ⟨z_picks, z_web, z_other, z_many, z_orders, z_number, z_third, h⟩ := law_turn (n := 229) (by decide) (c := x) (y_script := some (.fz (.list (ns.map PyData.int)))) (y_picks := y_picks) (y_web := y_web) (y_other := y_other) (y_many := y_many) (y_orders := y_orders) (y_number := y_number) (y_third := y_third)
    exact ⟨_, _, rfl, h, _, _, _, _, _, _, _, _, rfl⟩
  subst h
  simp only [List.map_cons] at e1
  simp? only [b_law, hc, bc, hl, e1]
end Wv
open PySem PySem.W PySem.Calls PyProof.Rows
theorem PySem.Challenge.cw_websworn_k08_whole_symmetries_holds : PySem.Challenge.rw_websworn_k08_whole_symmetries.Holds := by
  w_on; o_law
  refine HandSHeadRun.head_any (r := OpenLaw.row PySem.Challenge.rw_websworn_k08_whole_symmetries) (q := view (OpenLaw.row PySem.Challenge.rw_websworn_k08_whole_symmetries).prog [43]) (H := Wv.hk) (ob := Wv.ob) (M := 4000) (loose := Wv.loose) (d := HandSHeadRun.topDef (OpenLaw.row PySem.Challenge.rw_websworn_k08_whole_symmetries).prog 43) (kwd := []) Wv.ob_eq
    (by kernel_rfl) (fun s => by kernel_rfl) Wv.run (by kernel_rfl) (by kernel_rfl) (by kernel_rfl) (by rfl) (by first | assumption | decide +kernel) (by decide +kernel) ⟨rfl, rfl, rfl, rfl, rfl, by decide +kernel⟩ ?hw ?hc
  case hw => w_witness2
  case hc =>
    refine LamX.walk_ofTsE (l := PySem.Challenge.rw_websworn_k08_whole_symmetries) (n := 63) (k := 230) (x := "script") (CX := fun _ => Wv.CXa (PySem.Challenge.rw_websworn_k08_whole_symmetries).prog) rfl (by decide) (by kernel_rfl) ⟨rfl, by decide, by decide⟩ ?F fun _ => Wv.CXa.no
    intro w mg fa h Y G hmg0
    obtain ⟨K, KX, c⟩ := Y
    have hmg : mg ("law" : PySem.Str) = some (.ref fa) := by
      have e : (HandSHeadRun.topDef (OpenLaw.row PySem.Challenge.rw_websworn_k08_whole_symmetries).prog 43).name = ("law" : PySem.Str) := by kernel_rfl
      rw [← e]
      exact hmg0
    have ha : Wv.tabsApart Wv.tf K = true := by
      have cx := c.more
      simp only [Wv.ex, Bool.and_eq_true] at cx
      exact cx
    letI : Wv.Tbs := Wv.tbsOf Wv.tf K
    obtain ⟨fd, hb, hF⟩ := Wv.law_facts (P := (PySem.Challenge.rw_websworn_k08_whole_symmetries).prog) (w := w) KX G hmg c.t.d c.more
    refine ⟨K, KX, fd, Wv.tf.map (He.cT K), _, fun p hp => ?_, fun p hp => ?_, fun p hp => ?_, hb, fun H a ns hl _ hT hS => Wv.law_sp (by decide) Wv.law_plain H (Wv.tbs_nil hT) a ns hl hS, fun base _ _ hB => hF base (Wv.tabOk (fun p hp => hB _ (List.mem_map.mpr ⟨p, hp, rfl⟩)) (fun p hp => Wv.tbs_in hp) fun p hp => Wv.tbs_one ha hp)⟩
    · obtain ⟨r, hr, rfl⟩ := List.mem_map.mp hp
      exact c.empty r hr
    · obtain ⟨r, hr, rfl⟩ := List.mem_map.mp hp
      exact c.out r hr
    · obtain ⟨r, hr, rfl⟩ := List.mem_map.mp hp
      exact PySem.W.codeHd_of_K KX (c.hd r hr)
