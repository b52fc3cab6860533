import PyProof.Rows.All
import Wide.All
import OpenK.AllK
import Wide.FinOn
import HandS.Base
import HandS.Call
import HandS.List
import KE.SortData
import KE.DataMinMax
import HandS.Comp
import HandS.Iter
import HandS.Zip
import HandS.IsInst
import HandS.Style
import HandS.Wide
import HandS.TupAny
import HandS.TupMul
import HandS.SortInts
import HandS.Conv
import HandS.SetFor
import HandS.Exc
import HandS.ExcOwn
import HandS.TryOnly
import HandS.Ends
import HandS.Words
import HandS.WordsExc
import HandS.Defaults
import HandS.RevRange
import HandS.Strs
import HandS.TupSets
import KE.KRevSl
import KE.GoesZip
import KE.GoesMore
import KE.KDictZip
import KE.KDictItemsList
import HandS.OwnIter
import HandS.HeadHook4
import KE.KStateDown
import Lean
import HandS.More
import HandS.Head0
import HandS.Head1
import HandS.Head2
import HandS.HeadEnd
import HandS.HeadHook1
import HandS.HeadHook2
import PySem.Challenge.RW_bucketdata_k36_whole_fewest
-- C1
set_option Elab.async false
set_option linter.all false
set_option maxRecDepth 100000
/-! C1: the pure layer. Data trees D, a small language (Ex, St), its meaning (eval, exec), with no heap in sight. -/
namespace PL
open PySem

/-- what a value of the program is worth -/
inductive D where
  | non | bl (b : Bool) | int (i : Int) | str (x : Str)
  | tup (xs : List D) | lst (xs : List D) | scr (xs : List Int)
  | dct (ks : List Int) (vs : List D)
  | exc (c : Str) | fn (i : Nat)

inductive Res (α : Type) where
  | ok (a : α) | exn (c : Str) | bad
def Res.rb {α β : Type} : Res α → (α → Res β) → Res β
  | .ok a, f => f a
  | .exn c, _ => .exn c
  | .bad, _ => .bad
@[simp] theorem rb_ok {α β : Type} (a : α) (f : α → Res β) : (Res.ok a).rb f = f a := rfl
@[simp] theorem rb_exn {α β : Type} (c : Str) (f : α → Res β) : (Res.exn c : Res α).rb f = .exn c := rfl
@[simp] theorem rb_bad {α β : Type} (f : α → Res β) : (Res.bad : Res α).rb f = .bad := rfl
theorem rb_eq_ok {α β : Type} {r : Res α} {f : α → Res β} {b : β} (h : r.rb f = .ok b) : ∃ a, r = .ok a ∧ f a = .ok b := by
  cases r with
  | ok a => exact ⟨a, rfl, h⟩
  | exn c => cases h
  | bad => cases h

/-- nothing may be raised here -/
def Res.nox {α : Type} : Res α → Res α
  | .ok a => .ok a
  | _ => .bad
@[simp] theorem nox_ok {α : Type} (a : α) : (Res.ok a).nox = .ok a := rfl
theorem nox_eq {α : Type} {r : Res α} {a : α} (h : r.nox = .ok a) : r = .ok a := by
  cases r with
  | ok b => exact h
  | exn c => cases h
  | bad => cases h
inductive BOp where | add | sub | mul | fdiv | mod | pow
  deriving DecidableEq
inductive COp where | lt | le | gt | ge | eq | ne | is_ | isn | in_ | nin
  deriving DecidableEq
inductive Ty where | int | bool | str | list | tuple | exc (c : Str)
  deriving DecidableEq
inductive Bi where | len | sum | min | max | all | any | sorted | tuple | list | str | int
  deriving DecidableEq
inductive Me where | count | index | get | join | split
  deriving DecidableEq

mutual
inductive Tg where
  | nm (i : Nat)
  | tp (ts : Tgs)
inductive Tgs where
  | nil
  | cons (t : Tg) (ts : Tgs)
end

mutual
inductive Ex where
  | var (i : Nat)
  | con (d : D)
  | gl (x : Str) (d : D)
  | bin (o : BOp) (a b : Ex)
  | neg (a : Ex)
  | not (a : Ex)
  | cmp (o : COp) (a b : Ex)
  | chain (o p : COp) (a b c : Ex)
  | and (a b : Ex)
  | or (a b : Ex)
  | ife (c a b : Ex)
  | tup (es : Exs)
  | lst (es : Exs)
  | call (i : Nat) (fr : Bool) (es : Exs)
  | bi (b : Bi) (es : Exs)
  | isI (t : Ty) (e : Ex)
  | me (m : Me) (o : Ex) (es : Exs)
  | ix (a b : Ex)
  | sl (a : Ex) (lo hi : Eo)
  | rev (a : Ex)
  | sset (a : Ex)
  | lset (a : Ex)
  | rg (tp : Bool) (it : It)
  | comp (elt : Ex) (own : List Nat) (tg : Tg) (it : It) (cond : Eo)
inductive Exs where
  | nil
  | cons (e : Ex) (es : Exs)
inductive Eo where
  | no
  | so (e : Ex)
inductive It where
  | ex (e : Ex)
  | rng1 (a : Ex)
  | rng2 (a b : Ex)
  | rng3 (a b c : Ex)
  | zip2 (a b : Ex)
  | zip3 (a b c : Ex)
  | enum (a : Ex)
end

/-! ### operations on data -/
def sz : Nat := 16777216
def eqDI : D → Int → Bool
  | .int i, j => decide (i = j)
  | .bl a, j => (if a then 1 else 0) == j
  | _, _ => false
def eqDsI : List D → List Int → Bool
  | [], [] => true
  | x :: xs, y :: ys => eqDI x y && eqDsI xs ys
  | _, _ => false
mutual
def eqD : D → D → Bool
  | .non, .non => true
  | .bl a, .bl b => a == b
  | .bl a, .int j => (if a then 1 else 0) == j
  | .int i, .bl b => i == (if b then 1 else 0)
  | .int i, .int j => decide (i = j)
  | .str x, .str y => decide (x = y)
  | .lst xs, .lst ys => eqDs xs ys
  | .lst xs, .scr ys => eqDsI xs ys
  | .scr xs, .lst ys => eqDsI ys xs
  | .scr xs, .scr ys => decide (xs = ys)
  | .tup xs, .tup ys => eqDs xs ys
  | _, _ => false
def eqDs : List D → List D → Bool
  | [], [] => true
  | x :: xs, y :: ys => eqD x y && eqDs xs ys
  | _, _ => false
end
/-- data that may be compared by == -/
def dep : Nat := 60
mutual
def cmpb : Nat → D → Bool
  | _, .non => true
  | _, .bl _ => true
  | _, .int _ => true
  | _, .str x => PyData.strOk x
  | n + 1, .tup xs => cmpbs n xs
  | n + 1, .lst xs => cmpbs n xs
  | n + 1, .scr _ => true
  | _, _ => false
def cmpbs : Nat → List D → Bool
  | _, [] => true
  | n, x :: xs => cmpb n x && cmpbs n xs
end
mutual
/-- no list within -/
def flat : D → Bool
  | .non => true
  | .bl _ => true
  | .int _ => true
  | .str _ => true
  | .tup xs => flats xs
  | _ => false
def flats : List D → Bool
  | [] => true
  | x :: xs => flat x && flats xs
end
mutual
def toPy : D → PyData
  | .non => .none
  | .bl b => .bool b
  | .int i => .int i
  | .str x => .str x
  | .tup xs => .tuple (toPys xs)
  | .lst xs => .list (toPys xs)
  | .scr xs => .list (xs.map .int)
  | _ => .none
def toPys : List D → List PyData
  | [] => []
  | x :: xs => toPy x :: toPys xs
end
/-- data in order: alike, all nonempty tuples or none of them a tuple -/
def isTupN : D → Bool
  | .tup (_ :: _) => true
  | _ => false
def isPlain : D → Bool
  | .bl _ => true
  | .int _ => true
  | .str _ => true
  | .lst _ => true
  | .scr _ => true
  | _ => false
def alkD (xs : List D) : Bool := xs.all fun a => cmpb dep a && xs.all fun b => PySem.W.alike (toPy a) (toPy b)
def srtb (xs : List D) : Bool := alkD xs && (xs.all isTupN || xs.all isPlain)
def ltD (a b : D) : Bool := PySem.W.dataLt (toPy a) (toPy b)
def minDD (x : D) (xs : List D) : D := xs.foldl (fun a y => if ltD y a then y else a) x
/-- no object at all -/
def atom : D → Bool
  | .non => true
  | .bl _ => true
  | .int _ => true
  | .str _ => true
  | _ => false

def small (i : Int) : Bool := decide (-(2 ^ 64) < i) && decide (i < 2 ^ 64)
def okL (xs : List D) : Res D := if xs.length ≤ sz then .ok (.lst xs) else .bad
def okT (xs : List D) : Res D := if xs.length ≤ sz then .ok (.tup xs) else .bad
def repD (k : Nat) (xs : List D) : List D := (List.replicate k xs).flatten

def addF : D → D → Res D
  | .int a, .int b => .ok (.int (a + b))
  | .lst a, .lst b => okL (a ++ b)
  | .tup a, .tup b => okT (a ++ b)
  | .str a, .str b => if decide (a.length + b.length ≤ sz) then .ok (.str (a ++ b)) else .bad
  | _, _ => .bad
def subF : D → D → Res D
  | .int a, .int b => .ok (.int (a - b))
  | _, _ => .bad
def mulF : D → D → Res D
  | .int a, .int b => if small a || small b then .ok (.int (a * b)) else .bad
  | .lst a, .int k => if decide (-(2 ^ 62) ≤ k) && decide (k < 2 ^ 62) && decide (a.length * k.toNat ≤ sz) then .ok (.lst (repD k.toNat a)) else .bad
  | .tup a, .int k => if (!a.isEmpty) && decide (2 ≤ k) && decide (k ≤ 1000) && decide (a.length ≤ 1000) then .ok (.tup (repD k.toNat a)) else .bad
  | _, _ => .bad
def fdivF : D → D → Res D
  | .int a, .int b => if decide (0 < b) && decide (b < 2 ^ 64) then .ok (.int (a / b)) else .bad
  | _, _ => .bad
def modF : D → D → Res D
  | .int a, .int b => if decide (0 < b) then .ok (.int (a % b)) else .bad
  | _, _ => .bad
def powF : D → D → Res D
  | .int a, .int b => if decide (0 ≤ b) && decide (b ≤ 64) && small a then .ok (.int (a ^ b.toNat)) else .bad
  | _, _ => .bad
def binF : BOp → D → D → Res D
  | .add => addF
  | .sub => subF
  | .mul => mulF
  | .fdiv => fdivF
  | .mod => modF
  | .pow => powF

def anyEq (x : D) : List D → Bool
  | [] => false
  | y :: ys => eqD y x || anyEq x ys
def ordF (p : Int → Int → Bool) : D → D → Res D
  | .int a, .int b => .ok (.bl (p a b))
  | _, _ => .bad
def eqF (ng : Bool) (a b : D) : Res D := if cmpb dep a && cmpb dep b then .ok (.bl (if ng then !eqD a b else eqD a b)) else .bad
def isNon : D → Bool
  | .non => true
  | _ => false
def isoF (ng : Bool) : D → D → Res D
  | a, .non => .ok (.bl (if ng then !isNon a else isNon a))
  | .bl a, .bl b => .ok (.bl (if ng then !decide (a = b) else decide (a = b)))
  | _, _ => .bad
def inF (ng : Bool) : D → D → Res D
  | x, .lst ys => if atom x && ys.all atom then .ok (.bl (if ng then !anyEq x ys else anyEq x ys)) else .bad
  | x, .tup ys => if atom x && ys.all atom then .ok (.bl (if ng then !anyEq x ys else anyEq x ys)) else .bad
  | _, _ => .bad
def cmpF : COp → D → D → Res D
  | .lt => ordF fun a b => decide (a < b)
  | .le => ordF fun a b => decide (a ≤ b)
  | .gt => ordF fun a b => decide (b < a)
  | .ge => ordF fun a b => decide (b ≤ a)
  | .eq => eqF false
  | .ne => eqF true
  | .is_ => isoF false
  | .isn => isoF true
  | .in_ => inF false
  | .nin => inF true

/-- all ints; all bools -/
def intsD : List D → Option (List Int)
  | [] => some []
  | .int i :: r => (intsD r).map (i :: ·)
  | _ :: _ => none
def boolsD : List D → Option (List Bool)
  | [] => some []
  | .bl i :: r => (boolsD r).map (i :: ·)
  | _ :: _ => none
def ofO {α : Type} : Option α → Res α
  | some a => .ok a
  | none => .bad
@[simp] theorem ofO_some {α : Type} (a : α) : ofO (some a) = .ok a := rfl
@[simp] theorem ofO_none {α : Type} : ofO (none : Option α) = .bad := rfl
/-- the items of a list or a tuple -/
def seqD : D → Res (List D)
  | .lst xs => .ok xs
  | .tup xs => .ok xs
  | _ => .bad

/-- an order of data: intsD, tuples of such, by Python's lexicographic order; none where it isn't told -/
def insI (x : Int) : List Int → List Int
  | [] => [x]
  | y :: ys => if x ≤ y then x :: y :: ys else y :: insI x ys
def sortI : List Int → List Int
  | [] => []
  | x :: xs => insI x (sortI xs)
def consD (x : Int) : List Int → List Int
  | [] => [x]
  | y :: ys => if x = y then y :: ys else x :: y :: ys
def dedI : List Int → List Int
  | [] => []
  | x :: xs => consD x (dedI xs)
def minI : Int → List Int → Int
  | m, [] => m
  | m, x :: xs => minI (if x < m then x else m) xs
def maxI : Int → List Int → Int
  | m, [] => m
  | m, x :: xs => maxI (if m < x then x else m) xs

def lenF : D → Res D
  | .lst xs => .ok (.int xs.length)
  | .tup xs => .ok (.int xs.length)
  | .scr xs => .ok (.int xs.length)
  | .str x => if decide (x.length ≤ sz) then .ok (.int x.length) else .bad
  | _ => .bad
def intsOf (d : D) : Res (List Int) := (seqD d).rb fun xs => ofO (intsD xs)
def lstOf : D → Res (List D)
  | .lst xs => .ok xs
  | _ => .bad
def minF : List Int → Res D
  | [] => .bad
  | n :: ns => .ok (.int (minI n ns))
def minE : List D → Res D
  | [] => .bad
  | x :: xs => if srtb (x :: xs) then .ok (minDD x xs) else .bad
def minA (xs : List D) : Res D := match intsD xs with
  | some ns => minF ns
  | none => minE xs
def sortA (xs : List D) : Res D := match intsD xs with
  | some ns => .ok (.lst ((sortI ns).map .int))
  | none => if srtb xs then .ok (.lst (xs.mergeSort fun a b => !ltD b a)) else .bad
/-- pairs of few ints from 0 on, coded -/
def pB : Int := 1048576
def pairsD : List D → Option (List Int)
  | [] => some []
  | .tup [.int x, .int y] :: r => if 0 ≤ x ∧ x < pB ∧ 0 ≤ y ∧ y < pB then (pairsD r).map fun l => (x * pB + y) :: l else none
  | _ :: _ => none
def unpair (c : Int) : D := .tup [.int (c / pB), .int (c % pB)]
def maxF : List Int → Res D
  | [] => .bad
  | n :: ns => .ok (.int (maxI n ns))
def tupF : D → Res D
  | .lst xs => .ok (.tup xs)
  | .tup xs => .ok (.tup xs)
  | _ => .bad
def lstF : D → Res D
  | .lst xs => .ok (.lst xs)
  | .tup xs => .ok (.lst xs)
  | _ => .bad
def min2F : D → D → Res D
  | .int a, .int b => .ok (.int (if b < a then b else a))
  | _, _ => .bad
def max2F : D → D → Res D
  | .int a, .int b => .ok (.int (if b > a then b else a))
  | _, _ => .bad
def bi1 : Bi → D → Res D
  | .len, a => lenF a
  | .sum, a => (intsOf a).rb fun ns => .ok (.int ns.sum)
  | .min, a => (seqD a).rb minA
  | .max, a => (intsOf a).rb maxF
  | .all, a => (lstOf a).rb fun xs => (ofO (boolsD xs)).rb fun bs => .ok (.bl (bs.all id))
  | .any, a => (lstOf a).rb fun xs => (ofO (boolsD xs)).rb fun bs => .ok (.bl (bs.any id))
  | .sorted, a => (lstOf a).rb sortA
  | .tuple, a => tupF a
  | .list, a => lstF a
  | .str, _ => .bad
  | .int, _ => .bad
def bi2 : Bi → D → D → Res D
  | .min, a, b => min2F a b
  | .max, a, b => max2F a b
  | _, _, _ => .bad
def biF : Bi → List D → Res D
  | b, [a] => bi1 b a
  | b, [a, c] => bi2 b a c
  | _, _ => .bad

def isF : Ty → D → Res Bool
  | .int, .int _ => .ok true
  | .int, .bl _ => .ok true
  | .bool, .bl _ => .ok true
  | .str, .str _ => .ok true
  | .list, .lst _ => .ok true
  | .list, .scr _ => .bad
  | .tuple, .tup _ => .ok true
  | .exc _, _ => .bad
  | _, .scr _ => .bad
  | _, .exc _ => .bad
  | _, .fn _ => .bad
  | _, .dct _ _ => .bad
  | _, _ => .ok false

def countD (x : D) : List D → Nat
  | [] => 0
  | y :: ys => (if eqD y x then 1 else 0) + countD x ys
def indexD (x : D) : List D → Option Nat
  | [] => none
  | y :: ys => if eqD y x then some 0 else (indexD x ys).map (· + 1)
def meF : Me → D → List D → Res D
  | .count, .lst xs, [x] => if atom x && xs.all atom then .ok (.int (countD x xs)) else .bad
  | .index, .lst xs, [x] => if atom x && xs.all atom then (ofO (indexD x xs)).rb fun i => .ok (.int i) else .bad
  | _, _, _ => .bad

/-- the receiver of a method is of its type -/
def recv : Me → D → Res Unit
  | .count, .lst _ => .ok ()
  | .index, .lst _ => .ok ()
  | .get, .dct _ _ => .ok ()
  | .join, .str _ => .ok ()
  | .split, .str _ => .ok ()
  | _, _ => .bad
def ixF : D → D → Res D
  | .lst xs, .int i => ofO (L2.atI xs i)
  | .tup xs, .int i => ofO (L2.atI xs i)
  | .scr xs, .int i => (ofO (L2.atI xs i)).rb fun n => .ok (.int n)
  | _, _ => .bad
def cut {α : Type} (xs : List α) (lo hi : Option Int) : List α := (xs.drop (HT.sIx xs.length 0 lo)).take (HT.sIx xs.length xs.length hi - HT.sIx xs.length 0 lo)
def slF : D → Option Int → Option Int → Res D
  | .lst xs, lo, hi => .ok (.lst (cut xs lo hi))
  | .tup xs, lo, hi => .ok (.tup (cut xs lo hi))
  | _, _, _ => .bad
def revF : D → Res D
  | .lst xs => .ok (.lst xs.reverse)
  | .tup xs => .ok (.tup xs.reverse)
  | _ => .bad
/-- sorted(set(..)) of intsD -/
def ssI (ns : List Int) : Res D := if ns.length < 4000 ∧ (dedI (sortI ns)).length < 60 then .ok (.lst ((dedI (sortI ns)).map .int)) else .bad
def ssP (cs : List Int) : Res D := if cs.length < 64 then .ok (.lst ((dedI (sortI cs)).map unpair)) else .bad
def ssF (d : D) : Res D := (seqD d).rb fun xs => match intsD xs with
  | some ns => ssI ns
  | none => match d with
    | .lst _ => (ofO (pairsD xs)).rb ssP
    | _ => .bad
def lsF (d : D) : Res D := (seqD d).rb fun xs => (ofO (intsD xs)).rb fun ns => if ns.length < 4000 then .ok (.int (dedI (sortI ns)).length) else .bad
/-- a range -/
def rngN : Nat → Int → Int → List D
  | 0, _, _ => []
  | n + 1, lo, st => .int lo :: rngN n (lo + st) st
def small62 (i : Int) : Bool := decide (-(2 ^ 60) ≤ i) && decide (i < 2 ^ 60)
def rngF (lo hi : Int) : Res (List D) := if small62 lo && small62 hi then .ok (rngN (hi - lo).toNat lo 1) else .bad
def stepN (lo hi st : Int) : Nat := if 0 < st then ((hi - lo + st - 1) / st).toNat else if st < 0 then ((lo - hi + -st - 1) / -st).toNat else 0
/-- a range with a step: downwards by one -/
def rngF3 (lo hi st : Int) : Res (List D) := if small62 lo && small62 hi && decide (st = -1) then .ok (rngN (lo - hi).toNat lo st) else .bad
def zip2 : List D → List D → List D
  | x :: xs, y :: ys => .tup [x, y] :: zip2 xs ys
  | _, _ => []
def zip3 : List D → List D → List D → List D
  | x :: xs, y :: ys, z :: zs => .tup [x, y, z] :: zip3 xs ys zs
  | _, _, _ => []
def enumF : Nat → List D → List D
  | _, [] => []
  | n, x :: xs => .tup [.int n, x] :: enumF (n + 1) xs
/-- zip of two things, each a list or a tuple -/
def zipF : D → D → Res (List D)
  | .lst xs, .lst ys => .ok (zip2 xs ys)
  | .tup xs, .tup ys => .ok (zip2 xs ys)
  | .lst xs, .tup ys => .ok (zip2 xs ys)
  | .tup xs, .lst ys => .ok (zip2 xs ys)
  | _, _ => .bad
/-- what a for walks -/
def walkF : D → Res (List D)
  | .lst xs => .ok xs
  | .tup xs => .ok xs
  | _ => .bad
def asInt : D → Res Int
  | .int i => .ok i
  | _ => .bad
def asBl : D → Res Bool
  | .bl b => .ok b
  | _ => .bad
@[simp] theorem asInt_int (i : Int) : asInt (.int i) = .ok i := rfl
@[simp] theorem asBl_bl (i : Bool) : asBl (.bl i) = .ok i := rfl

/-! ### the meaning of expressions -/
abbrev Ev := List (Option D)
abbrev Phi := Nat → List D → Res D
mutual
def bindT : Tg → D → Ev → Res Ev
  | .nm i, d, env => .ok (env.set i (some d))
  | .tp ts, .tup xs, env => bindTs ts xs env
  | .tp _, _, _ => .bad
def bindTs : Tgs → List D → Ev → Res Ev
  | .nil, [], env => .ok env
  | .cons t ts, x :: xs, env => (bindT t x env).rb fun e => bindTs ts xs e
  | _, _, _ => .bad
end
def wipeE : List Nat → Ev → Ev
  | [], env => env
  | i :: l, env => (wipeE l env).set i none
def compF (step : D → Res (Option D)) : List D → Res (List D)
  | [] => .ok []
  | x :: xs => (step x).rb fun o => (compF step xs).rb fun ys => match o with
    | some y => .ok (y :: ys)
    | none => .ok ys
def oneD : Res D → Res (Option D)
  | .ok d => .ok (some d)
  | .exn c => .exn c
  | .bad => .bad
@[simp] theorem oneD_ok (d : D) : oneD (.ok d) = .ok (some d) := rfl

variable (φ : Phi)
mutual
def eval : Ex → Ev → Res D
  | .var i, env => match env[i]? with
    | some (some d) => .ok d
    | _ => .bad
  | .con d, _ => .ok d
  | .gl _ d, _ => .ok d
  | .bin o a b, env => (eval a env).rb fun x => (eval b env).rb fun y => binF o x y
  | .neg a, env => (eval a env).rb fun x => (asInt x).rb fun i => .ok (.int (-i))
  | .not a, env => (eval a env).rb fun x => (asBl x).rb fun b => .ok (.bl (!b))
  | .cmp o a b, env => (eval a env).rb fun x => (eval b env).rb fun y => cmpF o x y
  | .chain o p a b c, env => (eval a env).rb fun x => (eval b env).rb fun y => (cmpF o x y).rb fun r => (asBl r).rb fun t =>
    if t then (eval c env).rb fun z => cmpF p y z else .ok (.bl false)
  | .and a b, env => (eval a env).rb fun x => (asBl x).rb fun t => if t then eval b env else .ok (.bl false)
  | .or a b, env => (eval a env).rb fun x => (asBl x).rb fun t => if t then .ok (.bl true) else eval b env
  | .ife c a b, env => (eval c env).rb fun x => (asBl x).rb fun t => if t then eval a env else eval b env
  | .tup es, env => (evals es env).rb fun xs => okT xs
  | .lst es, env => (evals es env).rb fun xs => okL xs
  | .call i _ es, env => (evals es env).rb fun xs => φ i xs
  | .bi b es, env => (evals es env).rb fun xs => biF b xs
  | .isI t e, env => (eval e env).rb fun x => (isF t x).rb fun b => .ok (.bl b)
  | .me m o es, env => (eval o env).rb fun x => (recv m x).rb fun _ => (evals es env).rb fun xs => meF m x xs
  | .ix a b, env => (eval a env).rb fun x => (eval b env).rb fun y => ixF x y
  | .sl a lo hi, env => (eval a env).rb fun x => (evalo lo env).rb fun l => (evalo hi env).rb fun h => slF x l h
  | .rev a, env => (eval a env).rb fun x => revF x
  | .sset a, env => (eval a env).rb fun x => ssF x
  | .lset a, env => (eval a env).rb fun x => lsF x
  | .rg tp it, env => (evalI it env).rb fun xs => if xs.length ≤ 1000000 then .ok (if tp then .tup xs else .lst xs) else .bad
  | .comp elt own tg it cond, env => (evalI it env).rb fun ds => (compF (fun d => (bindT tg d (wipeE own env)).rb fun e1 => (evalc cond e1).rb fun t =>
      if t then oneD (eval elt e1) else .ok none) ds).nox.rb fun xs => okL xs
def evals : Exs → Ev → Res (List D)
  | .nil, _ => .ok []
  | .cons e es, env => (eval e env).rb fun x => (evals es env).rb fun xs => .ok (x :: xs)
def evalo : Eo → Ev → Res (Option Int)
  | .no, _ => .ok none
  | .so e, env => (eval e env).rb fun x => (asInt x).rb fun i => .ok (some i)
def evalc : Eo → Ev → Res Bool
  | .no, _ => .ok true
  | .so e, env => (eval e env).rb fun x => asBl x
def evalI : It → Ev → Res (List D)
  | .ex e, env => (eval e env).rb fun x => walkF x
  | .rng1 a, env => (eval a env).rb fun x => (asInt x).rb fun i => rngF 0 i
  | .rng2 a b, env => (eval a env).rb fun x => (asInt x).rb fun i => (eval b env).rb fun y => (asInt y).rb fun j => rngF i j
  | .rng3 a b c, env => (eval a env).rb fun x => (asInt x).rb fun i => (eval b env).rb fun y => (asInt y).rb fun j => (eval c env).rb fun z => (asInt z).rb fun k => rngF3 i j k
  | .zip2 a b, env => (eval a env).rb fun x => (eval b env).rb fun y => zipF x y
  | .zip3 a b c, env => (eval a env).rb fun x => (eval b env).rb fun y => (eval c env).rb fun z => (seqD x).rb fun xs => (seqD y).rb fun ys => (seqD z).rb fun zs => .ok (zip3 xs ys zs)
  | .enum a, env => (eval a env).rb fun x => (seqD x).rb fun xs => .ok (enumF 0 xs)
end

/-- new lists: what such an expression gives, if it is a list, no one else holds -/
def fresh : Ex → Bool
  | .lst _ => true
  | .comp .. => true
  | .call _ fr _ => fr
  | .bin .add _ _ => true
  | .bin .mul _ _ => true
  | .bi .sorted _ => true
  | .bi .list _ => true
  | .sl .. => true
  | .rev _ => true
  | .sset _ => true
  | .rg .. => true
  | .ife _ a b => fresh a && fresh b
  | _ => false

/-! ### statements -/
mutual
inductive St where
  | asg (fl ow : Bool) (tg : Tg) (e : Ex)
  | par (ts : List (Nat × Bool)) (es : Exs)
  | ex (e : Ex)
  | app (fl : Bool) (i : Nat) (e : Ex)
  | ext (fl : Bool) (i : Nat) (e : Ex)
  | set (i : Nat) (k e : Ex)
  | ret (e : Ex)
  | retN
  | ite (c : Ex) (a b : Sts)
  | for_ (tg : Tg) (it : It) (body : Sts) (kill : List Nat)
  | forR (tg : Tg) (it : It) (body : Sts) (kill : List Nat)
  | whl (n : Nat) (c : Ex) (body : Sts) (kill : List Nat)
  | brk
  | cnt
  | pass
  | raise (c : Str)
  | share (l : List Nat)
inductive Sts where
  | nil
  | cons (s : St) (r : Sts)
end
inductive Sl where
  | no
  | sh (d : D)
  | own (xs : List D)
abbrev SE := List Sl
def Sl.vw : Sl → Option D
  | .no => none
  | .sh d => some d
  | .own xs => some (.lst xs)
def Sl.fg : Sl → Option D
  | .no => none
  | .sh d => some d
  | .own _ => none
def Sl.share : Sl → Sl
  | .own xs => .sh (.lst xs)
  | s => s
inductive Out where
  | nx (e : SE) | ret (d : D) (fr : Bool) | bk (e : SE) | ct (e : SE) | ex (c : Str) (e : SE) | bad
def kl : List Nat → SE → SE
  | [], env => env
  | i :: l, env => kl l (env.set i .no)
def shareL : List Nat → SE → SE
  | [], env => env
  | i :: l, env => shareL l (env.set i (match env[i]? with | some s => s.share | none => .no))
def Res.ou {α : Type} (env : SE) : Res α → (α → Out) → Out
  | .ok a, f => f a
  | .exn c, _ => .ex c env
  | .bad, _ => .bad
@[simp] theorem ou_ok {α : Type} (env : SE) (a : α) (f : α → Out) : (Res.ok a).ou env f = f a := rfl
@[simp] theorem ou_exn {α : Type} (env : SE) (c : Str) (f : α → Out) : (Res.exn c : Res α).ou env f = .ex c env := rfl
@[simp] theorem ou_bad {α : Type} (env : SE) (f : α → Out) : (Res.bad : Res α).ou env f = .bad := rfl
def Out.th (o : Out) (f : SE → Out) : Out := match o with
  | .nx e => f e
  | o => o
@[simp] theorem th_nx (e : SE) (f : SE → Out) : (Out.nx e).th f = f e := rfl
@[simp] theorem th_ret (d : D) (b : Bool) (f : SE → Out) : (Out.ret d b).th f = .ret d b := rfl
@[simp] theorem th_bk (e : SE) (f : SE → Out) : (Out.bk e).th f = .bk e := rfl
@[simp] theorem th_ct (e : SE) (f : SE → Out) : (Out.ct e).th f = .ct e := rfl
@[simp] theorem th_ex (c : Str) (e : SE) (f : SE → Out) : (Out.ex c e).th f = .ex c e := rfl
@[simp] theorem th_bad (f : SE → Out) : Out.bad.th f = .bad := rfl
/-- evaluation for storing: with the owned lists hidden, or seen and the result without lists -/
def evalS (fl : Bool) (e : Ex) (env : SE) : Res D := if fl then (eval φ e (env.map Sl.vw)).rb fun d => if flat d then .ok d else .bad else eval φ e (env.map Sl.fg)
mutual
def bindS : Tg → D → SE → Res SE
  | .nm i, d, env => .ok (env.set i (.sh d))
  | .tp ts, .tup xs, env => bindSs ts xs env
  | .tp _, _, _ => .bad
def bindSs : Tgs → List D → SE → Res SE
  | .nil, [], env => .ok env
  | .cons t ts, x :: xs, env => (bindS t x env).rb fun e => bindSs ts xs e
  | _, _, _ => .bad
end
def mkS (ow : Bool) (d : D) : Res Sl := if ow then match d with
  | .lst xs => .ok (.own xs)
  | _ => .bad
  else .ok (.sh d)
def storeP : List (Nat × Bool) → List D → SE → Res SE
  | [], [], env => .ok env
  | (i, ow) :: ts, d :: ds, env => (mkS ow d).rb fun s => storeP ts ds (env.set i s)
  | _, _, _ => .bad
def freshP : List (Nat × Bool) → Exs → Bool
  | [], _ => true
  | (_, ow) :: ts, .cons e es => (!ow || fresh e) && freshP ts es
  | _ :: _, .nil => false
def ownAt (env : SE) (i : Nat) : Option (List D) := match env[i]? with
  | some (.own xs) => some xs
  | _ => none
def isOwn (env : SE) : Ex → Bool
  | .var i => (ownAt env i).isSome
  | _ => false
def loopF (step : D → SE → Out) (kill : List Nat) : List D → SE → Out
  | [], env => .nx env
  | d :: ds, env => match step d env with
    | .nx e => loopF step kill ds (kl kill e)
    | .ct e => loopF step kill ds (kl kill e)
    | .bk e => .nx (kl kill e)
    | o => o
def whileF (test : SE → Res Bool) (step : SE → Out) (kill : List Nat) : Nat → SE → Out
  | 0, _ => .bad
  | n + 1, env => (test env).ou env fun t => if t then (match step env with
    | .nx e => whileF test step kill n (kl kill e)
    | .ct e => whileF test step kill n (kl kill e)
    | .bk e => .nx (kl kill e)
    | o => o) else .nx env
def isRng : It → Bool
  | .rng1 _ => true
  | .rng2 .. => true
  | .rng3 .. => true
  | _ => false
mutual
def exec : St → SE → Out
  | .asg fl ow tg e, env => (evalS φ fl e env).ou env fun d => if ow then (match tg with
      | .nm i => if fresh e then (mkS true d).ou env fun s => .nx (env.set i s) else .bad
      | .tp _ => .bad)
    else (bindS tg d env).ou env .nx
  | .par ts es, env => if freshP ts es then (evals φ es (env.map Sl.fg)).ou env fun ds => (storeP ts ds env).ou env .nx else .bad
  | .ex e, env => (eval φ e (env.map Sl.vw)).ou env fun _ => .nx env
  | .app fl i e, env => (ofO (ownAt env i)).ou env fun xs => (evalS φ fl e env).ou env fun d => if xs.length < sz then .nx (env.set i (.own (xs ++ [d]))) else .bad
  | .ext fl i e, env => (ofO (ownAt env i)).ou env fun xs => (evalS φ fl e env).ou env fun d => match d with
    | .lst ys => if xs.length + ys.length ≤ sz then .nx (env.set i (.own (xs ++ ys))) else .bad
    | _ => .bad
  | .set i k e, env => (ofO (ownAt env i)).ou env fun xs => (evalS φ true e env).ou env fun d => (eval φ k (env.map Sl.vw)).ou env fun x => (asInt x).ou env fun n =>
      match L2.ixN xs.length n with
      | some j => .nx (env.set i (.own (xs.set j d)))
      | none => .bad
  | .ret e, env => (eval φ e (env.map Sl.vw)).ou env fun d => .ret d (fresh e || isOwn env e)
  | .retN, _ => .ret .non false
  | .ite c a b, env => (eval φ c (env.map Sl.vw)).ou env fun x => (asBl x).ou env fun t => if t then execs a env else execs b env
  | .for_ tg it body kill, env => (evalI φ it (env.map Sl.fg)).ou env fun ds => loopF (fun d e => (bindS tg d e).ou e fun e1 => execs body e1) kill ds (kl kill env)
  | .forR tg it body kill, env => if isRng it then (evalI φ it (env.map Sl.vw)).ou env fun ds => loopF (fun d e => (bindS tg d e).ou e fun e1 => execs body e1) kill ds (kl kill env) else .bad
  | .whl n c body kill, env => whileF (fun e => (eval φ c (e.map Sl.vw)).rb asBl) (fun e => execs body e) kill n (kl kill env)
  | .brk, env => .bk env
  | .cnt, env => .ct env
  | .pass, env => .nx env
  | .raise c, env => .ex c env
  | .share l, env => .nx (shareL l env)
def execs : Sts → SE → Out
  | .nil, env => .nx env
  | .cons s r, env => (exec s env).th fun e => execs r e
end

/-! ### defs -/
structure FnD where
  name : Str
  names : List Str
  np : Nat
  fr : Bool
  body : Sts
def runFn (f : FnD) (as : List D) : Res D :=
  if as.length = f.np then match execs φ f.body (as.map .sh ++ List.replicate (f.names.length - as.length) .no) with
    | .ret d b => if f.fr && !b then .bad else .ok d
    | .nx _ => if f.fr then .bad else .ok .non
    | .ex c _ => .exn c
    | _ => .bad
  else .bad
def run (T : List FnD) : Nat → Phi
  | 0, _, _ => .bad
  | n + 1, i, as => match T[i]? with
    | some f => runFn (run T n) f as
    | none => .bad
end PL
-- C2
set_option Elab.async false
set_option linter.all false
set_option maxRecDepth 100000
set_option maxHeartbeats 2000000
/-! C2: data trees as they lie on the abstract heap; the operations of C1 by the hand layer's rules. -/
namespace PL
open PySem PySem.Spec PyProof.Rows L2

mutual
/-- d as it lies at v, its objects outside of M -/
def Rep (K : PySem.W.Frag) (H : Hp) (M : Addr → Prop) : D → V → Prop
  | .non, v => v = .non
  | .bl b, v => v = .bl b
  | .int i, v => v = .int i
  | .str x, v => v = .str x
  | .tup xs, v => ∃ a vs, v = .ref a ∧ ¬ M a ∧ H a = some (.tup vs) ∧ Reps K H M xs vs
  | .lst xs, v => ∃ a vs, v = .ref a ∧ ¬ M a ∧ H a = some (.lst vs) ∧ Reps K H M xs vs
  | .scr xs, v => ∃ a, v = .ref a ∧ ((∃ o, H a = some (.frz o (.lst (xs.map V.int)))) ∨ SqL K (fun _ => none) a (xs.map V.int))
  | .dct _ _, _ => False
  | .exc _, _ => False
  | .fn _, _ => False
def Reps (K : PySem.W.Frag) (H : Hp) (M : Addr → Prop) : List D → List V → Prop
  | [], vs => vs = []
  | d :: ds, vs => ∃ v r, vs = v :: r ∧ Rep K H M d v ∧ Reps K H M ds r
end
variable {K : PySem.W.Frag} {H H' H1 H2 : Hp} {M M' : Addr → Prop}
/-- what a step keeps: all outside of M; frozen things -/
structure Kp (M M' : Addr → Prop) (H H' : Hp) : Prop where
  out : ∀ a o, ¬ M a → H a = some o → H' a = some o ∧ ¬ M' a
  frz : ∀ a o u, H a = some (.frz o u) → H' a = some (.frz o u)
mutual
theorem Rep.go (k : Kp M M' H H') : ∀ (d : D) (v : V), Rep K H M d v → Rep K H' M' d v
  | .non, _, h => h
  | .bl _, _, h => h
  | .int _, _, h => h
  | .str _, _, h => h
  | .tup xs, _, h => by
    obtain ⟨a, vs, e, n, ha, hr⟩ := h
    obtain ⟨h1, h2⟩ := k.out a _ n ha
    exact ⟨a, vs, e, h2, h1, Reps.go k xs vs hr⟩
  | .lst xs, _, h => by
    obtain ⟨a, vs, e, n, ha, hr⟩ := h
    obtain ⟨h1, h2⟩ := k.out a _ n ha
    exact ⟨a, vs, e, h2, h1, Reps.go k xs vs hr⟩
  | .scr xs, _, h => by
    obtain ⟨a, e, h | h⟩ := h
    · obtain ⟨o, ho⟩ := h
      exact ⟨a, e, .inl ⟨o, k.frz a o _ ho⟩⟩
    · exact ⟨a, e, .inr h⟩
  | .dct _ _, _, h => h.elim
  | .exc _, _, h => h.elim
  | .fn _, _, h => h.elim
theorem Reps.go (k : Kp M M' H H') : ∀ (ds : List D) (vs : List V), Reps K H M ds vs → Reps K H' M' ds vs
  | [], _, h => h
  | d :: ds, _, h => by
    obtain ⟨v, r, e, h1, h2⟩ := h
    exact ⟨v, r, e, Rep.go k d v h1, Reps.go k ds r h2⟩
end
theorem Kp.same (s : Same H H') : Kp M M H H' := ⟨fun a o n h => ⟨s a o h, n⟩, fun a o u h => s a _ h⟩
theorem Rep.same {d : D} {v : V} (s : Same H H') (r : Rep K H M d v) : Rep K H' M d v := Rep.go (Kp.same s) d v r
theorem Reps.same {d : List D} {v : List V} (s : Same H H') (r : Reps K H M d v) : Reps K H' M d v := Reps.go (Kp.same s) d v r
theorem same_upd {p : Addr} {o : HO} (hp : H p = none) : Same H (upd H p o) := fun b u h => by rw [upd_ne (ne_of_none h hp)]; exact h
theorem Same.at {a : Addr} {o : HO} (s : Same H H') (h : H a = some o) : H' a = some o := s a o h
/-- the mask has only lists of the heap -/
def MOk (M : Addr → Prop) (H : Hp) : Prop := ∀ a, M a → ∃ vs, H a = some (.lst vs)
theorem MOk.same (m : MOk M H) (s : Same H H') : MOk M H' := fun a ha => by
  obtain ⟨vs, e⟩ := m a ha
  exact ⟨vs, s a _ e⟩
theorem MOk.new {p : Addr} (m : MOk M H) (hp : H p = none) : ¬ M p := fun h => by
  obtain ⟨vs, e⟩ := m p h
  rw [hp] at e; cases e

/-! ### lists of data -/
theorem Reps.length : ∀ {ds : List D} {vs : List V}, Reps K H M ds vs → vs.length = ds.length
  | [], _, h => by cases h; rfl
  | d :: ds, _, h => by
    obtain ⟨v, r, rfl, h1, h2⟩ := h
    simp [Reps.length h2]
theorem Reps.nil : Reps K H M [] [] := rfl
theorem Reps.cons {d : D} {v : V} {ds : List D} {vs : List V} (a : Rep K H M d v) (b : Reps K H M ds vs) : Reps K H M (d :: ds) (v :: vs) := ⟨v, vs, rfl, a, b⟩
theorem Reps.append : ∀ {ds es : List D} {vs ws : List V}, Reps K H M ds vs → Reps K H M es ws → Reps K H M (ds ++ es) (vs ++ ws)
  | [], _, _, _, h, g => by cases h; exact g
  | d :: ds, _, _, _, h, g => by
    obtain ⟨v, r, rfl, h1, h2⟩ := h
    exact Reps.cons h1 (Reps.append h2 g)
theorem Reps.get : ∀ {ds : List D} {vs : List V} {i : Nat} {d : D}, Reps K H M ds vs → ds[i]? = some d → ∃ v, vs[i]? = some v ∧ Rep K H M d v
  | [], _, _, _, _, e => by simp at e
  | d :: ds, _, 0, _, h, e => by
    obtain ⟨v, r, rfl, h1, h2⟩ := h
    simp at e; subst e
    exact ⟨v, rfl, h1⟩
  | d :: ds, _, i + 1, x, h, e => by
    obtain ⟨v, r, rfl, h1, h2⟩ := h
    obtain ⟨w, a, b⟩ := Reps.get (i := i) h2 (by simpa using e)
    exact ⟨w, by simpa using a, b⟩
theorem Reps.getV : ∀ {ds : List D} {vs : List V} {i : Nat} {v : V}, Reps K H M ds vs → vs[i]? = some v → ∃ d, ds[i]? = some d ∧ Rep K H M d v := fun {ds vs i v} r e => by
  have hl := r.length
  have hi : i < ds.length := by
    rcases Nat.lt_or_ge i ds.length with h | h
    · exact h
    · rw [List.getElem?_eq_none (by omega)] at e; cases e
  obtain ⟨w, a, b⟩ := r.get (List.getElem?_eq_getElem hi)
  rw [e] at a; cases a
  exact ⟨_, List.getElem?_eq_getElem hi, b⟩
theorem Reps.drop : ∀ {ds : List D} {vs : List V} (n : Nat), Reps K H M ds vs → Reps K H M (ds.drop n) (vs.drop n)
  | _, _, 0, h => h
  | [], _, _ + 1, h => by cases h; rfl
  | d :: ds, _, n + 1, h => by
    obtain ⟨v, r, rfl, h1, h2⟩ := h
    exact Reps.drop n h2
theorem Reps.take : ∀ {ds : List D} {vs : List V} (n : Nat), Reps K H M ds vs → Reps K H M (ds.take n) (vs.take n)
  | _, _, 0, _ => by simp [Reps]
  | [], _, _ + 1, h => by cases h; rfl
  | d :: ds, _, n + 1, h => by
    obtain ⟨v, r, rfl, h1, h2⟩ := h
    exact Reps.cons h1 (Reps.take n h2)
theorem Reps.set {d : D} {v : V} (x : Rep K H M d v) : ∀ {ds : List D} {vs : List V} (n : Nat), Reps K H M ds vs → Reps K H M (ds.set n d) (vs.set n v)
  | [], _, _, h => by cases h; exact rfl
  | e :: ds, _, 0, h => by
    obtain ⟨w, r, rfl, h1, h2⟩ := h
    exact Reps.cons x h2
  | e :: ds, _, n + 1, h => by
    obtain ⟨w, r, rfl, h1, h2⟩ := h
    exact Reps.cons h1 (Reps.set x n h2)
theorem Reps.rev {ds : List D} : ∀ {vs : List V}, Reps K H M ds vs → Reps K H M ds.reverse vs.reverse := by
  induction ds with
  | nil => intro vs h; cases h; exact rfl
  | cons d ds ih =>
    intro vs h
    obtain ⟨v, r, rfl, h1, h2⟩ := h
    rw [List.reverse_cons, List.reverse_cons]
    exact Reps.append (ih h2) (Reps.cons h1 Reps.nil)
theorem Reps.rep {ds : List D} {vs : List V} (h : Reps K H M ds vs) : ∀ k : Nat, Reps K H M (repD k ds) (List.replicate k vs).flatten
  | 0 => by simp [repD, Reps]
  | k + 1 => by
    unfold repD
    rw [List.replicate_succ, List.replicate_succ, List.flatten_cons, List.flatten_cons]
    exact Reps.append h (Reps.rep h k)
theorem Reps.ints {ds : List D} : ∀ {vs : List V} {ns : List Int}, Reps K H M ds vs → intsD ds = some ns → vs = ns.map V.int := by
  induction ds with
  | nil => intro vs ns h e; cases h; cases e; rfl
  | cons d ds ih =>
    intro vs ns h e
    obtain ⟨v, r, rfl, h1, h2⟩ := h
    cases d with
    | int i =>
      unfold intsD at e
      cases q : intsD ds with
      | none => rw [q] at e; cases e
      | some ms =>
        rw [q] at e; cases e
        cases h1
        rw [ih h2 q]; rfl
    | _ => cases e
theorem Reps.bools {ds : List D} : ∀ {vs : List V} {ns : List Bool}, Reps K H M ds vs → boolsD ds = some ns → vs = ns.map V.bl := by
  induction ds with
  | nil => intro vs ns h e; cases h; cases e; rfl
  | cons d ds ih =>
    intro vs ns h e
    obtain ⟨v, r, rfl, h1, h2⟩ := h
    cases d with
    | bl i =>
      unfold boolsD at e
      cases q : boolsD ds with
      | none => rw [q] at e; cases e
      | some ms =>
        rw [q] at e; cases e
        cases h1
        rw [ih h2 q]; rfl
    | _ => cases e
theorem reps_int : ∀ ns : List Int, Reps K H M (ns.map D.int) (ns.map V.int)
  | [] => rfl
  | n :: ns => Reps.cons rfl (reps_int ns)

/-! ### what an expression leaves -/
/-- the value is a new list, its items apart from it -/
def Fr (K : PySem.W.Frag) (H H' : Hp) (M : Addr → Prop) (d : D) (v : V) : Prop :=
  ∀ xs, d = .lst xs → ∃ a vs, v = .ref a ∧ H a = none ∧ H' a = some (.lst vs) ∧ Reps K H' (fun b => M b ∨ b = a) xs vs
def Vl (K : PySem.W.Frag) (M : Addr → Prop) (H : Hp) (Q : VK) (fr : Bool) (d : D) : Prop :=
  ∀ v H', Same H H' → Rep K H' M d v → (fr = true → Fr K H H' M d v) → Q v H'
theorem Vl.imp {Q : VK} {d : D} (h : Vl K M H Q false d) (fr : Bool) : Vl K M H Q fr d := fun v H' s r _ => h v H' s r (fun z => nomatch z)
/-- scalars -/
theorem Vl.sc {Q : VK} {fr : Bool} {d : D} {v : V} (h : Vl K M H Q fr d) (r : Rep K H M d v) (n : ∀ xs, d ≠ .lst xs) : Q v H := h v H (Same.refl H) r fun _ xs e => absurd e (n xs)
theorem Vl.ref {Q : VK} {d : D} {v : V} (h : Vl K M H Q false d) (r : Rep K H M d v) : Q v H := h v H (Same.refl H) r fun z => nomatch z
theorem Kp.new {p : Addr} {o : HO} (hp : H p = none) : Kp M (fun b => M b ∨ b = p) H (upd H p o) :=
  ⟨fun a u n h => ⟨same_upd hp a u h, fun z => z.elim n fun e => ne_of_none h hp e⟩, fun a u w h => same_upd hp a _ h⟩
theorem Vl.newL {Q : VK} {fr : Bool} {xs : List D} {vs : List V} {p : Addr} (h : Vl K M H Q fr (.lst xs)) (m : MOk M H) (hp : H p = none) (r : Reps K H M xs vs) : Q (.ref p) (upd H p (.lst vs)) :=
  h (.ref p) _ (same_upd hp) ⟨p, vs, rfl, m.new hp, upd_same, r.same (same_upd hp)⟩ fun _ ys e => by
    cases e
    exact ⟨p, vs, rfl, hp, upd_same, Reps.go (Kp.new hp) xs vs r⟩
theorem Vl.newT {Q : VK} {fr : Bool} {xs : List D} {vs : List V} {p : Addr} (h : Vl K M H Q fr (.tup xs)) (m : MOk M H) (hp : H p = none) (r : Reps K H M xs vs) : Q (.ref p) (upd H p (.tup vs)) :=
  h (.ref p) _ (same_upd hp) ⟨p, vs, rfl, m.new hp, upd_same, r.same (same_upd hp)⟩ fun _ ys e => by cases e
/-- a later heap -/
theorem Vl.later {Q : VK} {fr : Bool} {d : D} (h : Vl K M H Q fr d) (s : Same H H1) : Vl K M H1 Q fr d := fun v H' s' r f => h v H' (s.trans s') r fun z xs e => by
  obtain ⟨a, vs, e1, e2, e3, e4⟩ := f z xs e
  exact ⟨a, vs, e1, s.free e2, e3, e4⟩

/-! ### operators -/
/-- an operation by data: g of the two data -/
def rD (K : PySem.W.Frag) (fr : Bool) (g : D → D → Res D) : R2 := fun x y H Q => ∃ M dx dy d, MOk M H ∧ Rep K H M dx x ∧ Rep K H M dy y ∧ g dx dy = .ok d ∧ Vl K M H Q fr d
theorem sz_eq : (sz : Nat) = sizeLine := by rw [sizeLine_eq]; rfl
section
variable {X : Cx}
theorem okL_ok {xs : List D} {d : D} (h : okL xs = .ok d) : d = .lst xs ∧ xs.length ≤ sizeLine := by
  unfold okL at h
  split at h
  · cases h; rename_i q; exact ⟨rfl, by rw [← sz_eq]; exact q⟩
  · cases h
theorem okT_ok {xs : List D} {d : D} (h : okT xs = .ok d) : d = .tup xs ∧ xs.length ≤ sizeLine := by
  unfold okT at h
  split at h
  · cases h; rename_i q; exact ⟨rfl, by rw [← sz_eq]; exact q⟩
  · cases h
theorem ite_ok {c : Bool} {d d' : D} (h : (if c = true then Res.ok d else .bad) = .ok d') : c = true ∧ d = d' := by
  cases c with
  | true => exact ⟨rfl, by simpa using h⟩
  | false => simp at h
theorem sqt {a : Addr} {vs : List V} (h : H a = some (.tup vs)) : SqT K H a vs := SqT.of h
theorem or_add : OpR X (binaryOp .Add) (rD X.K true addF) := by
  intro pins s σ H x y v u Q I rx ry h
  obtain ⟨M, dx, dy, d, m, hx, hy, e, q⟩ := h
  unfold addF at e
  split at e
  · cases e
    cases hx; cases hy
    exact op_add pins s σ H _ _ v u Q I rx ry ⟨_, _, rfl, rfl, q.sc rfl (fun _ z => nomatch z)⟩
  · obtain ⟨rfl, hl⟩ := okL_ok e
    obtain ⟨a, vs, rfl, _, ha, ra⟩ := hx
    obtain ⟨b, ws, rfl, _, hb, rb⟩ := hy
    refine op_cat pins s σ H _ _ v u Q I rx ry ⟨a, b, vs, ws, rfl, rfl, ha, hb, ?_, fun p hp => q.newL m hp (ra.append rb)⟩
    rw [List.length_append] at hl
    rw [ra.length, rb.length]; exact hl
  · obtain ⟨rfl, hl⟩ := okT_ok e
    obtain ⟨a, vs, rfl, na, ha, ra⟩ := hx
    obtain ⟨b, ws, rfl, nb, hb, rb⟩ := hy
    rename_i xs ys
    refine op_catA pins s σ H _ _ v u Q I rx ry ⟨a, b, vs, ws, rfl, rfl, sqt ha, sqt hb, ?_, fun e0 => ?_, fun _ e0 => ?_, fun _ _ p hp => q.newT m hp (ra.append rb)⟩
    · rw [List.length_append] at hl
      rw [ra.length, rb.length]; exact hl
    · subst e0
      have : xs = [] := List.eq_nil_of_length_eq_zero (by have := ra.length; simpa using this.symm)
      subst this
      exact q.sc (show Rep X.K H M (.tup _) _ from ⟨b, ws, rfl, nb, hb, rb⟩) (fun _ z => nomatch z)
    · subst e0
      have : ys = [] := List.eq_nil_of_length_eq_zero (by have := rb.length; simpa using this.symm)
      subst this
      exact q.sc (show Rep X.K H M (.tup _) _ from ⟨a, vs, rfl, na, ha, by rw [List.append_nil]; exact ra⟩) (fun _ z => nomatch z)
  · obtain ⟨hl, rfl⟩ := ite_ok e
    cases hx; cases hy
    exact op_add_str pins s σ H _ _ v u Q I rx ry ⟨_, _, rfl, rfl, by rw [← sz_eq]; exact of_decide_eq_true hl, q.sc rfl (fun _ z => nomatch z)⟩
  · cases e
theorem or_sub : OpR X (binaryOp .Sub) (rD X.K false subF) := by
  intro pins s σ H x y v u Q I rx ry h
  obtain ⟨M, dx, dy, d, m, hx, hy, e, q⟩ := h
  unfold subF at e
  split at e
  · cases e
    cases hx; cases hy
    exact op_sub pins s σ H _ _ v u Q I rx ry ⟨_, _, rfl, rfl, q.sc rfl (fun _ z => nomatch z)⟩
  · cases e
theorem small_ok {i : Int} (h : small i = true) : -(2 ^ 64) < i ∧ i < 2 ^ 64 := by
  unfold small at h
  rw [Bool.and_eq_true] at h
  exact ⟨of_decide_eq_true h.1, of_decide_eq_true h.2⟩
theorem or_mul : OpR X (binaryOp .Mult) (rD X.K true mulF) := by
  intro pins s σ H x y v u Q I rx ry h
  obtain ⟨M, dx, dy, d, m, hx, hy, e, q⟩ := h
  unfold mulF at e
  split at e
  · obtain ⟨hl, rfl⟩ := ite_ok e
    cases hx; cases hy
    refine op_mul pins s σ H _ _ v u Q I rx ry ⟨_, _, rfl, rfl, ?_, q.sc rfl (fun _ z => nomatch z)⟩
    rw [Bool.or_eq_true] at hl
    exact hl.imp small_ok small_ok
  · obtain ⟨hl, rfl⟩ := ite_ok e
    rw [Bool.and_eq_true, Bool.and_eq_true] at hl
    have h1 := of_decide_eq_true hl.1.1
    have h2 := of_decide_eq_true hl.1.2
    have h3 := of_decide_eq_true hl.2
    obtain ⟨a, vs, rfl, _, ha, ra⟩ := hx
    cases hy
    refine op_rep pins s σ H _ _ v u Q I rx ry ⟨a, _, vs, rfl, rfl, ha, by omega, by omega, ?_, fun p hp => q.newL m hp (ra.rep _)⟩
    rw [ra.length, ← sz_eq]; exact h3
  · obtain ⟨hl, rfl⟩ := ite_ok e
    rw [Bool.and_eq_true, Bool.and_eq_true, Bool.and_eq_true] at hl
    have h0 := hl.1.1.1
    have h1 := of_decide_eq_true hl.1.1.2
    have h2 := of_decide_eq_true hl.1.2
    have h3 := of_decide_eq_true hl.2
    obtain ⟨a, vs, rfl, _, ha, ra⟩ := hx
    cases hy
    refine op_repT pins s σ H _ _ v u Q I rx ry ⟨a, _, vs, rfl, rfl, sqt ha, fun z => ?_, h1, h2, by rw [ra.length]; exact h3, fun p hp => q.newT m hp (ra.rep _)⟩
    subst z
    have hz := ra.length
    rename_i xs _ _
    cases xs with
    | nil => cases h0
    | cons a b => simp at hz
  · cases e
theorem log_lt {j : Int} (h0 : 0 < j) (h : j < 2 ^ 64) : j.natAbs.log2 < 9000 := by
  have : j.natAbs < 2 ^ 64 := by omega
  have h2 := (Nat.log2_lt (by omega)).mpr this
  omega
theorem or_fdiv : OpR X (binaryOp .FloorDiv) (rD X.K false fdivF) := by
  intro pins s σ H x y v u Q I rx ry h
  obtain ⟨M, dx, dy, d, m, hx, hy, e, q⟩ := h
  unfold fdivF at e
  split at e
  · obtain ⟨hl, rfl⟩ := ite_ok e
    rw [Bool.and_eq_true] at hl
    have h1 := of_decide_eq_true hl.1
    have h2 := of_decide_eq_true hl.2
    cases hx; cases hy
    exact op_fdivW pins s σ H _ _ v u Q I rx ry ⟨_, _, rfl, rfl, ⟨h1, log_lt h1 h2⟩, q.sc rfl (fun _ z => nomatch z)⟩
  · cases e
theorem or_mod : OpR X (binaryOp .Mod) (rD X.K false modF) := by
  intro pins s σ H x y v u Q I rx ry h
  obtain ⟨M, dx, dy, d, m, hx, hy, e, q⟩ := h
  unfold modF at e
  split at e
  · obtain ⟨hl, rfl⟩ := ite_ok e
    cases hx; cases hy
    exact op_mod pins s σ H _ _ v u Q I rx ry ⟨_, _, rfl, rfl, of_decide_eq_true hl, q.sc rfl (fun _ z => nomatch z)⟩
  · cases e
theorem or_pow : OpR X (binaryOp .Pow) (rD X.K false powF) := by
  intro pins s σ H x y v u Q I rx ry h
  obtain ⟨M, dx, dy, d, m, hx, hy, e, q⟩ := h
  unfold powF at e
  split at e
  · obtain ⟨hl, rfl⟩ := ite_ok e
    rw [Bool.and_eq_true, Bool.and_eq_true] at hl
    have h1 := of_decide_eq_true hl.1.1
    have h2 := of_decide_eq_true hl.1.2
    have h3 := small_ok hl.2
    cases hx; cases hy
    exact op_pow pins s σ H _ _ v u Q I rx ry ⟨_, _, rfl, rfl, ⟨h1, by omega, by omega⟩, q.sc rfl (fun _ z => nomatch z)⟩
  · cases e
def opB : BOp → Operator
  | .add => .Add
  | .sub => .Sub
  | .mul => .Mult
  | .fdiv => .FloorDiv
  | .mod => .Mod
  | .pow => .Pow
def freshB : BOp → Bool
  | .add => true
  | .mul => true
  | _ => false
theorem or_bin (o : BOp) : OpR X (binaryOp (opB o)) (rD X.K (freshB o) (binF o)) := by
  cases o
  · exact or_add
  · exact or_sub
  · exact or_mul
  · exact or_fdiv
  · exact or_mod
  · exact or_pow

/-! ### comparisons -/
theorem or_ord {op : CmpOp} {p : Int → Int → Bool} (h : OpR X (compareOp op) (rI0 fun i j => .bl (p i j))) : OpR X (compareOp op) (rD X.K false (ordF p)) := by
  intro pins s σ H x y v u Q I rx ry h'
  obtain ⟨M, dx, dy, d, m, hx, hy, e, q⟩ := h'
  unfold ordF at e
  split at e
  · cases e
    cases hx; cases hy
    exact h pins s σ H _ _ v u Q I rx ry ⟨_, _, rfl, rfl, q.sc rfl (fun _ z => nomatch z)⟩
  · cases e
end
theorem toPys_eq : ∀ xs, toPys xs = xs.map toPy
  | [] => rfl
  | x :: xs => by rw [toPys, toPys_eq xs]; rfl
end PL
-- C3
set_option Elab.async false
set_option linter.all false
set_option maxRecDepth 100000
set_option maxHeartbeats 2000000
/-! C3: more operations by data: comparisons, built-ins, methods, subscripts, slices. -/
namespace PL
open PySem PySem.Spec PyProof.Rows L2
variable {K : PySem.W.Frag} {H H' H1 H2 : Hp} {M M' : Addr → Prop}

/-! ### == -/
theorem eqDsI_py : ∀ (xs : List D) (ys : List Int), cmpbs 0 xs = true ∨ True → PyData.eqvAll (toPys xs) (ys.map .int) = eqDsI xs ys
  | [], [], _ => by simp [toPys, eqDsI, PyData.eqvAll]
  | [], _ :: _, _ => by simp [toPys, eqDsI, PyData.eqvAll]
  | _ :: _, [], _ => by simp [toPys, eqDsI, PyData.eqvAll]
  | x :: xs, y :: ys, h => by
    have ih := eqDsI_py xs ys (.inr trivial)
    rw [toPys, List.map_cons, PyData.eqvAll, eqDsI, ih]
    congr 1
    cases x <;> simp [toPy, PyData.eqv, eqDI] <;> rfl
theorem eqDsI_py' : ∀ (ys : List Int) (xs : List D), PyData.eqvAll (ys.map .int) (toPys xs) = eqDsI xs ys
  | [], [] => by simp [toPys, eqDsI, PyData.eqvAll]
  | [], _ :: _ => by simp [toPys, eqDsI, PyData.eqvAll]
  | _ :: _, [] => by simp [toPys, eqDsI, PyData.eqvAll]
  | y :: ys, x :: xs => by
    have ih := eqDsI_py' ys xs
    rw [toPys, List.map_cons, PyData.eqvAll, eqDsI, ih]
    congr 1
    cases x <;> simp only [toPy, PyData.eqv, eqDI]
    · exact BEq.comm
    · rw [Bool.beq_eq_decide_eq]; exact decide_eq_decide.mpr ⟨Eq.symm, Eq.symm⟩
theorem eqI_py : ∀ (xs ys : List Int), PyData.eqvAll (xs.map .int) (ys.map .int) = decide (xs = ys)
  | [], [] => by simp [PyData.eqvAll]
  | [], _ :: _ => by simp [PyData.eqvAll]
  | _ :: _, [] => by simp [PyData.eqvAll]
  | x :: xs, y :: ys => by
    rw [List.map_cons, List.map_cons, PyData.eqvAll, eqI_py xs ys]
    by_cases h : x = y <;> by_cases g : xs = ys <;> simp [PyData.eqv, h, g]
mutual
theorem eqD_py : ∀ (n m : Nat) (a b : D), cmpb n a = true → cmpb m b = true → PyData.eqv (toPy a) (toPy b) = eqD a b
  | n, m, .non, b, _, hb => by cases b <;> simp_all [toPy, PyData.eqv, eqD, cmpb]
  | n, m, .bl x, b, _, hb => by cases b <;> simp_all [toPy, PyData.eqv, eqD, cmpb]
  | n, m, .int x, b, _, hb => by cases b <;> simp_all [toPy, PyData.eqv, eqD, cmpb] <;> rfl
  | n, m, .str x, b, _, hb => by cases b <;> simp_all [toPy, PyData.eqv, eqD, cmpb] <;> rfl
  | n, m, .tup xs, b, ha, hb => by
    cases n with
    | zero => simp [cmpb] at ha
    | succ n =>
      cases b with
      | tup ys =>
        cases m with
        | zero => simp [cmpb] at hb
        | succ m =>
          simp only [cmpb] at ha hb
          simp only [toPy, PyData.eqv, eqD]
          exact eqDs_py n m xs ys ha hb
      | _ => simp_all [toPy, PyData.eqv, eqD, cmpb]
  | n, m, .lst xs, b, ha, hb => by
    cases n with
    | zero => simp [cmpb] at ha
    | succ n =>
      cases b with
      | lst ys =>
        cases m with
        | zero => simp [cmpb] at hb
        | succ m =>
          simp only [cmpb] at ha hb
          simp only [toPy, PyData.eqv, eqD]
          exact eqDs_py n m xs ys ha hb
      | scr ys => simp only [toPy, PyData.eqv, eqD]; exact eqDsI_py xs ys (.inr trivial)
      | _ => simp_all [toPy, PyData.eqv, eqD, cmpb]
  | n, m, .scr xs, b, ha, hb => by
    cases b with
    | lst ys => simp only [toPy, PyData.eqv, eqD]; exact eqDsI_py' xs ys
    | scr ys => simp only [toPy, PyData.eqv, eqD]; exact eqI_py xs ys
    | _ => simp_all [toPy, PyData.eqv, eqD, cmpb]
  | n, m, .dct _ _, b, ha, _ => by simp [cmpb] at ha
  | n, m, .exc _, b, ha, _ => by simp [cmpb] at ha
  | n, m, .fn _, b, ha, _ => by simp [cmpb] at ha
theorem eqDs_py : ∀ (n m : Nat) (xs ys : List D), cmpbs n xs = true → cmpbs m ys = true → PyData.eqvAll (toPys xs) (toPys ys) = eqDs xs ys
  | n, m, [], ys, _, _ => by cases ys <;> simp [toPys, PyData.eqvAll, eqDs]
  | n, m, x :: xs, [], _, _ => by simp [toPys, PyData.eqvAll, eqDs]
  | n, m, x :: xs, y :: ys, ha, hb => by
    simp only [cmpbs, Bool.and_eq_true] at ha hb
    simp only [toPys, PyData.eqvAll, eqDs]
    rw [eqD_py n m x y ha.1 hb.1, eqDs_py n m xs ys ha.2 hb.2]
end
theorem canLay_ints : ∀ xs : List Int, PyData.canLayAll0 (xs.map .int) = true
  | [] => by simp [PyData.canLayAll0]
  | x :: xs => by simp [PyData.canLayAll0, PyData.canLay0, canLay_ints xs]
theorem depth_ints : ∀ xs : List Int, PyData.depthAll (xs.map .int) = 0
  | [] => by simp [PyData.depthAll]
  | x :: xs => by simp [PyData.depthAll, PyData.depth, depth_ints xs]
mutual
theorem shaped_py : ∀ (n : Nat) (a : D), cmpb n a = true → (toPy a).canLay0 = true ∧ (toPy a).depth ≤ n
  | n, .non, _ => by simp [toPy, PyData.canLay0, PyData.depth]
  | n, .bl x, _ => by simp [toPy, PyData.canLay0, PyData.depth]
  | n, .int x, _ => by simp [toPy, PyData.canLay0, PyData.depth]
  | n, .str x, h => by
    simp only [cmpb] at h
    simp [toPy, PyData.canLay0, PyData.depth, h]
  | n, .tup xs, ha => by
    cases n with
    | zero => simp [cmpb] at ha
    | succ n =>
      simp only [cmpb] at ha
      obtain ⟨h1, h2⟩ := shapeds_py n xs ha
      simp [toPy, PyData.canLay0, PyData.depth, h1, h2]
  | n, .lst xs, ha => by
    cases n with
    | zero => simp [cmpb] at ha
    | succ n =>
      simp only [cmpb] at ha
      obtain ⟨h1, h2⟩ := shapeds_py n xs ha
      simp [toPy, PyData.canLay0, PyData.depth, h1, h2]
  | n, .scr xs, ha => by
    cases n with
    | zero => simp [cmpb] at ha
    | succ n => simp [toPy, PyData.canLay0, PyData.depth, canLay_ints, depth_ints]
  | n, .dct _ _, ha => by simp [cmpb] at ha
  | n, .exc _, ha => by simp [cmpb] at ha
  | n, .fn _, ha => by simp [cmpb] at ha
theorem shapeds_py : ∀ (n : Nat) (xs : List D), cmpbs n xs = true → PyData.canLayAll0 (toPys xs) = true ∧ PyData.depthAll (toPys xs) ≤ n
  | n, [], _ => by simp [toPys, PyData.canLayAll0, PyData.depthAll]
  | n, x :: xs, ha => by
    simp only [cmpbs, Bool.and_eq_true] at ha
    obtain ⟨h1, h2⟩ := shaped_py n x ha.1
    obtain ⟨h3, h4⟩ := shapeds_py n xs ha.2
    simp only [toPys, PyData.canLayAll0, PyData.depthAll, Bool.and_eq_true]
    exact ⟨⟨h1, h3⟩, by omega⟩
end
theorem dp_ints : ∀ xs : List Int, DpAll K H (xs.map V.int) (xs.map PyData.int)
  | [] => .nil
  | x :: xs => .cons (.int x) (dp_ints xs)
mutual
theorem dp_py : ∀ (n : Nat) (a : D) (v : V), cmpb n a = true → Rep K H M a v → Dp K H v (toPy a)
  | n, .non, _, _, r => by cases r; exact .non
  | n, .bl x, _, _, r => by cases r; exact .bl x
  | n, .int x, _, _, r => by cases r; exact .int x
  | n, .str x, _, _, r => by cases r; exact .str x
  | n, .tup xs, _, ha, r => by
    obtain ⟨a, vs, rfl, _, h, hr⟩ := r
    cases n with
    | zero => simp [cmpb] at ha
    | succ n =>
      simp only [cmpb] at ha
      exact .tup (SqT.of h) (dps_py n xs vs ha hr)
  | n, .lst xs, _, ha, r => by
    obtain ⟨a, vs, rfl, _, h, hr⟩ := r
    cases n with
    | zero => simp [cmpb] at ha
    | succ n =>
      simp only [cmpb] at ha
      exact .lst (SqL.of h) (dps_py n xs vs ha hr)
  | n, .scr xs, _, ha, r => by
    obtain ⟨a, rfl, h⟩ := r
    refine .lst (xs := xs.map V.int) ?_ (dp_ints xs)
    rcases h with ⟨o, h⟩ | h
    · exact .inl (.inr ⟨o, h⟩)
    · rcases h with h | h
      · rcases h with h | ⟨o, h⟩ <;> cases h
      · exact .inr h
  | n, .dct _ _, _, ha, _ => by simp [cmpb] at ha
  | n, .exc _, _, ha, _ => by simp [cmpb] at ha
  | n, .fn _, _, ha, _ => by simp [cmpb] at ha
theorem dps_py : ∀ (n : Nat) (xs : List D) (vs : List V), cmpbs n xs = true → Reps K H M xs vs → DpAll K H vs (toPys xs)
  | n, [], _, _, r => by cases r; exact .nil
  | n, x :: xs, _, ha, r => by
    obtain ⟨v, vs, rfl, h1, h2⟩ := r
    simp only [cmpbs, Bool.and_eq_true] at ha
    exact .cons (dp_py n x v ha.1 h1) (dps_py n xs vs ha.2 h2)
end
theorem shaped_ok {a : D} (h : cmpb dep a = true) : SeqAt.shaped (toPy a) = true := by
  obtain ⟨h1, h2⟩ := shaped_py dep a h
  unfold SeqAt.shaped
  rw [h1, Bool.true_and]
  have : dep = 60 := rfl
  exact decide_eq_true (by omega)
section
variable {X : Cx}
theorem or_eq (hu : X.A.units + 64 < cLine) : OpR X (compareOp .Eq) (rD X.K false (eqF false)) := by
  intro pins s σ H x y v u Q I rx ry h
  obtain ⟨M, dx, dy, d, m, hx, hy, e, q⟩ := h
  unfold eqF at e
  obtain ⟨hl, rfl⟩ := ite_ok e
  rw [Bool.and_eq_true] at hl
  refine op_eqD hu pins s σ H _ _ v u Q I rx ry ⟨_, _, dp_py _ _ _ hl.1 hx, dp_py _ _ _ hl.2 hy, shaped_ok hl.1, shaped_ok hl.2, ?_⟩
  rw [eqD_py _ _ _ _ hl.1 hl.2]
  exact q.sc rfl (fun _ z => nomatch z)
theorem or_ne (hu : X.A.units + 64 < cLine) : OpR X (compareOp .NotEq) (rD X.K false (eqF true)) := by
  intro pins s σ H x y v u Q I rx ry h
  obtain ⟨M, dx, dy, d, m, hx, hy, e, q⟩ := h
  unfold eqF at e
  obtain ⟨hl, rfl⟩ := ite_ok e
  rw [Bool.and_eq_true] at hl
  refine op_neD hu pins s σ H _ _ v u Q I rx ry ⟨_, _, dp_py _ _ _ hl.1 hx, dp_py _ _ _ hl.2 hy, shaped_ok hl.1, shaped_ok hl.2, ?_⟩
  rw [eqD_py _ _ _ _ hl.1 hl.2]
  exact q.sc rfl (fun _ z => nomatch z)
theorem isNon_ok : ∀ {a : D} {x : V}, Rep K H M a x → decide (x = .non) = isNon a
  | .non, _, r => by cases r; rfl
  | .bl _, _, r => by cases r; rfl
  | .int _, _, r => by cases r; rfl
  | .str _, _, r => by cases r; rfl
  | .tup _, _, r => by obtain ⟨a, vs, rfl, _⟩ := r; rfl
  | .lst _, _, r => by obtain ⟨a, vs, rfl, _⟩ := r; rfl
  | .scr _, _, r => by obtain ⟨a, rfl, _⟩ := r; rfl
  | .dct _ _, _, r => r.elim
  | .exc _, _, r => r.elim
  | .fn _, _, r => r.elim
theorem or_is : OpR X (compareOp .Is) (rD X.K false (isoF false)) := by
  intro pins s σ H x y v u Q I rx ry h
  obtain ⟨M, dx, dy, d, m, hx, hy, e, q⟩ := h
  unfold isoF at e
  split at e
  · cases e
    cases hy
    refine op_isN pins s σ H _ _ v u Q I rx ry ⟨rfl, ?_⟩
    rw [isNon_ok hx]
    exact q.sc rfl (fun _ z => nomatch z)
  · cases e
    cases hx; cases hy
    exact op_isBl pins s σ H _ _ v u Q I rx ry ⟨_, _, rfl, rfl, q.sc rfl (fun _ z => nomatch z)⟩
  · cases e
theorem or_isn : OpR X (compareOp .IsNot) (rD X.K false (isoF true)) := by
  intro pins s σ H x y v u Q I rx ry h
  obtain ⟨M, dx, dy, d, m, hx, hy, e, q⟩ := h
  unfold isoF at e
  split at e
  · cases e
    cases hy
    refine op_notN pins s σ H _ _ v u Q I rx ry ⟨rfl, ?_⟩
    rw [isNon_ok hx]
    exact q.sc rfl (fun _ z => nomatch z)
  · cases e
    cases hx; cases hy
    exact op_notBl pins s σ H _ _ v u Q I rx ry ⟨_, _, rfl, rfl, q.sc rfl (fun _ z => nomatch z)⟩
  · cases e
theorem atom_flat : ∀ {a : D} {x : V}, Rep K H M a x → atom a = true → flatV x = true
  | .non, _, r, _ => by cases r; rfl
  | .bl _, _, r, _ => by cases r; rfl
  | .int _, _, r, _ => by cases r; rfl
  | .str _, _, r, _ => by cases r; rfl
  | .tup _, _, _, h => by cases h
  | .lst _, _, _, h => by cases h
  | .scr _, _, _, h => by cases h
  | .dct _ _, _, _, h => by cases h
  | .exc _, _, _, h => by cases h
  | .fn _, _, _, h => by cases h
theorem atoms_flat : ∀ {as : List D} {xs : List V}, Reps K H M as xs → as.all atom = true → xs.all flatV = true
  | [], _, r, _ => by cases r; rfl
  | a :: as, _, r, h => by
    obtain ⟨v, vs, rfl, h1, h2⟩ := r
    simp only [List.all_cons, Bool.and_eq_true] at h ⊢
    exact ⟨atom_flat h1 h.1, atoms_flat h2 h.2⟩
theorem atom_eq {a b : D} {x y : V} (ra : Rep K H M a x) (rb : Rep K H M b y) (ha : atom a = true) (hb : atom b = true) : eqV x y = eqD a b := by
  cases a <;> cases b <;> first | (cases ha; done) | (cases hb; done) | skip
  all_goals (cases ra; cases rb; simp [eqV, eqD] <;> rfl)
theorem anyEq_ok {x : D} {v : V} (rx : Rep K H M x v) (hx : atom x = true) : ∀ {as : List D} {vs : List V}, Reps K H M as vs → as.all atom = true → inV v vs = anyEq x as
  | [], _, r, _ => by cases r; rfl
  | a :: as, _, r, h => by
    obtain ⟨w, ws, rfl, h1, h2⟩ := r
    simp only [List.all_cons, Bool.and_eq_true] at h
    have ih := anyEq_ok rx hx h2 h.2
    unfold inV at ih ⊢
    rw [List.any_cons, ih, anyEq, atom_eq h1 rx h.1 hx]
theorem or_in : OpR X (compareOp .In) (rD X.K false (inF false)) := by
  intro pins s σ H x y v u Q I rx ry h
  obtain ⟨M, dx, dy, d, m, hx, hy, e, q⟩ := h
  unfold inF at e
  split at e
  all_goals first
    | (obtain ⟨hl, rfl⟩ := ite_ok e
       rw [Bool.and_eq_true] at hl
       obtain ⟨a, vs, rfl, _, ha, hr⟩ := hy
       refine op_in_seq pins s σ H _ _ v u Q I rx ry ⟨a, vs, rfl, by first | exact .inl (SqL.of ha) | exact .inr (SqT.of ha), atom_flat hx hl.1, atoms_flat hr hl.2, ?_⟩
       rw [anyEq_ok hx hl.1 hr hl.2]
       exact q.sc rfl (fun _ z => nomatch z))
    | (cases e; done)
theorem or_nin : OpR X (compareOp .NotIn) (rD X.K false (inF true)) := by
  intro pins s σ H x y v u Q I rx ry h
  obtain ⟨M, dx, dy, d, m, hx, hy, e, q⟩ := h
  unfold inF at e
  split at e
  all_goals first
    | (obtain ⟨hl, rfl⟩ := ite_ok e
       rw [Bool.and_eq_true] at hl
       obtain ⟨a, vs, rfl, _, ha, hr⟩ := hy
       refine op_notIn_seq pins s σ H _ _ v u Q I rx ry ⟨a, vs, rfl, by first | exact .inl (SqL.of ha) | exact .inr (SqT.of ha), atom_flat hx hl.1, atoms_flat hr hl.2, ?_⟩
       rw [anyEq_ok hx hl.1 hr hl.2]
       exact q.sc rfl (fun _ z => nomatch z))
    | (cases e; done)
def copB : COp → CmpOp
  | .lt => .Lt
  | .le => .LtE
  | .gt => .Gt
  | .ge => .GtE
  | .eq => .Eq
  | .ne => .NotEq
  | .is_ => .Is
  | .isn => .IsNot
  | .in_ => .In
  | .nin => .NotIn
theorem or_cmp (hu : X.A.units + 64 < cLine) (o : COp) : OpR X (compareOp (copB o)) (rD X.K false (cmpF o)) := by
  cases o
  · exact or_ord op_lt
  · exact or_ord op_le
  · exact or_ord op_gt
  · exact or_ord op_ge
  · exact or_eq hu
  · exact or_ne hu
  · exact or_is
  · exact or_isn
  · exact or_in
  · exact or_nin
end
end PL
-- C4
set_option Elab.async false
set_option linter.all false
set_option maxRecDepth 100000
set_option maxHeartbeats 4000000
/-! C4: built-ins, methods, subscripts, slices by data. -/
namespace PL
open PySem PySem.Spec PyProof.Rows L2
variable {K : PySem.W.Frag} {H H' H1 H2 : Hp} {M M' : Addr → Prop}

/-! ### ints of tuples, walked by built-ins -/
section
variable {prog : Program} {w : World} {A : Around} {E : Value → Shared → Prop} {s : Shared} {l : Addr} {its : List Value} {ns : List Int} {Q : Value → Shared → Prop}
theorem iter_intTup {xs : Array (Int × Tok)} {Q : Value → Shared → Prop} (hl : s.heap.IsTuple l (intItems xs))
    (h : ∀ s₂ : Shared, s₂ = { s with heap := s.heap.push { cls := .type "tuple_iterator", data := .fields #[.ref l, .int 0 0] } } →
      (s₂.heap.IsTupleIter s.heap.objs.size l 0 ∧ s₂.heap.IsTuple l (intItems xs)) → (∀ b ∈ [s.heap.objs.size, l], b < s₂.heap.objs.size) → l ≠ s.heap.objs.size → Q (.ref s.heap.objs.size) s₂) :
    wpAny (model prog w) A (pyIter (.ref l)) Q E s := by
  have hlt : l < s.heap.objs.size := by obtain ⟨_, e, _⟩ := hl; exact Heap.lt_size e
  refine wpAny_pyIter_tuple hl (h _ rfl ⟨⟨_, Heap.get?_push_size _ rfl, rfl, rfl⟩, hl.push _⟩ (fun b hb => ?_) (Nat.ne_of_lt hlt))
  show b < (s.heap.push _).objs.size
  rw [Heap.size_push]
  rcases List.mem_cons.mp hb with e | e
  · exact e ▸ Nat.lt_succ_self _
  · exact (List.mem_singleton.mp e) ▸ Nat.lt_succ_of_lt hlt
theorem old_keptT {h' : Heap} (hk : ∀ b o, b ∉ [s.heap.objs.size] → (s.heap.push { cls := .type "tuple_iterator", data := .fields #[.ref l, .int 0 0] }).get? b = some o → h'.get? b = some o) :
    ∀ b o, s.heap.get? b = some o → h'.get? b = some o := fun b o e => by
  refine hk b o (fun hm => ?_) (Heap.get?_push_of_some _ e)
  rcases List.mem_cons.mp hm with e1 | hm
  · exact absurd (e1 ▸ Heap.lt_size e) (Nat.lt_irrefl _)
  · cases hm
theorem sum_rawT (hh : A.handled = none) (hl : s.heap.IsTuple l its.toArray) (hi : IntsAre its ns)
    (h : ∀ h' tk t', (∀ b o, s.heap.get? b = some o → h'.get? b = some o) → Q (.int ns.sum t') { s with heap := h', toks := tk }) : wpAny (model prog w) A (call (.builtin "sum") [.ref l]) Q E s := by
  obtain ⟨xs, e⟩ := hi.allInts.items
  have hn : numsOf (intItems xs).toList = ns := by rw [← e]; exact hi.numsOf
  rw [nums_intItems] at hn
  rw [e] at hl
  refine call_sum_walkG (iter_intTup hl fun s₂ e st hfp hlI => ?_)
  subst e
  refine ⟨_, _, _, _, _, _, numAt xs, rfl, Walks.tuple (A := A.in1) hh _ l hlI (intItems xs), st, hfp, (fun _ _ => intItems_at), fun h' tk t' hk => ?_⟩
  have := h h' tk t' (old_keptT hk)
  have e2 : preSum (numAt xs) (intItems xs).size = ns.sum := by
    have e3 : (intItems xs).size = xs.size := by simp [intItems]
    rw [e3, preSum_eq, List.take_of_length_le (by simp), hn]
  rw [e2]; exact this
theorem max_rawT (hh : A.handled = none) (hl : s.heap.IsTuple l its.toArray) (hi : IntsAre its ns) (hne : 0 < ns.length)
    (h : ∀ h' tk M t', (∀ b o, s.heap.get? b = some o → h'.get? b = some o) → M ∈ ns → (∀ a, a ∈ ns → a ≤ M) → Q (.int M t') { s with heap := h', toks := tk }) : wpAny (model prog w) A (call (.builtin "max") [.ref l]) Q E s := by
  obtain ⟨xs, e⟩ := hi.allInts.items
  have hn : numsOf (intItems xs).toList = ns := by rw [← e]; exact hi.numsOf
  rw [nums_intItems] at hn
  subst hn
  rw [e] at hl
  have hsz : 0 < xs.size := by simpa using hne
  refine call_max_walk (iter_intTup hl fun s₂ e st hfp hlI => ?_)
  subst e
  refine ⟨_, _, _, _, _, _, _, rfl, Walks.tuple (A := A.in1) hh _ l hlI (intItems xs), st, hfp, by simpa [intItems] using hsz, CmpOf.ints_gt (numAt xs) (fun _ _ => intItems_at), fun v h' tk hv hk => ?_⟩
  have hv : (intItems xs)[argBest (fun i j => decide (numAt xs i > numAt xs j)) (xs.size - 1)]? = some v := by simpa [intItems] using hv
  obtain ⟨t, rfl⟩ := intItems_at hv
  obtain ⟨h1, h2⟩ := argBest_gt (numAt xs) (xs.size - 1)
  refine h h' tk _ t (old_keptT hk) ?_ fun a ha => ?_
  · rw [numAt_eq]; exact PySem.getD_mem (by rw [List.length_map, Array.length_toList]; omega)
  · obtain ⟨j, hj, rfl⟩ := mem_getD ha
    rw [List.length_map, Array.length_toList] at hj
    rw [← numAt_eq]; exact h2 j (by omega)
theorem min_rawT (hh : A.handled = none) (hl : s.heap.IsTuple l its.toArray) (hi : IntsAre its ns) (hne : 0 < ns.length)
    (h : ∀ h' tk M t', (∀ b o, s.heap.get? b = some o → h'.get? b = some o) → M ∈ ns → (∀ a, a ∈ ns → M ≤ a) → Q (.int M t') { s with heap := h', toks := tk }) : wpAny (model prog w) A (call (.builtin "min") [.ref l]) Q E s := by
  obtain ⟨xs, e⟩ := hi.allInts.items
  have hn : numsOf (intItems xs).toList = ns := by rw [← e]; exact hi.numsOf
  rw [nums_intItems] at hn
  subst hn
  rw [e] at hl
  have hsz : 0 < xs.size := by simpa using hne
  refine call_min_walk (iter_intTup hl fun s₂ e st hfp hlI => ?_)
  subst e
  refine ⟨_, _, _, _, _, _, _, rfl, Walks.tuple (A := A.in1) hh _ l hlI (intItems xs), st, hfp, by simpa [intItems] using hsz, CmpOf.ints_lt (numAt xs) (fun _ _ => intItems_at), fun v h' tk hv hk => ?_⟩
  have hv : (intItems xs)[argBest (fun i j => decide (numAt xs i < numAt xs j)) (xs.size - 1)]? = some v := by simpa [intItems] using hv
  obtain ⟨t, rfl⟩ := intItems_at hv
  obtain ⟨h1, h2⟩ := argBest_lt (numAt xs) (xs.size - 1)
  refine h h' tk _ t (old_keptT hk) ?_ fun a ha => ?_
  · rw [numAt_eq]; exact PySem.getD_mem (by rw [List.length_map, Array.length_toList]; omega)
  · obtain ⟨j, hj, rfl⟩ := mem_getD ha
    rw [List.length_map, Array.length_toList] at hj
    rw [← numAt_eq]; exact h2 j (by omega)
end

/-! ### calls of built-ins, by data -/
def rB (K : PySem.W.Frag) (fr : Bool) (g : List D → Res D) : List V → Hp → VK → Prop := fun vs H Q => ∃ M ds d, MOk M H ∧ Reps K H M ds vs ∧ g ds = .ok d ∧ Vl K M H Q fr d
def one (g : D → Res D) : List D → Res D
  | [a] => g a
  | _ => .bad
theorem one_ok {g : D → Res D} {ds : List D} {vs : List V} {d : D} (h : one g ds = .ok d) (r : Reps K H M ds vs) : ∃ a v, ds = [a] ∧ vs = [v] ∧ Rep K H M a v ∧ g a = .ok d := by
  unfold one at h
  split at h
  · obtain ⟨v, vs, rfl, h1, h2⟩ := r
    cases h2
    exact ⟨_, v, rfl, rfl, h1, h⟩
  · cases h
section
variable {X : Cx}
theorem cb_len : CallR X (.builtin "len") (rB X.K false (one lenF)) := by
  intro pins s σ H xs us Q I r h
  obtain ⟨M, ds, d, m, hr, e, q⟩ := h
  obtain ⟨a, v, rfl, rfl, ra, e⟩ := one_ok e hr
  unfold lenF at e
  split at e
  · cases e
    obtain ⟨p, vs, rfl, _, hp, hr⟩ := ra
    refine call_len_seq pins s σ H _ us Q I r ⟨p, vs, rfl, .inl (SqL.of hp), ?_⟩
    rw [hr.length]
    exact q.sc rfl (fun _ z => nomatch z)
  · cases e
    obtain ⟨p, vs, rfl, _, hp, hr⟩ := ra
    refine call_len_seq pins s σ H _ us Q I r ⟨p, vs, rfl, .inr (SqT.of hp), ?_⟩
    rw [hr.length]
    exact q.sc rfl (fun _ z => nomatch z)
  · cases e
    obtain ⟨p, rfl, hp⟩ := ra
    rename_i xs
    have hs : SqL X.K H p (xs.map V.int) := by
      rcases hp with ⟨o, h⟩ | h
      · exact .inl (.inr ⟨o, h⟩)
      · rcases h with h | h
        · rcases h with h | ⟨o, h⟩ <;> cases h
        · exact .inr h
    refine call_len_seq pins s σ H _ us Q I r ⟨p, _, rfl, .inl hs, ?_⟩
    rw [List.length_map]
    exact q.sc rfl (fun _ z => nomatch z)
  · obtain ⟨hl, rfl⟩ := ite_ok e
    cases ra
    exact call_len_str pins s σ H _ us Q I r ⟨_, rfl, by rw [← sz_eq]; exact of_decide_eq_true hl, q.sc rfl (fun _ z => nomatch z)⟩
  · cases e
theorem intsOf_ok {a : D} {v : V} {ns : List Int} (h : intsOf a = .ok ns) (r : Rep K H M a v) : ∃ p, v = .ref p ∧ (H p = some (.lst (ns.map V.int)) ∨ H p = some (.tup (ns.map V.int))) := by
  unfold intsOf at h
  obtain ⟨xs, e1, e2⟩ := rb_eq_ok h
  have e3 : intsD xs = some ns := by
    cases q : intsD xs with
    | none => rw [q] at e2; cases e2
    | some ms => rw [q] at e2; cases e2; rfl
  unfold seqD at e1
  split at e1
  · cases e1
    obtain ⟨p, vs, rfl, _, hp, hr⟩ := r
    rw [hr.ints e3] at hp
    exact ⟨p, rfl, .inl hp⟩
  · cases e1
    obtain ⟨p, vs, rfl, _, hp, hr⟩ := r
    rw [hr.ints e3] at hp
    exact ⟨p, rfl, .inr hp⟩
  · cases e1
theorem cb_sum (hc : X.calm = true) : CallR X (.builtin "sum") (rB X.K false (one (bi1 .sum))) := by
  intro pins s σ H xs us Q I r h
  obtain ⟨M, ds, d, m, hr, e, q⟩ := h
  obtain ⟨a, v, rfl, rfl, ra, e⟩ := one_ok e hr
  obtain ⟨ns, e1, e2⟩ := rb_eq_ok (show (intsOf a).rb _ = _ from e)
  cases e2
  obtain ⟨p, rfl, hp | hp⟩ := intsOf_ok e1 ra
  · exact cr_sum hc pins s σ H _ us Q I r ⟨p, ns, rfl, SqL.of hp, q.sc rfl (fun _ z => nomatch z)⟩
  · obtain ⟨its, rv, hl, _⟩ := I.tuple (SqT.of hp)
    rw [Vals.ref1 r]
    exact sum_rawT (I.ok.hd hc) hl rv.ints fun h' tk t' hk => ⟨.int _, H, I.kept hk, ⟨_, rfl⟩, q.sc rfl (fun _ z => nomatch z)⟩
theorem minI_mem : ∀ (ns : List Int) (n : Int), minI n ns ∈ n :: ns ∧ ∀ y ∈ n :: ns, minI n ns ≤ y
  | [], n => by simp [minI]
  | x :: xs, n => by
    by_cases hx : x < n
    · have e : minI n (x :: xs) = minI x xs := by rw [minI, if_pos hx]
      obtain ⟨h1, h2⟩ := minI_mem xs x
      rw [e]
      refine ⟨List.mem_cons_of_mem _ h1, fun y hy => ?_⟩
      have h3 := h2 _ List.mem_cons_self
      rcases List.mem_cons.mp hy with e | hy
      · omega
      · exact h2 y hy
    · have e : minI n (x :: xs) = minI n xs := by rw [minI, if_neg hx]
      obtain ⟨h1, h2⟩ := minI_mem xs n
      have h3 := h2 _ List.mem_cons_self
      rw [e]
      refine ⟨?_, fun y hy => ?_⟩
      · rcases List.mem_cons.mp h1 with e | e
        · rw [e]; exact List.mem_cons_self
        · exact List.mem_cons_of_mem _ (List.mem_cons_of_mem _ e)
      rcases List.mem_cons.mp hy with e | hy
      · exact e ▸ h3
      · rcases List.mem_cons.mp hy with e | hy
        · omega
        · exact h2 y (List.mem_cons_of_mem _ hy)
theorem maxI_mem : ∀ (ns : List Int) (n : Int), maxI n ns ∈ n :: ns ∧ ∀ y ∈ n :: ns, y ≤ maxI n ns
  | [], n => by simp [maxI]
  | x :: xs, n => by
    by_cases hx : n < x
    · have e : maxI n (x :: xs) = maxI x xs := by rw [maxI, if_pos hx]
      obtain ⟨h1, h2⟩ := maxI_mem xs x
      rw [e]
      refine ⟨List.mem_cons_of_mem _ h1, fun y hy => ?_⟩
      have h3 := h2 _ List.mem_cons_self
      rcases List.mem_cons.mp hy with e | hy
      · omega
      · exact h2 y hy
    · have e : maxI n (x :: xs) = maxI n xs := by rw [maxI, if_neg hx]
      obtain ⟨h1, h2⟩ := maxI_mem xs n
      have h3 := h2 _ List.mem_cons_self
      rw [e]
      refine ⟨?_, fun y hy => ?_⟩
      · rcases List.mem_cons.mp h1 with e | e
        · rw [e]; exact List.mem_cons_self
        · exact List.mem_cons_of_mem _ (List.mem_cons_of_mem _ e)
      rcases List.mem_cons.mp hy with e | hy
      · exact e ▸ h3
      · rcases List.mem_cons.mp hy with e | hy
        · omega
        · exact h2 y (List.mem_cons_of_mem _ hy)
theorem toPys_getD (xs : List D) (i : Nat) : (toPys xs).getD i .none = toPy (xs.getD i .non) := by
  rw [toPys_eq, List.getD_eq_getElem?_getD, List.getD_eq_getElem?_getD, List.getElem?_map]
  cases xs[i]? <;> rfl
theorem cmpbs_all : ∀ {n : Nat} {xs : List D}, (∀ x ∈ xs, cmpb n x = true) → cmpbs n xs = true
  | n, [], _ => by cases n <;> rfl
  | n, x :: xs, h => by
    have e : cmpbs n (x :: xs) = (cmpb n x && cmpbs n xs) := by cases n <;> rfl
    rw [e, h x List.mem_cons_self, cmpbs_all fun y hy => h y (List.mem_cons_of_mem _ hy)]; rfl
theorem alk_ok {xs : List D} (h : alkD xs = true) : cmpbs dep xs = true ∧ ∀ a ∈ xs, ∀ b ∈ xs, PySem.W.alike (toPy a) (toPy b) = true := by
  unfold alkD at h
  rw [List.all_eq_true] at h
  refine ⟨cmpbs_all fun x hx => ?_, fun a ha b hb => ?_⟩
  · have := h x hx
    rw [Bool.and_eq_true] at this
    exact this.1
  · have := h a ha
    rw [Bool.and_eq_true, List.all_eq_true] at this
    exact this.2 b hb
theorem nn_tupN {a : D} (h : isTupN a = true) : ∃ x r, toPy a = .tuple (x :: r) := by
  cases a <;> first | (cases h; done) | skip
  rename_i xs
  cases xs with
  | nil => cases h
  | cons x xs => exact ⟨toPy x, toPys xs, rfl⟩
theorem nn_plain {a : D} (h : isPlain a = true) : toPy a ≠ .none ∧ ∀ xs, toPy a ≠ .tuple xs := by
  cases a <;> first | (cases h; done) | (refine ⟨fun z => ?_, fun xs z => ?_⟩ <;> simp [toPy] at z)
theorem srtb_ok {xs : List D} (h : srtb xs = true) : cmpbs dep xs = true ∧ (∀ a ∈ xs, ∀ b ∈ xs, PySem.W.alike (toPy a) (toPy b) = true) ∧ ((∀ a ∈ xs, isTupN a = true) ∨ ∀ a ∈ xs, isPlain a = true) := by
  unfold srtb at h
  rw [Bool.and_eq_true, Bool.or_eq_true, List.all_eq_true, List.all_eq_true] at h
  obtain ⟨h1, h2⟩ := alk_ok h.1
  exact ⟨h1, h2, h.2⟩
theorem srtb_nn {xs : List D} (h : srtb xs = true) : PySem.W.AlikeAll (toPys xs) := by
  obtain ⟨_, h2, h3⟩ := srtb_ok h
  rw [toPys_eq]
  refine ⟨fun x hx y hy => ?_, fun x hx => ?_⟩
  · obtain ⟨a, ha, rfl⟩ := List.mem_map.mp hx
    obtain ⟨b, hb, rfl⟩ := List.mem_map.mp hy
    exact h2 a ha b hb
  · obtain ⟨a, ha, rfl⟩ := List.mem_map.mp hx
    rcases h3 with h3 | h3
    · obtain ⟨y, r, e⟩ := nn_tupN (h3 a ha)
      rw [e]; exact fun z => nomatch z
    · exact (nn_plain (h3 a ha)).1
theorem min_D {prog : Program} {w : World} {A : Around} {E : Value → Shared → Prop} {s : Shared} {l : Addr} {its : List Value} {x : D} {xs : List D} {as : List Addr} {Q : Value → Shared → Prop} (hh : A.handled = none) (hl : s.heap.IsList l its.toArray ∨ s.heap.IsTuple l its.toArray)
    (hr : ReadsAll s.heap its (toPys (x :: xs)) as) (ha : PySem.W.AlikeAll (toPys (x :: xs))) (hu : A.units + 1 + PyData.depthAll (toPys (x :: xs)) < cLine)
    (h : ∀ (i : Nat) v h' tk, its[i]? = some v → (x :: xs)[i]? = some (minDD x xs) → (∀ b o, s.heap.get? b = some o → h'.get? b = some o) → Q v { s with heap := h', toks := tk }) :
    wpAny (model prog w) A (call (.builtin "min") [.ref l]) Q E s := by
  have hr' : ReadsAll s.heap its.toArray.toList (toPys (x :: xs)) as := hr
  have hn : its.toArray.size = xs.length + 1 := by
    have := PySem.W.readsAll_len hr'
    rw [this, toPys_eq, List.length_map, List.length_cons]
  have bt : ∀ i j, PySem.W.dataLt ((toPys (x :: xs)).getD i .none) ((toPys (x :: xs)).getD j .none) = ltD ((x :: xs).getD i .non) ((x :: xs).getD j .non) := fun i j => by
    rw [toPys_getD, toPys_getD]; rfl
  have fin : ∀ (v : Value) (h' : Heap) (tk : Nat), its.toArray[argBest (fun i j => PySem.W.dataLt ((toPys (x :: xs)).getD i .none) ((toPys (x :: xs)).getD j .none)) (its.toArray.size - 1)]? = some v → (∀ b o, s.heap.get? b = some o → h'.get? b = some o) → Q v { s with heap := h', toks := tk } := fun v h' tk hP hk => by
    have e1 : its.toArray.size - 1 = xs.length := by omega
    obtain ⟨i1, i2⟩ := PySem.W.argBest_fold ltD D.non x xs xs.length (Nat.le_refl _)
    rw [List.take_length] at i2
    have ef : (fun i j => PySem.W.dataLt ((toPys (x :: xs)).getD i .none) ((toPys (x :: xs)).getD j .none)) = fun i j => ltD ((x :: xs).getD i .non) ((x :: xs).getD j .non) := funext fun i => funext fun j => bt i j
    rw [e1, ef] at hP
    rw [List.getElem?_toArray] at hP
    refine h _ v h' tk hP ?_ hk
    have hlt : argBest (fun i j => ltD ((x :: xs).getD i .non) ((x :: xs).getD j .non)) xs.length < (x :: xs).length := by rw [List.length_cons]; omega
    rw [List.getElem?_eq_getElem hlt]
    congr 1
    have e3 : (x :: xs).getD (argBest (fun i j => ltD ((x :: xs).getD i .non) ((x :: xs).getD j .non)) xs.length) .non = (x :: xs)[argBest (fun i j => ltD ((x :: xs).getD i .non) ((x :: xs).getD j .non)) xs.length] := by
      rw [List.getD_eq_getElem?_getD, List.getElem?_eq_getElem hlt]; rfl
    rw [← e3, i2]; rfl
  rcases hl with hl | hl
  · refine call_min_walkH (PySem.W.iter_listW (A := A.in1) hh hl fun s₂ e W st hfp hw hk => ?_)
    refine ⟨_, _, _, _, _, _, _, s.heap, _, rfl, W, st, hfp, by omega, hw, hk, PySem.W.cmpIn_lt (A := A.in1) hr' ha (by show A.units + 1 + _ < _; exact hu), fun v s' hP m => ?_⟩
    obtain ⟨h', tk, rfl, hk'⟩ := PySem.W.moved_old e rfl m
    exact fin v h' tk hP hk'
  · refine call_min_walkH (PySem.W.iter_tupleW (A := A.in1) hh hl fun s₂ e W st hfp hw hk => ?_)
    refine ⟨_, _, _, _, _, _, _, s.heap, _, rfl, W, st, hfp, by omega, hw, hk, PySem.W.cmpIn_lt (A := A.in1) hr' ha (by show A.units + 1 + _ < _; exact hu), fun v s' hP m => ?_⟩
    obtain ⟨h', tk, rfl, hk'⟩ := PySem.W.moved_old e rfl m
    exact fin v h' tk hP hk'
theorem seqD_ok {a : D} {v : V} {xs : List D} (h : seqD a = .ok xs) (r : Rep K H M a v) : ∃ p vs, v = .ref p ∧ (H p = some (.lst vs) ∨ H p = some (.tup vs)) ∧ Reps K H M xs vs := by
  cases a <;> first | (cases h; done) | skip
  · cases h
    obtain ⟨p, vs, rfl, _, hp, hr⟩ := r
    exact ⟨p, vs, rfl, .inr hp, hr⟩
  · cases h
    obtain ⟨p, vs, rfl, _, hp, hr⟩ := r
    exact ⟨p, vs, rfl, .inl hp, hr⟩
theorem cb_min1 (hc : X.calm = true) (hu : X.A.units + 64 < cLine) : CallR X (.builtin "min") (rB X.K false (one (bi1 .min))) := by
  intro pins s σ H xs us Q I r h
  obtain ⟨M, ds, d, m, hr, e, q⟩ := h
  obtain ⟨a, v, rfl, rfl, ra, e⟩ := one_ok e hr
  obtain ⟨es, e1, e2⟩ := rb_eq_ok (show (seqD a).rb minA = _ from e)
  unfold minA at e2
  split at e2
  · rename_i ns e3
    have e1 : intsOf a = .ok ns := by unfold intsOf; rw [e1]; show ofO (intsD es) = _; rw [e3]; rfl
    cases ns with
    | nil => cases e2
    | cons n ns =>
      cases e2
      obtain ⟨h1, h2⟩ := minI_mem ns n
      have fin : ∀ m', m' ∈ n :: ns → (∀ y, y ∈ n :: ns → m' ≤ y) → Q (.int m') H := fun m' h3 h4 => by
        have e : m' = minI n ns := Int.le_antisymm (h4 _ h1) (h2 _ h3)
        rw [e]; exact q.sc rfl (fun _ z => nomatch z)
      obtain ⟨p, rfl, hp | hp⟩ := intsOf_ok e1 ra
      · exact cr_min hc pins s σ H _ us Q I r ⟨p, n :: ns, rfl, SqL.of hp, by simp, fin⟩
      · obtain ⟨its, rv, hl, _⟩ := I.tuple (SqT.of hp)
        rw [Vals.ref1 r]
        exact min_rawT (I.ok.hd hc) hl rv.ints (by simp) fun h' tk m' t' hk h3 h4 => ⟨.int _, H, I.kept hk, ⟨_, rfl⟩, fin m' h3 h4⟩
  · cases es with
    | nil => cases e2
    | cons x es =>
      unfold minE at e2
      obtain ⟨hs, rfl⟩ := ite_ok e2
      obtain ⟨p, vs, rfl, hp, rs⟩ := seqD_ok e1 ra
      obtain ⟨hcm, _, _⟩ := srtb_ok hs
      obtain ⟨_, hdp⟩ := shapeds_py dep _ hcm
      rw [Vals.ref1 r]
      have go : ∀ its : List Value, Vals vs its → (s.heap.IsList p its.toArray ∨ s.heap.IsTuple p its.toArray) → wpAny (model X.prog X.w) X.A (call (.builtin "min") [.ref p]) (EP X pins σ Q) X.xe s := fun its rv hl => by
        obtain ⟨as, hrd⟩ := Dp.readsAll I _ _ _ (dps_py dep _ _ hcm rs) rv
        refine min_D (I.ok.hd hc) hl hrd (srtb_nn hs) ?_ fun i v h' tk hi hx hk => ?_
        · have : dep = 60 := rfl
          omega
        · obtain ⟨w', hw, rw'⟩ := rs.get hx
          refine ⟨w', H, I.kept hk, ?_, q.ref rw'⟩
          obtain ⟨u, e1, e2⟩ := rv.get hw
          rw [hi] at e1
          cases e1
          exact e2
      rcases hp with hp | hp
      · obtain ⟨its, rv, hl, _⟩ := I.list (SqL.of hp)
        exact go its rv (.inl hl.isList)
      · obtain ⟨its, rv, hl, _⟩ := I.tuple (SqT.of hp)
        exact go its rv (.inr hl)
theorem cb_max1 (hc : X.calm = true) : CallR X (.builtin "max") (rB X.K false (one (bi1 .max))) := by
  intro pins s σ H xs us Q I r h
  obtain ⟨M, ds, d, m, hr, e, q⟩ := h
  obtain ⟨a, v, rfl, rfl, ra, e⟩ := one_ok e hr
  obtain ⟨ns, e1, e2⟩ := rb_eq_ok (show (intsOf a).rb maxF = _ from e)
  cases ns with
  | nil => cases e2
  | cons n ns =>
    cases e2
    obtain ⟨h1, h2⟩ := maxI_mem ns n
    have fin : ∀ m', m' ∈ n :: ns → (∀ y, y ∈ n :: ns → y ≤ m') → Q (.int m') H := fun m' h3 h4 => by
      have e : m' = maxI n ns := Int.le_antisymm (h2 _ h3) (h4 _ h1)
      rw [e]; exact q.sc rfl (fun _ z => nomatch z)
    obtain ⟨p, rfl, hp | hp⟩ := intsOf_ok e1 ra
    · exact cr_max hc pins s σ H _ us Q I r ⟨p, n :: ns, rfl, SqL.of hp, by simp, fin⟩
    · obtain ⟨its, rv, hl, _⟩ := I.tuple (SqT.of hp)
      rw [Vals.ref1 r]
      exact max_rawT (I.ok.hd hc) hl rv.ints (by simp) fun h' tk m' t' hk h3 h4 => ⟨.int _, H, I.kept hk, ⟨_, rfl⟩, fin m' h3 h4⟩
def two (g : D → D → Res D) : List D → Res D
  | [a, b] => g a b
  | _ => .bad
theorem two_ok {g : D → D → Res D} {ds : List D} {vs : List V} {d : D} (h : two g ds = .ok d) (r : Reps K H M ds vs) : ∃ a b v w, ds = [a, b] ∧ vs = [v, w] ∧ Rep K H M a v ∧ Rep K H M b w ∧ g a b = .ok d := by
  unfold two at h
  split at h
  · obtain ⟨v, vs, rfl, h1, h2⟩ := r
    obtain ⟨w, vs, rfl, h3, h4⟩ := h2
    cases h4
    exact ⟨_, _, v, w, rfl, rfl, h1, h3, h⟩
  · cases h
theorem cb_min2 (hc : X.calm = true) : CallR X (.builtin "min") (rB X.K false (two min2F)) := by
  intro pins s σ H xs us Q I r h
  obtain ⟨M, ds, d, m, hr, e, q⟩ := h
  obtain ⟨a, b, v, w', rfl, rfl, ra, rb, e⟩ := two_ok e hr
  unfold min2F at e
  split at e
  · cases e
    cases ra; cases rb
    exact call_min2 hc pins s σ H _ us Q I r ⟨_, _, rfl, q.sc rfl (fun _ z => nomatch z)⟩
  · cases e
theorem cb_max2 (hc : X.calm = true) : CallR X (.builtin "max") (rB X.K false (two max2F)) := by
  intro pins s σ H xs us Q I r h
  obtain ⟨M, ds, d, m, hr, e, q⟩ := h
  obtain ⟨a, b, v, w', rfl, rfl, ra, rb, e⟩ := two_ok e hr
  unfold max2F at e
  split at e
  · cases e
    cases ra; cases rb
    exact call_max2 hc pins s σ H _ us Q I r ⟨_, _, rfl, q.sc rfl (fun _ z => nomatch z)⟩
  · cases e
theorem lstOf_ok {a : D} {v : V} {xs : List D} (h : lstOf a = .ok xs) (r : Rep K H M a v) : ∃ p vs, v = .ref p ∧ H p = some (.lst vs) ∧ Reps K H M xs vs := by
  unfold lstOf at h
  split at h
  · cases h
    obtain ⟨p, vs, rfl, _, hp, hr⟩ := r
    exact ⟨p, vs, rfl, hp, hr⟩
  · cases h
theorem ofO_ok {α : Type} {o : Option α} {a : α} (h : ofO o = .ok a) : o = some a := by
  cases o with
  | none => cases h
  | some b => cases h; rfl
theorem cb_all (hc : X.calm = true) : CallR X (.builtin "all") (rB X.K false (one (bi1 .all))) := by
  intro pins s σ H xs us Q I r h
  obtain ⟨M, ds, d, m, hr, e, q⟩ := h
  obtain ⟨a, v, rfl, rfl, ra, e⟩ := one_ok e hr
  obtain ⟨ys, e1, e2⟩ := rb_eq_ok (show (lstOf a).rb _ = _ from e)
  obtain ⟨bs, e3, e4⟩ := rb_eq_ok e2
  cases e4
  obtain ⟨p, vs, rfl, hp, hr⟩ := lstOf_ok e1 ra
  rw [hr.bools (ofO_ok e3)] at hp
  exact cr_all hc pins s σ H _ us Q I r ⟨p, bs, rfl, SqL.of hp, q.sc rfl (fun _ z => nomatch z)⟩
theorem cb_any (hc : X.calm = true) : CallR X (.builtin "any") (rB X.K false (one (bi1 .any))) := by
  intro pins s σ H xs us Q I r h
  obtain ⟨M, ds, d, m, hr, e, q⟩ := h
  obtain ⟨a, v, rfl, rfl, ra, e⟩ := one_ok e hr
  obtain ⟨ys, e1, e2⟩ := rb_eq_ok (show (lstOf a).rb _ = _ from e)
  obtain ⟨bs, e3, e4⟩ := rb_eq_ok e2
  cases e4
  obtain ⟨p, vs, rfl, hp, hr⟩ := lstOf_ok e1 ra
  rw [hr.bools (ofO_ok e3)] at hp
  exact cr_any hc pins s σ H _ us Q I r ⟨p, bs, rfl, SqL.of hp, q.sc rfl (fun _ z => nomatch z)⟩
theorem insI_perm (x : Int) : ∀ ys : List Int, (insI x ys).Perm (x :: ys)
  | [] => .refl _
  | y :: ys => by
    unfold insI
    split
    · exact .refl _
    · exact ((insI_perm x ys).cons y).trans (.swap x y ys)
theorem sortI_perm : ∀ xs : List Int, (sortI xs).Perm xs
  | [] => .refl _
  | x :: xs => (insI_perm x (sortI xs)).trans ((sortI_perm xs).cons x)
theorem insI_sorted (x : Int) : ∀ ys : List Int, ys.Pairwise (· ≤ ·) → (insI x ys).Pairwise (· ≤ ·)
  | [], _ => by simp [insI]
  | y :: ys, h => by
    unfold insI
    rw [List.pairwise_cons] at h
    split
    · rename_i hx
      rw [List.pairwise_cons, List.pairwise_cons]
      refine ⟨fun z hz => ?_, h⟩
      rcases List.mem_cons.mp hz with e | hz
      · omega
      · have := h.1 z hz; omega
    · rw [List.pairwise_cons]
      refine ⟨fun z hz => ?_, insI_sorted x ys h.2⟩
      have := (insI_perm x ys).mem_iff.mp hz
      rcases List.mem_cons.mp this with e | hz
      · omega
      · exact h.1 z hz
theorem sortI_sorted : ∀ xs : List Int, (sortI xs).Pairwise (· ≤ ·)
  | [] => by simp [sortI]
  | x :: xs => insI_sorted x _ (sortI_sorted xs)
theorem sorted_uniq : ∀ {xs ys : List Int}, xs.Perm ys → xs.Pairwise (· ≤ ·) → ys.Pairwise (· ≤ ·) → xs = ys := fun {xs ys} p h1 h2 =>
  p.eq_of_pairwise (fun a b _ _ h3 h4 => Int.le_antisymm h3 h4) h1 h2
theorem each_reps {pins : List (Addr × Obj)} {σ : L2.St} {s : Shared} (I : Inv X pins σ H s) : ∀ (ds : List D) (vs : List V) (us : List Value), cmpbs dep ds = true → Reps X.K H M ds vs → Vals vs us →
    PySem.W.EachIs (fun u (p : D × V) => RelV p.2 u) us (ds.zip vs) ∧ PySem.W.EachIs (fun u (p : D × V) => ∃ as, Reads s.heap u (toPy p.1) as) us (ds.zip vs)
  | [], vs, us, _, r, rv => by
    cases r
    cases rv
    exact ⟨.nil, .nil⟩
  | d :: ds, vs, us, hc, r, rv => by
    obtain ⟨v, ws, rfl, h1, h2⟩ := r
    simp only [dep, cmpbs, Bool.and_eq_true] at hc
    cases rv with
    | cons ru rv =>
      obtain ⟨i1, i2⟩ := each_reps I ds ws _ hc.2 h2 rv
      exact ⟨.cons ru i1, .cons (Dp.reads I _ _ _ (dp_py _ _ _ hc.1 h1) ru) i2⟩
theorem reps_zip : ∀ {ds : List D} {vs : List V}, Reps K H M ds vs → ∀ p ∈ ds.zip vs, Rep K H M p.1 p.2
  | [], _, r, p, hp => by cases r; cases hp
  | d :: ds, _, r, p, hp => by
    obtain ⟨v, ws, rfl, h1, h2⟩ := r
    rcases List.mem_cons.mp (show p ∈ (d, v) :: ds.zip ws from hp) with rfl | hp
    · exact h1
    · exact reps_zip h2 p hp
theorem reps_all : ∀ (l : List (D × V)), (∀ p ∈ l, Rep K H M p.1 p.2) → Reps K H M (l.map (·.1)) (l.map (·.2))
  | [], _ => rfl
  | p :: l, h => Reps.cons (h p List.mem_cons_self) (reps_all l fun q hq => h q (List.mem_cons_of_mem _ hq))
theorem each_vals : ∀ {us : List Value} {l : List (D × V)}, PySem.W.EachIs (fun u (p : D × V) => RelV p.2 u) us l → Vals (l.map (·.2)) us
  | _, _, .nil => .nil
  | _, _, .cons h t => .cons h (each_vals t)
theorem sort_fst (ds : List D) (vs : List V) (hl : vs.length = ds.length) : ((ds.zip vs).mergeSort (PySem.W.dataLe false fun p => toPy p.1)).map (·.1) = ds.mergeSort fun a b => !ltD b a := by
  have e : (PySem.W.dataLe false fun p : D × V => toPy p.1) = fun a b => !ltD b.1 a.1 := by rw [PySem.W.dataLe_eq]; rfl
  rw [e, List.map_mergeSort (s := fun a b => !ltD b a) (fun _ _ _ _ => rfl), List.map_fst_zip (by omega)]
theorem cb_sorted (hu : X.A.units + 64 < cLine) : CallR X (.builtin "sorted") (rB X.K true (one (bi1 .sorted))) := by
  intro pins s σ H xs us Q I r h
  obtain ⟨M, ds, d, m, hr, e, q⟩ := h
  obtain ⟨a, v, rfl, rfl, ra, e⟩ := one_ok e hr
  obtain ⟨ys, e1, e2⟩ := rb_eq_ok (show (lstOf a).rb sortA = _ from e)
  obtain ⟨p, vs, rfl, hp, hr⟩ := lstOf_ok e1 ra
  unfold sortA at e2
  split at e2
  · rename_i bs e3
    cases e2
    rw [hr.ints e3] at hp
    refine cr_sortedI pins s σ H _ us Q I r ⟨p, bs, rfl, SqL.of hp, fun ns' p' perm rise hn => ?_⟩
    have e : ns' = sortI bs := sorted_uniq (perm.trans (sortI_perm bs).symm) rise (sortI_sorted bs)
    subst e
    exact q.newL m hn (reps_int _)
  · obtain ⟨hs, rfl⟩ := ite_ok e2
    obtain ⟨hcm, hal, hki⟩ := srtb_ok hs
    obtain ⟨its, rv, hl, hz⟩ := I.list (SqL.of hp)
    rw [Vals.ref1 r]
    obtain ⟨i1, i2⟩ := each_reps I ys vs its hcm hr rv
    have hlen := hr.length
    have mem : ∀ b : D × V, b ∈ ys.zip vs → b.1 ∈ ys := fun b hb => (List.of_mem_zip (show (b.1, b.2) ∈ ys.zip vs from hb)).1
    refine PySem.W.sorted_data (enc := fun p : D × V => toPy p.1) (R := fun u (p : D × V) => RelV p.2 u) hl.isList i1 i2 (fun d hd d' hd' => ?_) ?_ ?_ (fun b hb => ?_) fun out ho he => ?_
    · obtain ⟨b, hb, rfl⟩ := List.mem_map.mp hd
      obtain ⟨b', hb', rfl⟩ := List.mem_map.mp hd'
      exact hal _ (mem b hb) _ (mem b' hb')
    · rcases hki with hki | hki
      · refine .inl fun d hd => ?_
        obtain ⟨b, hb, rfl⟩ := List.mem_map.mp hd
        exact nn_tupN (hki _ (mem b hb))
      · refine .inr fun d hd => ?_
        obtain ⟨b, hb, rfl⟩ := List.mem_map.mp hd
        exact nn_plain (hki _ (mem b hb))
    · rw [List.length_zip, hlen, Nat.min_self, ← hlen]; exact hz
    · have h1 := (shapeds_py dep _ hcm).2
      have h2 : (toPy b.1).depth ≤ PyData.depthAll (toPys ys) := by
        have : ∀ (l : List D) (x : D), x ∈ l → (toPy x).depth ≤ PyData.depthAll (toPys l) := by
          intro l
          induction l with
          | nil => intro x hx; cases hx
          | cons y l ih =>
            intro x hx
            simp only [toPys, PyData.depthAll]
            rcases List.mem_cons.mp hx with rfl | hx
            · omega
            · have := ih x hx
              omega
        exact this ys b.1 (mem b hb)
      have h3 : dep = 60 := rfl
      show X.A.units + 2 + (toPy b.1).depth < cLine
      omega
    · obtain ⟨ep, he'⟩ := PyProof.Rows.sortedAll_at s.heap its out.toArray
      have hv := each_vals he
      have hzl : (((ys.zip vs).mergeSort (PySem.W.dataLe false fun p => toPy p.1)).map (·.2)).length ≤ sizeLine := by
        rw [List.length_map, List.length_mergeSort, List.length_zip, hlen, Nat.min_self, ← hlen]; exact hz
      refine ⟨.ref _, upd H (s.heap.objs.size + 1) (.lst (((ys.zip vs).mergeSort (PySem.W.dataLe false fun p => toPy p.1)).map (·.2))), I.laid (t' := s.toks) (fun _ _ => PyProof.Rows.sortedAll_old) (Nat.le_succ _) ⟨hzl, out, ep, hv, he'⟩, rfl, ?_⟩
      refine q.newL m (I.hok.fresh (Nat.le_succ _)) ?_
      rw [← sort_fst ys vs hlen]
      exact reps_all _ fun b hb => reps_zip hr b ((List.mergeSort_perm _ _).mem_iff.mp hb)
theorem cb_tuple : CallR X (.type "tuple") (rB X.K false (one tupF)) := by
  intro pins s σ H xs us Q I r h
  obtain ⟨M, ds, d, m, hr, e, q⟩ := h
  obtain ⟨a, v, rfl, rfl, ra, e⟩ := one_ok e hr
  unfold tupF at e
  split at e
  · cases e
    obtain ⟨p, vs, rfl, _, hp, hr⟩ := ra
    exact call_tuple_of pins s σ H _ us Q I r ⟨p, vs, rfl, .inl ⟨SqL.of hp, fun l hl => q.newT m hl hr⟩⟩
  · cases e
    have ra' := ra
    obtain ⟨p, vs, rfl, _, hp, hr⟩ := ra
    exact call_tuple_of pins s σ H _ us Q I r ⟨p, vs, rfl, .inr ⟨SqT.of hp, q.sc ra' (fun _ z => nomatch z)⟩⟩
  · cases e
theorem cb_list : CallR X (.type "list") (rB X.K true (one lstF)) := by
  intro pins s σ H xs us Q I r h
  obtain ⟨M, ds, d, m, hr, e, q⟩ := h
  obtain ⟨a, v, rfl, rfl, ra, e⟩ := one_ok e hr
  unfold lstF at e
  split at e
  · cases e
    obtain ⟨p, vs, rfl, _, hp, hr⟩ := ra
    exact call_list_of pins s σ H _ us Q I r ⟨p, vs, rfl, .inl (SqL.of hp), fun l hl => q.newL m hl hr⟩
  · cases e
    obtain ⟨p, vs, rfl, _, hp, hr⟩ := ra
    exact call_list_of pins s σ H _ us Q I r ⟨p, vs, rfl, .inr (SqT.of hp), fun l hl => q.newL m hl hr⟩
  · cases e

end
end PL
-- C5
set_option Elab.async false
set_option linter.all false
set_option maxRecDepth 100000
set_option maxHeartbeats 4000000
/-! C5: isinstance, methods, subscripts, slices by data. -/
namespace PL
open PySem PySem.Spec PyProof.Rows L2
variable {K : PySem.W.Frag} {H H' H1 H2 : Hp} {M M' : Addr → Prop}
section
variable {X : Cx}
/-! ### isinstance -/
def tyN : Ty → Option String
  | .int => some "int"
  | .bool => some "bool"
  | .str => some "str"
  | .list => some "list"
  | .tuple => some "tuple"
  | .exc _ => none
theorem isF_ok {t : Ty} {n : String} {a : D} {x : V} {b : Bool} (ht : tyN t = some n) (h : isF t a = .ok b) (r : Rep K H M a x) : ∃ u, TyX K H x (.type u) ∧ PySem.W.kitOne K (.type u) (.type n) = some b := by
  cases a with
  | non =>
    cases r
    refine ⟨"NoneType", .base .non, ?_⟩
    cases t <;> cases ht <;> cases h <;> exact kit_ty (by decide +kernel)
  | bl i =>
    cases r
    refine ⟨"bool", .base (.bl i), ?_⟩
    cases t <;> cases ht <;> cases h <;> exact kit_ty (by decide +kernel)
  | int i =>
    cases r
    refine ⟨"int", .base (.int i), ?_⟩
    cases t <;> cases ht <;> cases h <;> exact kit_ty (by decide +kernel)
  | str i =>
    cases r
    refine ⟨"str", .base (.str i), ?_⟩
    cases t <;> cases ht <;> cases h <;> exact kit_ty (by decide +kernel)
  | tup xs =>
    obtain ⟨p, vs, rfl, _, hp, _⟩ := r
    refine ⟨"tuple", .base (.tup hp), ?_⟩
    cases t <;> cases ht <;> cases h <;> exact kit_ty (by decide +kernel)
  | lst xs =>
    obtain ⟨p, vs, rfl, _, hp, _⟩ := r
    refine ⟨"list", .base (.lst hp), ?_⟩
    cases t <;> cases ht <;> cases h <;> exact kit_ty (by decide +kernel)
  | scr xs => cases t <;> cases ht <;> cases h
  | dct ks vs => exact r.elim
  | exc c => exact r.elim
  | fn i => exact r.elim
theorem cb_isi {t : Ty} {n : String} (ht : tyN t = some n) : CallR X (.builtin "isinstance") (fun vs H Q => ∃ M a v b, vs = [v, .ty n] ∧ Rep X.K H M a v ∧ isF t a = .ok b ∧ Q (.bl b) H) := by
  intro pins s σ H xs us Q I r h
  obtain ⟨M, a, v, b, rfl, ra, e, q⟩ := h
  obtain ⟨u, h1, h2⟩ := isF_ok ht e ra
  exact call_isi pins s σ H _ us Q I r ⟨v, .ty n, .type u, .type n, b, rfl, .ty n, h1, h2, q⟩

/-! ### methods -/
theorem eqU_count {x : V} : ∀ {ys : List V} {us : List Value}, Vals ys us → ys.all flatV = true → us.countP (eqU x) = (ys.filter fun y => eqV y x).length
  | _, _, .nil, _ => rfl
  | y :: ys, u :: us, .cons r t, f => by
    simp only [List.all_cons, Bool.and_eq_true] at f
    rw [List.countP_cons, eqU_count t f.2, eqU_of r f.1, List.filter_cons]
    cases eqV y x <;> simp
theorem countD_ok {x : D} {v : V} (rx : Rep K H M x v) (hx : atom x = true) : ∀ {as : List D} {vs : List V}, Reps K H M as vs → as.all atom = true → (vs.filter fun y => eqV y v).length = countD x as
  | [], _, r, _ => by cases r; rfl
  | a :: as, _, r, h => by
    obtain ⟨w, ws, rfl, h1, h2⟩ := r
    simp only [List.all_cons, Bool.and_eq_true] at h
    have ih := countD_ok rx hx h2 h.2
    rw [List.filter_cons, countD, ← ih, atom_eq h1 rx h.1 hx]
    cases eqD a x <;> simp <;> omega
def rM1 (K : PySem.W.Frag) (g : D → D → Res D) : V → List V → Hp → VK → Prop := fun x vs H Q => ∃ M o a v d, vs = [v] ∧ Rep K H M o x ∧ Rep K H M a v ∧ g o a = .ok d ∧ Vl K M H Q false d
def countF : D → D → Res D
  | .lst xs, x => if atom x && xs.all atom then .ok (.int (countD x xs)) else .bad
  | _, _ => .bad
def indexF : D → D → Res D
  | .lst xs, x => if atom x && xs.all atom then (ofO (indexD x xs)).rb fun i => .ok (.int i) else .bad
  | _, _ => .bad
theorem mb_count : MtR X "list.count" (rM1 X.K countF) := by
  intro pins s σ H x xs v us Q I rx rxs h
  obtain ⟨M, o, a, y, d, rfl, ro, ra, e, q⟩ := h
  unfold countF at e
  split at e
  · obtain ⟨hl, rfl⟩ := ite_ok e
    rw [Bool.and_eq_true] at hl
    obtain ⟨p, vs, rfl, _, hp, hr⟩ := ro
    cases rx
    obtain ⟨u, rfl, ru⟩ := rxs.one
    obtain ⟨its, rv, ⟨⟨cls, dd, data, sl⟩, n, ho, hc, hdn, hd⟩, hlen⟩ := I.list (SqL.of hp)
    simp only at hc hd
    subst hc hd
    have fy := atom_flat ra hl.1
    have fvs := atoms_flat hr hl.2
    refine call_meets PySem.F.slot_list_count ⟨_, ho, rfl⟩ PySem.F.entry_list_count (PySem.F.args_list_count_2 _ _)
      (SeqAt.list_countAt p its.toArray n dd sl u (eqU y)) ⟨ho, fun z hz => mem_eqAt ru fy rv fvs z (by simpa using hz), ?_⟩
    have ec : its.toArray.toList.countP (eqU y) = countD a _ := (eqU_count rv fvs).trans (countD_ok ra hl.1 hr hl.2)
    refine ⟨.int (countD a _ : Nat), H, I.tok _, ⟨s.toks, ?_⟩, q.sc rfl (fun _ z => nomatch z)⟩
    show Value.int ((its.toArray.toList.countP (eqU y) : Nat) : Int) s.toks = _
    rw [ec]
  · cases e
theorem indexD_ok {x : D} {v : V} (rx : Rep K H M x v) (hx : atom x = true) : ∀ {as : List D} {vs : List V} {j : Nat}, Reps K H M as vs → as.all atom = true → indexD x as = some j →
    (∃ z, vs[j]? = some z ∧ eqV z v = true) ∧ ∀ (m : Nat) z', m < j → vs[m]? = some z' → eqV z' v = false
  | [], _, _, _, _, e => by cases e
  | a :: as, _, j, r, h, e => by
    obtain ⟨w, ws, rfl, h1, h2⟩ := r
    simp only [List.all_cons, Bool.and_eq_true] at h
    unfold indexD at e
    cases q : eqD a x with
    | true =>
      rw [q] at e
      cases e
      exact ⟨⟨w, rfl, by rw [atom_eq h1 rx h.1 hx]; exact q⟩, fun m z' hm => absurd hm (Nat.not_lt_zero m)⟩
    | false =>
      rw [q] at e
      cases z : indexD x as with
      | none => rw [z] at e; cases e
      | some k =>
        rw [z] at e
        cases e
        obtain ⟨⟨z1, e1, e2⟩, e3⟩ := indexD_ok rx hx h2 h.2 z
        refine ⟨⟨z1, by simpa using e1, e2⟩, fun m z' hm hz => ?_⟩
        cases m with
        | zero =>
          simp at hz
          subst hz
          rw [atom_eq h1 rx h.1 hx]; exact q
        | succ m =>
          have hm : m + 1 < k + 1 := hm
          exact e3 m z' (by omega) (by simpa using hz)
theorem mb_index : MtR X "list.index" (rM1 X.K indexF) := by
  intro pins s σ H x xs v us Q I rx rxs h
  obtain ⟨M, o, a, y, d, rfl, ro, ra, e, q⟩ := h
  unfold indexF at e
  split at e
  · split at e
    · rename_i hl
      obtain ⟨j, e1, e2⟩ := rb_eq_ok e
      cases e2
      rw [Bool.and_eq_true] at hl
      obtain ⟨p, vs, rfl, _, hp, hr⟩ := ro
      obtain ⟨⟨z, h1, h2⟩, h3⟩ := indexD_ok ra hl.1 hr hl.2 (ofO_ok e1)
      exact mt_index pins s σ H _ _ v us Q I rx rxs ⟨p, vs, y, j, z, rfl, rfl, SqL.of hp, atom_flat ra hl.1, atoms_flat hr hl.2, h1, h2, h3, q.sc rfl (fun _ z => nomatch z)⟩
    · cases e
  · cases e

/-! ### subscripts, slices -/
theorem atI_reps {ds : List D} {vs : List V} {i : Int} {d : D} (r : Reps K H M ds vs) (h : atI ds i = some d) : ∃ v, atI vs i = some v ∧ Rep K H M d v := by
  unfold atI at h ⊢
  rw [r.length]
  cases q : ixN ds.length i with
  | none => rw [q] at h; cases h
  | some j =>
    rw [q] at h
    obtain ⟨v, h1, h2⟩ := r.get (show ds[j]? = some d from h)
    exact ⟨v, h1, h2⟩
theorem atI_ints {xs : List Int} {i n : Int} (h : atI xs i = some n) : atI (xs.map V.int) i = some (.int n) := by
  unfold atI at h ⊢
  rw [List.length_map]
  cases q : ixN xs.length i with
  | none => rw [q] at h; cases h
  | some j =>
    rw [q] at h
    have h : xs[j]? = some n := h
    show (xs.map V.int)[j]? = _
    rw [List.getElem?_map, h] <;> rfl
theorem sq_scr {p : Addr} {xs : List Int} (hp : (∃ o, H p = some (.frz o (.lst (xs.map V.int)))) ∨ SqL K (fun _ => none) p (xs.map V.int)) : SqL K H p (xs.map V.int) := by
  rcases hp with ⟨o, h⟩ | h
  · exact .inl (.inr ⟨o, h⟩)
  · rcases h with h | h
    · rcases h with h | ⟨o, h⟩ <;> cases h
    · exact .inr h
theorem ib_ix : IxR X (rD X.K false ixF) := by
  intro value slice pins s σ H x y v u Q I rx ry h hs
  obtain ⟨M, dx, dy, d, m, hx, hy, e, q⟩ := h
  unfold ixF at e
  split at e
  · obtain ⟨p, vs, rfl, _, hp, hr⟩ := hx
    cases hy
    obtain ⟨w, h1, h2⟩ := atI_reps hr (ofO_ok e)
    exact ix_list value slice pins s σ H _ _ v u Q I rx ry ⟨p, vs, _, w, rfl, rfl, SqL.of hp, h1, q.ref h2⟩ hs
  · obtain ⟨p, vs, rfl, _, hp, hr⟩ := hx
    cases hy
    obtain ⟨w, h1, h2⟩ := atI_reps hr (ofO_ok e)
    exact ix_tup value slice pins s σ H _ _ v u Q I rx ry ⟨p, vs, _, w, rfl, rfl, SqT.of hp, h1, q.ref h2⟩ hs
  · obtain ⟨n, e1, e2⟩ := rb_eq_ok e
    cases e2
    obtain ⟨p, rfl, hp⟩ := hx
    cases hy
    exact ix_list value slice pins s σ H _ _ v u Q I rx ry ⟨p, _, _, _, rfl, rfl, sq_scr hp, atI_ints (ofO_ok e1), q.ref rfl⟩ hs
  · cases e
theorem cut_reps {ds : List D} {vs : List V} (r : Reps K H M ds vs) (lo hi : Option Int) : Reps K H M (cut ds lo hi) (cutV vs lo hi) := by
  unfold cut cutV
  rw [r.length]
  exact (r.drop _).take _
def rS (K : PySem.W.Frag) : V → Option Int → Option Int → Hp → VK → Prop := fun x lo hi H Q => ∃ M a d, MOk M H ∧ Rep K H M a x ∧ slF a lo hi = .ok d ∧ Vl K M H Q true d
theorem sb_sl : SlR X (rS X.K) := by
  intro pins s σ H x v vl vu lo hi sl Q I rx hs pl pu h
  obtain ⟨M, a, d, m, ra, e, q⟩ := h
  unfold slF at e
  split at e
  · cases e
    obtain ⟨p, vs, rfl, _, hp, hr⟩ := ra
    exact sl_list pins s σ H _ v vl vu lo hi sl Q I rx hs pl pu ⟨p, vs, rfl, SqL.of hp, fun l hl => q.newL m hl (cut_reps hr lo hi)⟩
  · cases e
    obtain ⟨p, vs, rfl, np, hp, hr⟩ := ra
    refine sl_tupA pins s σ H _ v vl vu lo hi sl Q I rx hs pl pu ⟨p, vs, rfl, SqT.of hp, fun hw => ?_, fun _ l hl => q.newT m hl (cut_reps hr lo hi)⟩
    refine q.sc (show Rep X.K H M (.tup _) _ from ⟨p, vs, rfl, np, hp, ?_⟩) (fun _ z => nomatch z)
    have hw' := hw
    rw [hr.length] at hw'
    unfold cut
    rw [hw'.1, hw'.2, List.drop_zero, Nat.sub_zero, List.take_of_length_le (Nat.le_refl _)]
    exact hr
  · cases e
end
end PL
-- C6
set_option Elab.async false
set_option linter.all false
set_option maxRecDepth 100000
set_option maxHeartbeats 4000000
/-! C6: set(xs) of a list of ints, sorted(set(xs)), len(set(xs)); ranges as lists and tuples; xs[::-1]. -/
namespace PL
open PySem PySem.Spec PyProof.Rows L2
variable {K : PySem.W.Frag} {H H' H1 H2 : Hp} {M M' : Addr → Prop}
section
variable {P : Program} {w : World} {A : Around} {E : Value → Shared → Prop} {s : Shared}
/-- a set just laid -/
abbrev set0 (w : World) : Obj := { cls := .type "set", dict := none, data := .set #[] 0 (.fresh 0 0 (!w.params.followText "set-order")) }
set_option maxHeartbeats 8000000 in
theorem call_set_lstI {l : Addr} {its : Array Value} (ns : List Int) {Q : Value → Shared → Prop} (hh : A.handled = none) (hl : s.heap.IsList l its) (hit : IntsAre its.toList ns) (hb : ns.length + 1 < scanBound)
    (fin : ∀ (h' : Heap) (tk c : Nat), SetR w h' s.heap.objs.size (fun j => decide (j ∈ ns)) c → c ≤ ns.length → (∀ b o, s.heap.get? b = some o → h'.get? b = some o) → Q (.ref s.heap.objs.size) { s with heap := h', toks := tk }) :
    wpAny (model P w) A (call (.type "set") [.ref l]) Q E s := by
  have size : its.size = ns.length := by have z := IntsAre.length hit; rwa [Array.length_toList] at z
  obtain ⟨c, tl, hmro⟩ := F.called_set.mro
  have a1 := F.called_set.made
  have a2 := F.called_set.sub
  have a3 := F.called_set.notType
  have a4 := F.called_set.canCreate
  have a5 := F.typeCall_set_1 (.ref l)
  refine wpAny_call (codeAny_of_tree ?_)
  show wpAny _ _ (callAny (.type "set") _) _ _ _
  refine wpAny_pure ⟨Code.quiet_builtin _ (by decide +kernel), codeAny_builtin F.entry_type_call ?_⟩
  rw [Around.under_plain (weight_type_call_type "set" [.ref l] []) rfl]
  repeat (any_goals (first | assumption | wp_step))
  refine codeAny_mono (code_set_led1 (.ref l) (E := E) (Q₁ := fun o s₁ => o = .ref s.heap.objs.size ∧ s₁ = { s with heap := s.heap.push (set0 w) }) ⟨rfl, rfl⟩) fun r s₁ hr => ?_
  cases r with
  | error e => exact hr
  | ok fl =>
    cases fl with
    | next => exact hr
    | brk => exact hr
    | cont => exact hr
    | ret o =>
      obtain ⟨rfl, rfl⟩ := hr
      have b1 : (s.heap.push (set0 w)).get? s.heap.objs.size = some (set0 w) := Heap.get?_push_size _ rfl
      have b2 : Shared.TypeIs { s with heap := s.heap.push (set0 w) } (.ref s.heap.objs.size) "set" := ⟨_, b1, rfl⟩
      have b3 := F.called_set.init.lookup
      have b4 := F.called_set.init.bind (.ref s.heap.objs.size)
      repeat (any_goals (first | assumption | wp_step))
      refine codeAny_mono (codeAny_call_builtin (R := wants (fun r s₂ => r = .none ∧ ∃ h' tk c, s₂ = { s with heap := h', toks := tk } ∧ SetR w h' s.heap.objs.size (fun j => decide (j ∈ ns)) c ∧ c ≤ ns.length ∧
          (∀ b o, s.heap.get? b = some o → h'.get? b = some o)) E) F.called_set.init.plain F.entry_set_init (check_set_init_1 b2 ?_)) fun r₂ s₂ hr₂ => ?_
      · obtain ⟨⟨oc, od, dt, sl⟩, ho, hc, n, hd⟩ := hl
        simp only at hc hd
        subst hc; subst hd
        have d1 : (s.heap.push (set0 w)).get? l = some { cls := .type "list", dict := od, data := .seq its n, slots := sl } := Heap.get?_push_of_some _ ho
        have d2 := F.sub_list_set
        have d3 := F.sub_list_frozenset
        have d4 : (Value.type "list" == Value.type "dict") = false := by decide
        have d5 : (s.heap.push (set0 w)).IsList l its := ⟨_, d1, rfl, n, rfl⟩
        unfold Builtin.«set.__init__» noKeywords Builtin.Frozenset.updateFrom
        generalize hPI : pyIter = PI
        wp_walk
        subst hPI
        have lt : l < s.heap.objs.size := Heap.lt_size ho
        have sz1 : (s.heap.push (set0 w)).objs.size = s.heap.objs.size + 1 := Heap.size_push ..
        have ne1 : l ≠ (s.heap.push (set0 w)).objs.size := by rw [sz1]; exact Nat.ne_of_lt (Nat.lt_succ_of_lt lt)
        have nm : s.heap.objs.size ∉ [(s.heap.push (set0 w)).objs.size, l] := by
          rw [sz1]
          intro z
          rcases List.mem_cons.mp z with z | z
          · exact absurd z (Nat.ne_of_lt (Nat.lt_succ_self _))
          · exact absurd (List.mem_singleton.mp z) (Nat.ne_of_gt lt)
        have val : ∀ (i : Nat) (v : Value), its[i]? = some v → ∃ k t, ns[i]? = some k ∧ v = .int k t := fun i v hv => by
          have hi : i < ns.length := by rw [← size]; exact (Array.getElem?_eq_some_iff.mp hv).1
          obtain ⟨t, e⟩ := PyProof.Rows.IntsAre.int_at hit i v (by rw [Array.getElem?_toList]; exact hv)
          exact ⟨ns[i], t, List.getElem?_eq_getElem hi, by rw [e, List.getD_eq_getElem?_getD, List.getElem?_eq_getElem hi] <;> rfl⟩
        refine wpAny_pyIter_list d5 (wpAny_bind (wpAny_runValue ?_))
        refine set_update_ints ((Walks.list (A := A.in1.in1.in1) (by simp [hh]) _ l ne1 its).toS) s.heap.objs.size nm ns size hb val (its.size - 0) 0 _ (by omega) (Nat.zero_le _) ⟨⟨_, Heap.get?_push_size _ rfl, rfl, rfl⟩, d5.push _⟩ ⟨0, Nat.le_refl 0, setR_new_at (Heap.get?_push_of_some _ b1)⟩ ?_
        intro s' c' mv hc' hS'
        obtain ⟨h', g2, d', tk', os'⟩ := s'
        obtain rfl : g2 = s.gens := mv.gens
        obtain rfl : d' = s.drawn := mv.drawn
        obtain rfl : os' = s.os := mv.os
        refine wpAny_pure ?_
        show wpAny _ _ (ret Value.none) _ _ _
        rw [size] at hc'
        refine wpAny_pure ⟨rfl, h', tk', c', rfl, hS', hc', fun b o e => ?_⟩
        have lb : b < s.heap.objs.size := Heap.lt_size e
        refine mv.heap b o (fun z => ?_) (Heap.get?_push_of_some _ (Heap.get?_push_of_some _ e))
        rcases List.mem_cons.mp z with z | z
        · exact absurd z (Nat.ne_of_lt lb)
        · have z2 := List.mem_singleton.mp z
          rw [sz1] at z2
          exact absurd z2 (Nat.ne_of_lt (Nat.lt_succ_of_lt lb))
      · cases r₂ with
        | error e => exact hr₂
        | ok f2 =>
          cases f2 with
          | next => exact hr₂
          | brk => exact hr₂
          | cont => exact hr₂
          | ret v2 =>
            obtain ⟨rfl, h', tk, c, rfl, hS, hc, hk⟩ := hr₂
            repeat (any_goals (first | assumption | wp_step))
            exact fin h' tk c hS hc hk
end
end PL
-- C6b
set_option Elab.async false
set_option linter.all false
set_option maxRecDepth 100000
set_option maxHeartbeats 4000000
/-! C6b: sorted(set(xs)), ranges as lists and tuples, xs[::-1]. -/
namespace PL
open PySem PySem.Spec PyProof.Rows L2
variable {K : PySem.W.Frag} {H H' H1 H2 : Hp} {M M' : Addr → Prop}
section
variable {X : Cx}
/-- set(xs) of few ints -/
def rSetI (w : World) : List V → Hp → VK → Prop := fun vs H Q => ∃ (l : Addr) (ns : List Int), vs = [.ref l] ∧ (H l = some (.lst (ns.map V.int)) ∨ H l = some (.tup (ns.map V.int))) ∧ ns.length < 4000 ∧
  ∀ p c, H p = none → c = (dedI (sortI ns)).length → Q (.ref p) (upd H p (SetO w p (fun j => decide (j ∈ ns)) c))
theorem scan60 {n : Nat} (h : n < 4000) : n + 1 < scanBound := Nat.lt_trans (by omega : n + 1 < 4002) (by decide +kernel)
theorem consD_mem (x k : Int) : ∀ l : List Int, k ∈ consD x l ↔ k = x ∨ k ∈ l
  | [] => by simp [consD]
  | y :: ys => by
    by_cases e : x = y
    · subst e
      rw [consD, if_pos rfl]
      exact ⟨.inr, fun h => h.elim (fun e => e ▸ List.mem_cons_self) id⟩
    · rw [consD, if_neg e]
      exact List.mem_cons
theorem dedI_mem : ∀ (xs : List Int) (k : Int), k ∈ dedI xs ↔ k ∈ xs
  | [], k => by simp [dedI]
  | x :: xs, k => by rw [dedI, consD_mem, dedI_mem xs k, List.mem_cons]
theorem consD_lt (x : Int) : ∀ l : List Int, l.Pairwise (· < ·) → (∀ k ∈ l, x ≤ k) → (consD x l).Pairwise (· < ·)
  | [], _, _ => by simp [consD]
  | y :: ys, h, hm => by
    by_cases e : x = y
    · rw [consD, if_pos e]; exact h
    · rw [consD, if_neg e, List.pairwise_cons]
      refine ⟨fun k hk => ?_, h⟩
      have h1 := hm y List.mem_cons_self
      rcases List.mem_cons.mp hk with e2 | hk
      · omega
      · have := (List.pairwise_cons.mp h).1 k hk
        omega
theorem dedI_lt : ∀ (xs : List Int), xs.Pairwise (· ≤ ·) → (dedI xs).Pairwise (· < ·)
  | [], _ => by simp [dedI]
  | x :: xs, h => by
    rw [List.pairwise_cons] at h
    exact consD_lt x _ (dedI_lt xs h.2) fun k hk => h.1 k ((dedI_mem xs k).mp hk)
theorem setR_cnt {w : World} {h : Heap} {a : Addr} {ns : List Int} {c : Nat} (R : SetR w h a (fun j => decide (j ∈ ns)) c) : c = (dedI (sortI ns)).length := by
  obtain ⟨o, es, ep, t, ho, hex, hd, g, nd, hm, hb, hf, hn, _⟩ := R
  have p : (es.toList.map keyOf).Perm (dedI (sortI ns)) := (List.perm_ext_iff_of_nodup nd ((dedI_lt _ (sortI_sorted ns)).imp fun h => Int.ne_of_lt h)).mpr fun k => by
    rw [← hm k, dedI_mem, (sortI_perm ns).mem_iff]
    exact decide_eq_true_iff
  rw [← hn, ← p.length_eq, List.length_map, Array.length_toList]
theorem cs_set (hc : X.calm = true) : CallR X (.type "set") (rSetI X.w) := by
  intro pins s σ H xs us Q I r h
  obtain ⟨l, ns, rfl, hl, h60, q⟩ := h
  rw [Vals.ref1 r]
  have fin : ∀ (h' : Heap) (tk c : Nat), SetR X.w h' s.heap.objs.size (fun j => decide (j ∈ ns)) c → c ≤ ns.length → (∀ b o, s.heap.get? b = some o → h'.get? b = some o) →
      EP X pins σ Q (.ref s.heap.objs.size) { s with heap := h', toks := tk } := fun h' tk c hS hc k =>
    ⟨.ref _, upd H s.heap.objs.size (SetO X.w s.heap.objs.size (fun j => decide (j ∈ ns)) c), I.laid k (Nat.le_refl _) (setO_new hS), rfl, q _ c (I.hok.fresh (Nat.le_refl _)) (setR_cnt hS)⟩
  rcases hl with hl | hl
  · obtain ⟨its, rv, p, _⟩ := I.list (SqL.of hl)
    exact call_set_lstI ns (I.ok.hd hc) p.isList rv.ints (scan60 h60) fin
  · obtain ⟨its, rv, p, _⟩ := I.tuple (SqT.of hl)
    exact call_set_tupI ns (I.ok.hd hc) p rv.ints (scan60 h60) fin
theorem lt_uniq : ∀ {xs ys : List Int}, xs.Pairwise (· < ·) → ys.Pairwise (· < ·) → (∀ k, k ∈ xs ↔ k ∈ ys) → xs = ys := fun {xs ys} h1 h2 hm =>
  ((List.perm_ext_iff_of_nodup (h1.imp fun h => Int.ne_of_lt h) (h2.imp fun h => Int.ne_of_lt h)).mpr hm).eq_of_pairwise (fun a b _ _ h3 h4 => absurd h3 (by omega)) h1 h2
/-- set(xs) of few ints, or of few pairs -/
def rSetU (K : PySem.W.Frag) (P : Program) (w : World) : List V → Hp → VK → Prop := fun vs H Q => rSetI w vs H Q ∨ rSetOfT K P w vs H Q
theorem cs_setU (hc : X.calm = true) (hu : X.A.units + 64 < cLine) : CallR X (.type "set") (rSetU X.K X.prog X.w) := by
  intro pins s σ H xs us Q I r h
  rcases h with h | h
  · exact cs_set hc pins s σ H xs us Q I r h
  · exact cr_setOfT hc hu pins s σ H xs us Q I r h
def rSrtU (K : PySem.W.Frag) (P : Program) (w : World) : List V → Hp → VK → Prop := fun vs H Q => rSortedSet w vs H Q ∨ rSortedT K P w vs H Q
theorem cs_srtU (hc : X.calm = true) : CallR X (.builtin "sorted") (rSrtU X.K X.prog X.w) := by
  intro pins s σ H xs us Q I r h
  rcases h with h | h
  · exact cr_sortedSet hc pins s σ H xs us Q I r h
  · exact cr_sortedT hc pins s σ H xs us Q I r h
theorem code_xy {x y : Int} : TS.code pB [x, y] = x * pB + y := by
  show x * pB ^ 1 + (y * pB ^ 0 + 0) = x * pB + y
  rw [Int.pow_succ, Int.pow_zero]
  simp
/-- pairs in the heap -/
theorem pairs_ok : ∀ {xs : List D} {vs : List V} {cs : List Int}, pairsD xs = some cs → Reps K H M xs vs → ∃ ks : List (Addr × List Int), vs = ks.map (fun p => V.ref p.1) ∧ (∀ p ∈ ks, ¬ M p.1 ∧ H p.1 = some (.tup (p.2.map V.int)) ∧ p.2.length = 2 ∧ TS.Bd pB p.2) ∧ cs = ks.map fun p => TS.code pB p.2
  | [], vs, cs, h, r => by
    cases r
    cases h
    exact ⟨[], rfl, fun _ h => (nomatch h), rfl⟩
  | d :: xs, vs, cs, h, r => by
    unfold pairsD at h
    split at h
    · rename_i z; cases z
    · rename_i x y l z
      cases z
      split at h
      · rename_i hb
        obtain ⟨v, ws, rfl, h1, h2⟩ := r
        cases q : pairsD xs with
        | none => rw [q] at h; cases h
        | some cs' =>
          rw [q] at h
          cases h
          obtain ⟨ks, rfl, e2, rfl⟩ := pairs_ok q h2
          obtain ⟨a, ws, rfl, nm, ha, hr⟩ := h1
          obtain ⟨w1, r1, rfl, z1, hr⟩ := hr
          obtain ⟨w2, r2, rfl, z2, hr⟩ := hr
          cases hr
          cases z1
          cases z2
          refine ⟨(a, [x, y]) :: ks, rfl, fun p hp => ?_, ?_⟩
          · rcases List.mem_cons.mp hp with rfl | hp
            · refine ⟨nm, ha, rfl, fun m hm => ?_⟩
              rcases List.mem_cons.mp hm with rfl | hm
              · exact ⟨hb.1, hb.2.1⟩
              · rw [List.mem_singleton.mp hm]; exact hb.2.2
            · exact e2 p hp
          · show (x * pB + y) :: _ = TS.code pB [x, y] :: _
            rw [code_xy]
      · cases h
    · cases h
theorem unpair_ok {x y : Int} (h : 0 ≤ y ∧ y < pB) : unpair (TS.code pB [x, y]) = .tup [.int x, .int y] := by
  have hp : pB = 1048576 := rfl
  unfold unpair
  rw [code_xy]
  have e1 : (x * pB + y) / pB = x := by rw [hp] at h ⊢; omega
  have e2 : (x * pB + y) % pB = y := by rw [hp] at h ⊢; omega
  rw [e1, e2]
theorem reps_unpair : ∀ (L : List (Addr × List Int)), (∀ p ∈ L, ¬ M p.1 ∧ H p.1 = some (.tup (p.2.map V.int)) ∧ p.2.length = 2 ∧ TS.Bd pB p.2) → Reps K H M ((L.map fun p => TS.code pB p.2).map unpair) (L.map fun p => V.ref p.1)
  | [], _ => rfl
  | (a, k) :: L, h => by
    obtain ⟨h1, h2, h3, h4⟩ := h (a, k) List.mem_cons_self
    refine Reps.cons ?_ (reps_unpair L fun p hp => h p (List.mem_cons_of_mem _ hp))
    match k, h3, h2, h4 with
    | [x, y], _, h2, h4 =>
      show Rep K H M (unpair (TS.code pB [x, y])) (.ref a)
      rw [unpair_ok (h4 y (by simp))]
      exact ⟨a, _, rfl, h1, h2, Reps.cons rfl (Reps.cons rfl Reps.nil)⟩
theorem code_inj {k k' : List Int} (h : k.length = 2 ∧ TS.Bd pB k) (h' : k'.length = 2 ∧ TS.Bd pB k') (e : TS.code pB k = TS.code pB k') : k = k' := by
  match k, h, k', h' with
  | [x, y], ⟨_, b⟩, [x', y'], ⟨_, b'⟩ =>
    have u := unpair_ok (x := x) (b y (by simp))
    rw [e, unpair_ok (b' y' (by simp))] at u
    injection u with u
    injection u with u1 u2
    injection u1 with u1
    injection u2 with u2 _
    injection u2 with u2
    rw [u1, u2]
/-- a new list that is sorted(set(..)), behind a set of no use any more -/
theorem ss_val {a : D} {x : V} {d : D} {Q : VK} (m : MOk M H) (ra : Rep K H M a x) (e : ssF a = .ok d) (q : Vl K M H Q true d) (P : Program) (w : World) :
    rSetU K P w [x] H fun y H2 => rSrtU K P w [y] H2 Q := by
  unfold ssF at e
  obtain ⟨xs, e1, e2⟩ := rb_eq_ok e
  split at e2
  · rename_i ns e3
    have e5 : intsOf a = .ok ns := by unfold intsOf; rw [e1]; show ofO (intsD xs) = _; rw [e3]; rfl
    obtain ⟨p, rfl, hp⟩ := intsOf_ok e5 ra
    unfold ssI at e2
    split at e2
    · rename_i h60
      cases e2
      refine .inl ⟨p, ns, rfl, hp, h60.1, fun p2 c n2 hc => .inl ⟨p2, _, c, rfl, upd_same, by have := h60.2; omega, fun ns' p3 lt mem _ n3 => ?_⟩⟩
      have e : ns' = dedI (sortI ns) := lt_uniq lt (dedI_lt _ (sortI_sorted ns)) fun k => by
        rw [mem k, dedI_mem, (sortI_perm ns).mem_iff]
        exact decide_eq_true_iff
      subst e
      have s1 : Same H (upd H p2 (SetO w p2 (fun j => decide (j ∈ ns)) c)) := same_upd n2
      exact (q.later s1).newL (m.same s1) n3 (reps_int _)
    · cases e2
  · cases a <;> first | (cases e2; done) | skip
    cases e1
    obtain ⟨cs, e3, e4⟩ := rb_eq_ok e2
    obtain ⟨p, vs, rfl, nm, hp, hr⟩ := ra
    obtain ⟨ks, rfl, hk, rfl⟩ := pairs_ok (ofO_ok e3) hr
    unfold ssP at e4
    split at e4
    · rename_i h64
      cases e4
      rw [List.length_map] at h64
      refine .inr ⟨p, ks, rfl, SqL.of hp, fun k hk' => SqT.of (hk k hk').2.1, h64, fun p2 L n2 hL1 hL2 => .inr ?_⟩
      have s1 : Same H (upd H p2 (SetTO P w p2 L)) := same_upd n2
      refine ⟨p2, L, 2, pB, rfl, upd_same, fun k hk' => SqT.of (s1 _ _ (hk k (hL1 k hk')).2.1), by decide, fun k hk' => (hk k (hL1 k hk')).2.2, fun L' p3 pm nd _ pw n3 => ?_⟩
      have hL' : ∀ k ∈ L', k ∈ ks := fun k hk' => hL1 k (pm.mem_iff.mp hk')
      have inj : ∀ k ∈ L', ∀ k' ∈ L', TS.code pB k.2 = TS.code pB k'.2 → k.2 = k'.2 := fun k h1 k' h2 e => code_inj (hk k (hL' k h1)).2.2 (hk k' (hL' k' h2)).2.2 e
      have lt : (L'.map fun q => TS.code pB q.2).Pairwise (· < ·) := by
        rw [List.pairwise_map]
        have nd2 : L'.Pairwise fun a b => a.2 ≠ b.2 := List.pairwise_map.mp nd
        have both := pw.and nd2
        refine List.Pairwise.imp_of_mem (fun {a b} ha hb h => ?_) both
        have h1 := h.1
        have h2 : TS.code pB a.2 ≠ TS.code pB b.2 := fun e => h.2 (inj a ha b hb e)
        omega
      have e : (L'.map fun q => TS.code pB q.2) = dedI (sortI (ks.map fun p => TS.code pB p.2)) := lt_uniq lt (dedI_lt _ (sortI_sorted _)) fun k => by
        rw [dedI_mem, (sortI_perm _).mem_iff]
        constructor
        · intro h
          obtain ⟨b, hb, rfl⟩ := List.mem_map.mp h
          exact List.mem_map.mpr ⟨b, hL' b hb, rfl⟩
        · intro h
          obtain ⟨b, hb, rfl⟩ := List.mem_map.mp h
          obtain ⟨c, hc, ec⟩ := List.mem_map.mp (hL2 b hb)
          exact List.mem_map.mpr ⟨c, pm.mem_iff.mpr hc, by rw [ec]⟩
      rw [← e] at q
      refine (q.later s1).newL (m.same s1) n3 (reps_unpair L' fun k hk' => ?_)
      obtain ⟨h1, h2, h3⟩ := hk k (hL' k hk')
      exact ⟨h1, s1 _ _ h2, h3⟩
    · cases e4
/-- sorted(set(..)) -/
def tSS (K : PySem.W.Frag) (P : Program) (w : World) (te : TE) : TE := fun σ H Q => te σ H fun x H1 => rSetU K P w [x] H1 fun y H2 => rSrtU K P w [y] H2 Q
theorem pe_ss {e : Expr} {te : TE} {p1 p2 q1 q2 : Pos} (hc : X.calm = true) (hu : X.A.units + 64 < cLine) (g1 : Gl X "sorted") (m1 : X.mg "sorted" = none) (g2 : Gl X "set") (m2 : X.mg "set" = none) (he : PE X e te)
    (ns : starEach [e] X.env = (false, PySem.eval e X.env) :: starEach [] X.env) : PE X (.Call (.Name "sorted" p1) [.Call (.Name "set" p2) [e] [] q2] [] q1) (tSS X.K X.prog X.w te) :=
  pe_callB (pos := q1) (p := p1) (cs_srtU hc) g1 m1 (by decide +kernel) (pa_cons (pe_callTy (pos := q2) (p := p2) (cs_setU hc hu) g2 m2 (by decide +kernel) (pa_cons he pa_nil ns) (by decide) (by decide) ns rfl) pa_nil)

/-! ### len(set(..)) -/
def rLenS (w : World) : List V → Hp → VK → Prop := fun vs H Q => ∃ (a : Addr) (S : Int → Bool) (n : Nat), vs = [V.ref a] ∧ H a = some (SetO w a S n) ∧ Q (.int n) H
theorem cr_lenS : CallR X (.builtin "len") (rLenS X.w) := by
  intro pins s σ H vs us Q I r h
  obtain ⟨a, S, n, rfl, ha, q⟩ := h
  have R := setO_get I ha
  rw [Vals.ref1 r]
  obtain ⟨o, es, ep, t, ho, hex, hd, _, _, _, hb, hf, hn, _⟩ := R
  have hb : es.size < 4096 := hb
  exact call_len_set ho hex hd hf (by omega) ⟨.int n, H, I.tok _, ⟨_, by rw [hn]⟩, q⟩
theorem ls_val {a : D} {x : V} {d : D} {Q : VK} {fr : Bool} (m : MOk M H) (ra : Rep K H M a x) (e : lsF a = .ok d) (q : Vl K M H Q fr d) (w : World) :
    rSetI w [x] H fun y H2 => rLenS w [y] H2 Q := by
  unfold lsF at e
  obtain ⟨xs, e1, e2⟩ := rb_eq_ok e
  obtain ⟨ns, e3, e4⟩ := rb_eq_ok e2
  have e5 : intsOf a = .ok ns := by unfold intsOf; rw [e1]; exact e3
  obtain ⟨p, rfl, hp⟩ := intsOf_ok e5 ra
  split at e4
  · rename_i h60
    cases e4
    refine ⟨p, ns, rfl, hp, h60, fun p2 c n2 hc => ⟨p2, _, c, rfl, upd_same, ?_⟩⟩
    subst hc
    have s1 : Same H (upd H p2 (SetO w p2 (fun j => decide (j ∈ ns)) (dedI (sortI ns)).length)) := same_upd n2
    exact (q.later s1).sc rfl fun _ z => nomatch z
  · cases e4
def tLS (w : World) (te : TE) : TE := fun σ H Q => te σ H fun x H1 => rSetI w [x] H1 fun y H2 => rLenS w [y] H2 Q
theorem pe_ls {e : Expr} {te : TE} {p1 p2 q1 q2 : Pos} (hc : X.calm = true) (g1 : Gl X "len") (m1 : X.mg "len" = none) (g2 : Gl X "set") (m2 : X.mg "set" = none) (he : PE X e te)
    (ns : starEach [e] X.env = (false, PySem.eval e X.env) :: starEach [] X.env) : PE X (.Call (.Name "len" p1) [.Call (.Name "set" p2) [e] [] q2] [] q1) (tLS X.w te) :=
  pe_callB (pos := q1) (p := p1) cr_lenS g1 m1 (by decide +kernel) (pa_cons (pe_callTy (pos := q2) (p := p2) (cs_set hc) g2 m2 (by decide +kernel) (pa_cons he pa_nil ns) (by decide) (by decide) ns rfl) pa_nil)

/-! ### ranges as lists, as tuples -/
theorem rngN_one : ∀ (n : Nat) (lo : Int), rngN n lo 1 = (List.range n).map fun i => D.int (lo + (i : Nat))
  | 0, lo => rfl
  | n + 1, lo => by
    rw [rngN, rngN_one n (lo + 1), List.range_succ_eq_map, List.map_cons, List.map_map]
    congr 1
    · simp
    · apply List.map_congr_left
      intro i _
      show D.int (lo + 1 + (i : Nat)) = D.int (lo + ((i + 1 : Nat) : Int))
      congr 1
      omega
theorem reps_rng (lo hi : Int) : Reps K H M (rngN (hi - lo).toNat lo 1) (rgV lo hi) := by
  rw [rngN_one]
  unfold rgV
  generalize (hi - lo).toNat = n
  have : ∀ l : List Nat, Reps K H M (l.map fun i => D.int (lo + (i : Nat))) (l.map fun i => V.int (lo + (i : Nat))) := fun l => by
    induction l with
    | nil => exact rfl
    | cons a r ih => exact Reps.cons rfl ih
  exact this _
theorem small62_ok {i : Int} (h : small62 i = true) : -(2 ^ 60) ≤ i ∧ i < 2 ^ 60 := by
  unfold small62 at h
  rw [Bool.and_eq_true] at h
  exact ⟨of_decide_eq_true h.1, of_decide_eq_true h.2⟩
theorem rngN_len : ∀ (n : Nat) (lo st : Int), (rngN n lo st).length = n
  | 0, _, _ => rfl
  | n + 1, lo, st => by rw [rngN, List.length_cons, rngN_len n]
end
end PL
-- C7
set_option Elab.async false
set_option linter.all false
set_option maxRecDepth 100000
set_option maxHeartbeats 4000000
/-! C7: an expression of the program's text and the pure expression that it is worth: the look (mE) and the rule (snd_e). -/
namespace PL
open PySem PySem.Spec PyProof.Rows L2
variable {K : PySem.W.Frag} {H H' H1 H2 : Hp} {M M' : Addr → Prop}

/-! ### the look -/
def visB (sc : Scope) (x : Str) : Bool := match sc.names.lookup x with
  | some .local => true
  | some .cell => true
  | some .free => true
  | _ => false
def locB (sc : Scope) (x : Str) : Bool := match sc.names.lookup x with
  | some .local => true
  | some .cell => true
  | _ => false
def glB (sc : Scope) (x : Str) : Bool := match sc.names.lookup x with
  | some .globalImplicit => true
  | _ => false
def okName (x : Str) : Bool := !(x == ("__debug__" : Str)) && !(x == ("__classdict__" : Str)) && !(x == ("__name__" : Str))
def notStar : Expr → Bool
  | .Starred .. => false
  | _ => true
def plainT : Expr → Bool
  | .UnaryOp .Not _ _ => false
  | .BoolOp .. => false
  | .IfExp .. => false
  | .Compare .. => false
  | _ => true
def baseOk : Expr → Bool
  | .Name .. => true
  | .Subscript .. => true
  | .List .. => true
  | .BinOp .. => true
  | .Constant .. => true
  | _ => false
def ixOk : Expr → Bool
  | .Slice .. => false
  | _ => true
def notSet : Expr → Bool
  | .Set .. => false
  | _ => true
/-- the built-ins by name -/
def biN : Bi → Option (Str × Bool)
  | .len => some ("len", false)
  | .sum => some ("sum", false)
  | .min => some ("min", false)
  | .max => some ("max", false)
  | .all => some ("all", false)
  | .any => some ("any", false)
  | .sorted => some ("sorted", false)
  | .tuple => some ("tuple", true)
  | .list => some ("list", true)
  | _ => none
def buNames : List Str := ["len", "sum", "min", "max", "all", "any", "sorted", "tuple", "list", "set", "range", "zip", "enumerate", "isinstance", "int", "bool", "str"]
structure Cxt where
  N : List Str
  T : List FnD
  cs : List (Str × D)
def conB : Const → D → Bool
  | .int i, .int j => decide (i = j)
  | .bool i, .bl j => i == j
  | .none, .non => true
  | .str x, .str y => decide (x = y)
  | _, _ => false
def eqCs : D → D → Bool
  | .int i, .int j => decide (i = j)
  | .str x, .str y => decide (x = y)
  | _, _ => false
mutual
def mTg (C : Cxt) (sc : Scope) : Tg → Expr → Bool
  | .nm i, .Name x _ => decide (C.N[i]? = some x) && locB sc x
  | .tp ts, .Tuple es _ _ => mTgs C sc ts es
  | _, _ => false
def mTgs (C : Cxt) (sc : Scope) : Tgs → List Expr → Bool
  | .nil, [] => true
  | .cons t ts, e :: es => notStar e && (mTg C sc t e && mTgs C sc ts es)
  | _, _ => false
end
mutual
def slots : Tg → List Nat
  | .nm i => [i]
  | .tp ts => slotss ts
def slotss : Tgs → List Nat
  | .nil => []
  | .cons t ts => slots t ++ slotss ts
end
/-- a test whose text is no conditional expression -/
def tstE : Ex → Bool
  | .ife .. => false
  | .and a b => tstE a && tstE b
  | .or a b => tstE a && tstE b
  | .not a => tstE a
  | _ => true
def tgOk : It → Expr → Bool
  | .zip2 .., .Tuple .. => true
  | .zip3 .., .Tuple .. => true
  | .enum .., .Tuple .. => true
  | .zip2 .., _ => false
  | .zip3 .., _ => false
  | .enum .., _ => false
  | _, _ => true
def ownOf (C : Cxt) (own : List Nat) : List (Str × Nat) := own.map fun i => (C.N.getD i "", i)
mutual
def mE (C : Cxt) : Ex → Scope → Expr → Bool
  | .var i, sc, .Name x _ => decide (C.N[i]? = some x) && visB sc x && okName x
  | .con d, _, .Constant c _ _ => conB c d
  | .gl y d, sc, .Name x _ => decide (x = y) && glB sc x && okName x && (match C.cs.lookup x with
    | some d' => eqCs d d'
    | none => false)
  | .bin o p q, sc, .BinOp a o' b _ => decide (opB o = o') && (mE C p sc a && mE C q sc b)
  | .neg p, sc, .UnaryOp .USub a _ => mE C p sc a
  | .not p, sc, .UnaryOp .Not a _ => mE C p sc a
  | .cmp o p q, sc, .Compare a [o'] [b] _ => decide (copB o = o') && !behindInMarks o' b && (mE C p sc a && mE C q sc b)
  | .chain o o2 p q r, sc, .Compare a [o', o2'] [b, c] _ => decide (copB o = o') && decide (copB o2 = o2') && !lastMarks [o', o2'] [b, c] && (mE C p sc a && (mE C q sc b && mE C r sc c))
  | .and p q, sc, .BoolOp .And (a :: b :: r) pos => mE C p sc a && (match r with
    | [] => mE C q sc b
    | _ :: _ => mE C q sc (.BoolOp .And (b :: r) pos))
  | .or p q, sc, .BoolOp .Or (a :: b :: r) pos => mE C p sc a && (match r with
    | [] => mE C q sc b
    | _ :: _ => mE C q sc (.BoolOp .Or (b :: r) pos))
  | .ife r p q, sc, .IfExp c a b _ => tstE r && (mE C r sc c && (mE C p sc a && mE C q sc b))
  | .tup ps, sc, .Tuple es _ _ => mEs C ps sc es
  | .lst ps, sc, .List es _ => mEs C ps sc es
  | .call i fr ps, sc, .Call (.Name x _) (e :: es) [] _ => glB sc x && okName x && (match C.T[i]? with
      | some f => decide (f.name = x) && (f.fr == fr)
      | none => false) && mEs C ps sc (e :: es)
  | .bi b (.cons p .nil), sc, .Call (.Name x _) [e] [] _ => glB sc x && (match biN b with
      | some (y, _) => decide (x = y)
      | none => false) && notStar e && mE C p sc e
  | .bi b (.cons p (.cons q .nil)), sc, .Call (.Name x _) [e, e2] [] _ => glB sc x && (match b with
      | .min => decide (x = ("min" : Str))
      | .max => decide (x = ("max" : Str))
      | _ => false) && notStar e && notStar e2 && (mE C p sc e && mE C q sc e2)
  | .isI t p, sc, .Call (.Name x _) [e, .Name y _] [] _ => decide (x = ("isinstance" : Str)) && glB sc x && glB sc y && (match tyN t with
      | some n => decide (y = Str.ofString n)
      | none => false) && notStar e && mE C p sc e
  | .me m o (.cons p .nil), sc, .Call (.Attribute a x apos) [e] [] cpos => (match m with
      | .count => decide (x = ("count" : Str))
      | .index => decide (x = ("index" : Str))
      | _ => false) && (apos.endLine == cpos.line) && baseOk a && notStar e && (mE C o sc a && mE C p sc e)
  | .sl p lo hi, sc, .Subscript a (.Slice l h none _) _ => mE C p sc a && (mO C lo sc l && mO C hi sc h)
  | .rev p, sc, .Subscript a (.Slice none none (some (.UnaryOp .USub (.Constant (.int 1) _ _) _)) _) _ => mE C p sc a
  | .ix p q, sc, .Subscript a b _ => ixOk b && (mE C p sc a && mE C q sc b)
  | .sset p, sc, .Call (.Name x _) [.Call (.Name y _) [e] [] _] [] _ => decide (x = ("sorted" : Str)) && decide (y = ("set" : Str)) && glB sc x && glB sc y && notStar e && mE C p sc e
  | .lset p, sc, .Call (.Name x _) [.Call (.Name y _) [e] [] _] [] _ => decide (x = ("len" : Str)) && decide (y = ("set" : Str)) && glB sc x && glB sc y && notStar e && mE C p sc e
  | .rg tp (.rng1 p), sc, .Call (.Name x _) [.Call (.Name y _) [e] [] _] [] _ => decide (x = if tp then ("tuple" : Str) else "list") && decide (y = ("range" : Str)) && glB sc x && glB sc y && notStar e && mE C p sc e
  | .rg tp (.rng2 p q), sc, .Call (.Name x _) [.Call (.Name y _) [e, e2] [] _] [] _ => decide (x = if tp then ("tuple" : Str) else "list") && decide (y = ("range" : Str)) && glB sc x && glB sc y && notStar e && notStar e2 && (mE C p sc e && mE C q sc e2)
  | .rg tp (.zip2 p q), sc, .Call (.Name x _) [.Call (.Name y _) [e, e2] [] _] [] _ => !tp && decide (x = ("list" : Str)) && decide (y = ("zip" : Str)) && glB sc x && glB sc y && notStar e && notStar e2 && (mE C p sc e && mE C q sc e2)
  | .comp elt own tg it cond, sc, .ListComp e [⟨t, i, ifs, 0⟩] scope _ => blkC C.N sc scope (ownOf C own) && mTg C scope tg t && tgOk it t && (slots tg).all (own.contains ·) && mI C it sc i && mE C elt (relS scope sc) e && mC C cond (relS scope sc) ifs
  | _, _, _ => false
def mEs (C : Cxt) : Exs → Scope → List Expr → Bool
  | .nil, _, [] => true
  | .cons p ps, sc, e :: es => notStar e && (mE C p sc e && mEs C ps sc es)
  | _, _, _ => false
def mO (C : Cxt) : Eo → Scope → Option Expr → Bool
  | .no, _, none => true
  | .so p, sc, some e => mE C p sc e
  | _, _, _ => false
def mC (C : Cxt) : Eo → Scope → List Expr → Bool
  | .no, _, [] => true
  | .so p, sc, [e] => tstE p && mE C p sc e
  | _, _, _ => false
def mI (C : Cxt) : It → Scope → Expr → Bool
  | .ex p, sc, e => notSet e && mE C p sc e
  | .rng1 p, sc, .Call (.Name x _) [a] [] _ => decide (x = ("range" : Str)) && glB sc x && notStar a && mE C p sc a
  | .rng2 p q, sc, .Call (.Name x _) [a, b] [] _ => decide (x = ("range" : Str)) && glB sc x && notStar a && notStar b && (mE C p sc a && mE C q sc b)
  | .rng3 p q r, sc, .Call (.Name x _) [a, b, c] [] _ => decide (x = ("range" : Str)) && glB sc x && notStar a && notStar b && notStar c && (mE C p sc a && (mE C q sc b && mE C r sc c))
  | .zip2 p q, sc, .Call (.Name x _) [a, b] [] _ => decide (x = ("zip" : Str)) && glB sc x && notStar a && notStar b && (mE C p sc a && mE C q sc b)
  | .zip3 p q r, sc, .Call (.Name x _) [a, b, c] [] _ => decide (x = ("zip" : Str)) && glB sc x && notStar a && notStar b && notStar c && (mE C p sc a && (mE C q sc b && mE C r sc c))
  | _, _, _ => false
end

/-! ### readings by data -/
abbrev WS := Str → L2.St → Hp → Prop
def wpR {α : Type} (W : WS) (σ : L2.St) (H : Hp) (r : Res α) (k : α → Prop) : Prop := match r with
  | .ok a => k a
  | .exn c => ∀ H', Same H H' → W c σ H'
  | .bad => False
theorem wpR.bind {α β : Type} {W : WS} {σ : L2.St} {r : Res α} {f : α → Res β} {k : β → Prop} (h : wpR W σ H (r.rb f) k) : wpR W σ H r fun a => wpR W σ H (f a) k := by
  cases r with
  | ok a => exact h
  | exn c => exact h
  | bad => exact h
theorem wpR.mono {α : Type} {W : WS} {σ : L2.St} {r : Res α} {k k' : α → Prop} (h : wpR W σ H r k) (s : Same H H1) (hk : ∀ a, r = .ok a → k a → k' a) : wpR W σ H1 r k' := by
  cases r with
  | ok a => exact hk a rfl h
  | exn c => exact fun H' s' => h H' (s.trans s')
  | bad => exact h
def VRel (K : PySem.W.Frag) (M : Addr → Prop) (H : Hp) (σ : L2.St) (env : Ev) : Prop := MOk M H ∧ σ.length = env.length ∧ ∀ (i : Nat) (d : D), env[i]? = some (some d) → ∃ v : V, σ[i]? = some (some v) ∧ Rep K H M d v
theorem VRel.same {σ : L2.St} {env : Ev} (r : VRel K M H σ env) (s : Same H H1) : VRel K M H1 σ env := ⟨r.1.same s, r.2.1, fun i d e => by
  obtain ⟨v, h1, h2⟩ := r.2.2 i d e
  exact ⟨v, h1, h2.same s⟩⟩
def tD (K : PySem.W.Frag) (W : WS) (φ : Phi) (p : Ex) : TE := fun σ H Q => ∃ M env, VRel K M H σ env ∧ wpR W σ H (eval φ p env) (Vl K M H Q (fresh p))
def tDs (K : PySem.W.Frag) (W : WS) (φ : Phi) (ps : Exs) : TA := fun σ H Q => ∃ M env, VRel K M H σ env ∧ wpR W σ H (evals φ ps env) fun ds => ∀ vs H', Same H H' → Reps K H' M ds vs → Q vs H'
def tDt (K : PySem.W.Frag) (W : WS) (φ : Phi) (p : Ex) : TT := fun σ H Q => ∃ M env, VRel K M H σ env ∧ wpR W σ H (eval φ p env) fun d => ∃ b, d = .bl b ∧ ∀ H', Same H H' → Q b H'
def tDo (K : PySem.W.Frag) (W : WS) (φ : Phi) (p : Eo) : TO := fun σ H Q => ∃ M env, VRel K M H σ env ∧ wpR W σ H (evalo φ p env) fun o => ∀ H', Same H H' → Q o H'
def tDc (K : PySem.W.Frag) (W : WS) (φ : Phi) (p : Eo) : TT := fun σ H Q => ∃ M env, VRel K M H σ env ∧ wpR W σ H (evalc φ p env) fun b => ∀ H', Same H H' → Q b H'
/-- the heap without M -/
def hid (M : Addr → Prop) [DecidablePred M] (H : Hp) : Hp := fun a => if M a then none else H a
/-- an iterator that yields the data ds, all of it lying in G -/
def Wk (K : PySem.W.Frag) (J : L2.It) (ds : List D) (G : Hp) : Prop := ∀ H, Same G H →
  (∀ i d, ds[i]? = some d → J.go i H ∧ ∀ x H', J.yld i H x H' → Same H H' ∧ ∀ M, MOk M H → (∀ a, M a → G a = none) → Rep K H' M d x) ∧ J.stop ds.length H
open Classical in
def tDi (K : PySem.W.Frag) (W : WS) (φ : Phi) (p : PL.It) : TI := fun σ H R => ∃ M env, VRel K M H σ env ∧ wpR W σ H (evalI φ p env) fun ds => ∀ J H', Same H H' → Wk K J ds (hid M H') → R J H'
/-- of a range: the items lean on no heap -/
def tDiR (K : PySem.W.Frag) (W : WS) (φ : Phi) (p : PL.It) : TI := fun σ H R => ∃ M env, VRel K M H σ env ∧ wpR W σ H (evalI φ p env) fun ds => ∀ J H', Same H H' → (∀ G, Wk K J ds G) → R J H'
theorem _root_.L2.PE.imp {X : Cx} {e : Expr} {t t' : TE} (h : PE X e t) (k : ∀ σ H Q, t' σ H Q → t σ H Q) : PE X e t' := ⟨fun pins s σ H Q I q => h.run pins s σ H Q I (k _ _ _ q)⟩
theorem _root_.L2.PT.imp {X : Cx} {e : Expr} {t t' : TT} (h : PT X e t) (k : ∀ σ H Q, t' σ H Q → t σ H Q) : PT X e t' := ⟨fun pins s σ H Q I q => h.run pins s σ H Q I (k _ _ _ q)⟩
theorem _root_.L2.PW.imp {X : Cx} {e : Expr} {t t' : TT} (h : PW X e t) (k : ∀ σ H Q, t' σ H Q → t σ H Q) : PW X e t' := ⟨fun wh pins s σ H Q I q => h.run wh pins s σ H Q I (k _ _ _ q)⟩
theorem _root_.L2.PA.imp {X : Cx} {e : List Expr} {t t' : TA} (h : PA X e t) (k : ∀ σ H Q, t' σ H Q → t σ H Q) : PA X e t' := ⟨fun pos pins s σ H Q I q => h.run pos pins s σ H Q I (k _ _ _ q)⟩
theorem _root_.L2.PI.imp {X : Cx} {tg e : Expr} {t t' : TI} (h : PI X tg e t) (k : ∀ σ H Q, t' σ H Q → t σ H Q) : PI X tg e t' := ⟨fun pins s σ H Q I q => h.run pins s σ H Q I (k _ _ _ q)⟩

/-! ### defs by data -/
def spD (K : PySem.W.Frag) (cl : Str → Value) (g : List D → Res D) (fr : Bool) (np : Nat) : Sp := fun vs H Q E => vs.length = np ∧ ∃ M ds, MOk M H ∧ Reps K H M ds vs ∧ (match g ds with
  | .ok d => Vl K M H Q fr d
  | .exn c => ∀ H', Same H H' → E (cl c) none H'
  | .bad => False)
structure XOk (C : Cxt) (n : Nat) (cl : Str → Value) (W : WS) (sc osc : Scope) (X : Cx) : Prop where
  hN : X.N = C.N
  nd : C.N.Nodup
  hsc : X.env.scope = sc
  tg : ∀ x, locB osc x = true → L2.Loc sc x ∧ (X.fn x = true ∨ sc.names.lookup x = some .local)
  calm : X.calm = true
  room : Room n X.A
  tk : Takes X (fun cls d σ H => d = none ∧ ∃ c, cls = cl c ∧ W c σ H)
  bu : ∀ x ∈ buNames, X.mg x = none
  co : ∀ x d, C.cs.lookup x = some d → ∃ v u, X.mg x = some u ∧ RelV v u ∧ ∀ H M, Rep X.K H M d v
  fn : ∀ i f, C.T[i]? = some f → ∃ a fd, FnOk X.prog X.w X.K X.mg X.base (L2.CX X.prog X.w) n a fd (f.names.take f.np) (spD X.K cl (run C.T n i) f.fr f.np) ∧
    X.mg f.name = some (.ref a) ∧ PySem.W.keepIn X.K (.ref a) = true ∧ Binds X.K fd (f.names.take f.np) []

/-! ### small lemmas of the text -/
theorem star_cons {e : Expr} {es : List Expr} {env : Env} (h : notStar e = true) : starEach (e :: es) env = (false, PySem.eval e env) :: starEach es env := by
  cases e <;> first | rfl | cases h
theorem behind_of {op : CmpOp} {b : Expr} (h : (!behindInMarks op b) = true) : behindInMarks op b = false := by simpa using h
theorem vis_of {sc : Scope} {x : Str} (h : visB sc x = true) : Vis sc x := by
  unfold visB at h
  unfold Vis
  cases q : sc.names.lookup x with
  | none => rw [q] at h; cases h
  | some k => rw [q] at h; cases k <;> first | (cases h; done) | simp
theorem loc_of {sc : Scope} {x : Str} (h : locB sc x = true) : L2.Loc sc x := by
  unfold locB at h
  unfold L2.Loc
  cases q : sc.names.lookup x with
  | none => rw [q] at h; cases h
  | some k => rw [q] at h; cases k <;> first | (cases h; done) | simp
theorem gl_of {sc : Scope} {x : Str} (h : glB sc x = true) : sc.names.lookup x = some .globalImplicit := by
  unfold glB at h
  cases q : sc.names.lookup x with
  | none => rw [q] at h; cases h
  | some k => rw [q] at h; cases k <;> first | (cases h; done) | rfl
theorem okName_1 {x : Str} (h : okName x = true) : (x == ("__debug__" : Str)) = false := by
  unfold okName at h
  simp only [Bool.and_eq_true, Bool.not_eq_true'] at h
  exact h.1.1
theorem okName_2 {x : Str} (h : okName x = true) : (x == ("__classdict__" : Str)) = false := by
  unfold okName at h
  simp only [Bool.and_eq_true, Bool.not_eq_true'] at h
  exact h.1.2
section
variable {C : Cxt} {n : Nat} {cl : Str → Value} {W : WS} {sc osc : Scope} {X : Cx}
theorem XOk.gl (x : XOk C n cl W sc osc X) {y : Str} (h : glB sc y = true) : Gl X y := by
  show X.env.scope.names.lookup y = _
  rw [x.hsc]; exact gl_of h
theorem XOk.hu (x : XOk C n cl W sc osc X) : X.A.units + 64 < cLine := x.room.units
end
end PL
-- C8
set_option Elab.async false
set_option linter.all false
set_option maxRecDepth 100000
set_option maxHeartbeats 4000000
/-! C8: each construct's rule by data. -/
namespace PL
open PySem PySem.Spec PyProof.Rows L2

/-! ### no operation raises -/
abbrev NX {α : Type} (r : Res α) : Prop := ∀ c, r ≠ .exn c
theorem nx_ok {α : Type} (a : α) : NX (Res.ok a) := fun _ h => nomatch h
theorem nx_bad {α : Type} : NX (Res.bad : Res α) := fun _ h => nomatch h
theorem nx_rb {α β : Type} {r : Res α} {f : α → Res β} (h : NX r) (g : ∀ a, NX (f a)) : NX (r.rb f) := by
  cases r with
  | ok a => exact g a
  | exn c => exact absurd rfl (h c)
  | bad => exact nx_bad
theorem nx_ofO {α : Type} (o : Option α) : NX (ofO o) := by
  cases o with
  | none => exact nx_bad
  | some a => exact nx_ok a
theorem nx_ite {α : Type} {c : Prop} [Decidable c] {a b : Res α} (h : NX a) (g : NX b) : NX (if c then a else b) := by
  split
  · exact h
  · exact g
theorem nx_okL (xs : List D) : NX (okL xs) := nx_ite (nx_ok _) nx_bad
theorem nx_okT (xs : List D) : NX (okT xs) := nx_ite (nx_ok _) nx_bad
theorem nx_asInt (d : D) : NX (asInt d) := by cases d <;> first | exact nx_ok _ | exact nx_bad
theorem nx_asBl (d : D) : NX (asBl d) := by cases d <;> first | exact nx_ok _ | exact nx_bad
theorem nx_seqD (d : D) : NX (seqD d) := by cases d <;> first | exact nx_ok _ | exact nx_bad
theorem nx_lstOf (d : D) : NX (lstOf d) := by cases d <;> first | exact nx_ok _ | exact nx_bad
theorem nx_zipF (a b : D) : NX (zipF a b) := by cases a <;> cases b <;> first | exact nx_ok _ | exact nx_bad
theorem nx_walkF (d : D) : NX (walkF d) := by cases d <;> first | exact nx_ok _ | exact nx_bad
theorem nx_bin (o : BOp) (a b : D) : NX (binF o a b) := by
  cases o <;> cases a <;> cases b <;> first | exact nx_ok _ | exact nx_bad | exact nx_okL _ | exact nx_okT _ | exact nx_ite (nx_ok _) nx_bad
theorem nx_cmp (o : COp) (a b : D) : NX (cmpF o a b) := by
  cases o
  case eq => exact nx_ite (nx_ok _) nx_bad
  case ne => exact nx_ite (nx_ok _) nx_bad
  all_goals (cases a <;> cases b <;> first | exact nx_ok _ | exact nx_bad | exact nx_ite (nx_ok _) nx_bad)
theorem nx_intsOf (a : D) : NX (intsOf a) := nx_rb (nx_seqD a) fun _ => nx_ofO _
theorem nx_minA (ns : List D) : NX (minA ns) := by
  unfold minA
  split
  · rename_i l _; cases l <;> first | exact nx_ok _ | exact nx_bad
  · cases ns <;> first | exact nx_bad | exact nx_ite (nx_ok _) nx_bad
theorem nx_sortA (ns : List D) : NX (sortA ns) := by
  unfold sortA
  split
  · exact nx_ok _
  · exact nx_ite (nx_ok _) nx_bad
theorem nx_bi1 (b : Bi) (a : D) : NX (bi1 b a) := by
  cases b
  case len => cases a <;> first | exact nx_ok _ | exact nx_bad | exact nx_ite (nx_ok _) nx_bad
  case sum => exact nx_rb (nx_intsOf a) fun _ => nx_ok _
  case min => exact nx_rb (nx_seqD a) nx_minA
  case max => exact nx_rb (nx_intsOf a) fun ns => by cases ns <;> first | exact nx_ok _ | exact nx_bad
  case all => exact nx_rb (nx_lstOf a) fun _ => nx_rb (nx_ofO _) fun _ => nx_ok _
  case any => exact nx_rb (nx_lstOf a) fun _ => nx_rb (nx_ofO _) fun _ => nx_ok _
  case sorted => exact nx_rb (nx_lstOf a) nx_sortA
  case tuple => cases a <;> first | exact nx_ok _ | exact nx_bad
  case list => cases a <;> first | exact nx_ok _ | exact nx_bad
  case str => exact nx_bad
  case int => exact nx_bad
theorem nx_bi2 (b : Bi) (a c : D) : NX (bi2 b a c) := by
  cases b
  case min => cases a <;> cases c <;> first | exact nx_ok _ | exact nx_bad
  case max => cases a <;> cases c <;> first | exact nx_ok _ | exact nx_bad
  all_goals exact nx_bad
theorem nx_isF (t : Ty) (a : D) : NX (isF t a) := by cases t <;> cases a <;> first | exact nx_ok _ | exact nx_bad
theorem nx_me (m : Me) (o : D) (xs : List D) : NX (meF m o xs) := by
  unfold meF
  split
  · exact nx_ite (nx_ok _) nx_bad
  · exact nx_ite (nx_rb (nx_ofO _) fun _ => nx_ok _) nx_bad
  · exact nx_bad
theorem nx_recv (m : Me) (o : D) : NX (recv m o) := by cases m <;> cases o <;> first | exact nx_ok _ | exact nx_bad
theorem nx_ix (a b : D) : NX (ixF a b) := by
  cases a <;> cases b <;> first | exact nx_ofO _ | exact nx_bad | exact nx_rb (nx_ofO _) fun _ => nx_ok _
theorem nx_sl (a : D) (l h : Option Int) : NX (slF a l h) := by cases a <;> first | exact nx_ok _ | exact nx_bad
theorem nx_rev (a : D) : NX (revF a) := by cases a <;> first | exact nx_ok _ | exact nx_bad
theorem nx_ls (a : D) : NX (lsF a) := nx_rb (nx_seqD a) fun _ => nx_rb (nx_ofO _) fun _ => nx_ite (nx_ok _) nx_bad
theorem nx_ss (a : D) : NX (ssF a) := nx_rb (nx_seqD a) fun _ => by
  split
  · exact nx_ite (nx_ok _) nx_bad
  · split
    · exact nx_rb (nx_ofO _) fun _ => nx_ite (nx_ok _) nx_bad
    · exact nx_bad
theorem nx_rng (a b : Int) : NX (rngF a b) := nx_ite (nx_ok _) nx_bad
theorem nx_rng3 (a b c : Int) : NX (rngF3 a b c) := nx_ite (nx_ok _) nx_bad

variable {K : PySem.W.Frag} {H H' H1 H2 : Hp} {M M' : Addr → Prop}
theorem wpR.okv {α : Type} {W : WS} {σ : L2.St} {r : Res α} {k : α → Prop} (h : wpR W σ H r k) (nx : NX r) : ∃ d, r = .ok d ∧ k d := by
  cases r with
  | ok a => exact ⟨a, rfl, h⟩
  | exn c => exact absurd rfl (nx c)
  | bad => exact h.elim
section
variable {C : Cxt} {n : Nat} {cl : Str → Value} {W : WS} {sc osc : Scope} {X : Cx} {φ : Phi} {a b c e : Expr} {es : List Expr} {p q r : Ex} {ps : Exs} {pos pos2 p1 p2 p3 : Pos} {x : Str} {i : Nat}
/-- how a reading by data is used -/
theorem tD.use {σ : L2.St} {Q : VK} {env : Ev} (vr : VRel K M H σ env) (h : wpR W σ H (eval φ p env) fun d => ∀ v H1, Same H H1 → Rep K H1 M d v → (fresh p = true → Fr K H H1 M d v) → Q v H1) : tD K W φ p σ H Q := ⟨M, env, vr, h⟩

theorem s_var (hN : X.N[i]? = some x) (hv : Vis X.env.scope x) (h1 : (x == ("__debug__" : Str)) = false) (h2 : (x == ("__classdict__" : Str)) = false) : PE X (.Name x pos) (tD X.K W φ (.var i)) := by
  refine (pe_var hN hv h1 h2).imp fun σ H Q ⟨M, env, vr, h⟩ => ?_
  have h : wpR W σ H (match env[i]? with | some (some d) => Res.ok d | _ => .bad) (Vl X.K M H Q false) := h
  split at h
  · rename_i d e
    obtain ⟨v, e1, r1⟩ := vr.2.2 i d e
    exact ⟨v, e1, h.ref r1⟩
  · exact h.elim
theorem s_con {k : Const} {d : D} {j : Nat} (h : conB k d = true) : PE X (.Constant k j pos) (tD X.K W φ (.con d)) := by
  unfold conB at h
  split at h
  · obtain rfl := of_decide_eq_true h
    exact pe_int.imp fun σ H Q ⟨M, env, vr, h⟩ => Vl.ref (K := X.K) (d := .int _) h rfl
  · obtain rfl := eq_of_beq h
    exact pe_bl.imp fun σ H Q ⟨M, env, vr, h⟩ => Vl.ref (K := X.K) (d := .bl _) h rfl
  · exact pe_non.imp fun σ H Q ⟨M, env, vr, h⟩ => Vl.ref (K := X.K) (d := .non) h rfl
  · obtain rfl := of_decide_eq_true h
    exact pe_str.imp fun σ H Q ⟨M, env, vr, h⟩ => Vl.ref (K := X.K) (d := .str _) h rfl
  · cases h
theorem s_gl {d : D} {v : V} {u : Value} (hg : Gl X x) (hm : X.mg x = some u) (rv : RelV v u) (rd : ∀ H M, Rep X.K H M d v) (h1 : (x == ("__debug__" : Str)) = false) : PE X (.Name x pos) (tD X.K W φ (.gl x d)) :=
  (pe_glob hg hm rv h1).imp fun σ H Q ⟨M, env, vr, h⟩ => Vl.ref (K := X.K) (d := d) h (rd H M)
theorem s_bin {o : BOp} (hp : PE X a (tD X.K W φ p)) (hq : PE X b (tD X.K W φ q)) : PE X (.BinOp a (opB o) b pos) (tD X.K W φ (.bin o p q)) := by
  refine (pe_op (or_bin o) hp hq).imp fun σ H Q ⟨M, env, vr, h⟩ => ?_
  refine tD.use vr ((wpR.bind h).mono (Same.refl H) fun dx e1 h2 x H1 s1 r1 _ => ?_)
  refine tD.use (vr.same s1) ((wpR.bind h2).mono s1 fun dy e2 h3 y H2 s2 r2 _ => ?_)
  obtain ⟨d, e, q⟩ := h3.okv (nx_bin o dx dy)
  refine ⟨M, dx, dy, d, vr.1.same (s1.trans s2), r1.same s2, r2, e, ?_⟩
  have q := q.later (s1.trans s2)
  cases o <;> exact q
theorem s_neg (hp : PE X a (tD X.K W φ p)) : PE X (.UnaryOp .USub a pos) (tD X.K W φ (.neg p)) := by
  refine (pe_un un_neg hp).imp fun σ H Q ⟨M, env, vr, h⟩ => ?_
  refine tD.use vr ((wpR.bind h).mono (Same.refl H) fun dx e1 h2 x H1 s1 r1 _ => ?_)
  obtain ⟨i, e2, h3⟩ := (wpR.bind h2).okv (nx_asInt dx)
  cases dx <;> cases e2
  cases r1
  exact ⟨_, rfl, (Vl.later (K := X.K) (d := .int _) h3 s1).ref rfl⟩
theorem s_not (hp : PE X a (tD X.K W φ p)) : PE X (.UnaryOp .Not a pos) (tD X.K W φ (.not p)) := by
  refine (pe_not hp).imp fun σ H Q ⟨M, env, vr, h⟩ => ?_
  refine tD.use vr ((wpR.bind h).mono (Same.refl H) fun dx e1 h2 x H1 s1 r1 _ => ?_)
  obtain ⟨i, e2, h3⟩ := (wpR.bind h2).okv (nx_asBl dx)
  cases dx <;> cases e2
  cases r1
  exact ⟨_, rfl, (Vl.later (K := X.K) (d := .bl _) h3 s1).ref rfl⟩
theorem s_cmp {o : COp} (hu : X.A.units + 64 < cLine) (hm : behindInMarks (copB o) b = false) (hp : PE X a (tD X.K W φ p)) (hq : PE X b (tD X.K W φ q)) : PE X (.Compare a [copB o] [b] pos) (tD X.K W φ (.cmp o p q)) := by
  refine (pe_cmpR (or_cmp hu o) hp hq hm).imp fun σ H Q ⟨M, env, vr, h⟩ => ?_
  refine tD.use vr ((wpR.bind h).mono (Same.refl H) fun dx e1 h2 x H1 s1 r1 _ => ?_)
  refine tD.use (vr.same s1) ((wpR.bind h2).mono s1 fun dy e2 h3 y H2 s2 r2 _ => ?_)
  obtain ⟨d, e, q⟩ := h3.okv (nx_cmp o dx dy)
  exact ⟨M, dx, dy, d, vr.1.same (s1.trans s2), r1.same s2, r2, e, q.later (s1.trans s2)⟩
theorem cmp_bl {o : COp} {x y d : D} (h : cmpF o x y = .ok d) : ∃ t, d = .bl t := by
  cases o
  case eq => exact (ite_ok h).2 ▸ ⟨_, rfl⟩
  case ne => exact (ite_ok h).2 ▸ ⟨_, rfl⟩
  all_goals (cases x <;> cases y <;> first | (cases h; exact ⟨_, rfl⟩) | (cases h; done) | exact (ite_ok h).2 ▸ ⟨_, rfl⟩)
theorem chain_val {o o2 : COp} {Q : VK} {σ : L2.St} {env : Ev} (vr : VRel X.K M H σ env)
    (h : wpR W σ H ((eval φ p env).rb fun x => (eval φ q env).rb fun y => (cmpF o x y).rb fun r' => (asBl r').rb fun t => if t then (eval φ r env).rb fun z => cmpF o2 y z else .ok (.bl false)) (Vl X.K M H Q false)) :
    tChain (rD X.K false (cmpF o)) (rD X.K false (cmpF o2)) (tD X.K W φ p) (tD X.K W φ q) (tD X.K W φ r) σ H Q := by
  refine tD.use vr ((wpR.bind h).mono (Same.refl H) fun dx e1 h2 x H1 s1 r1 _ => ?_)
  refine tD.use (vr.same s1) ((wpR.bind h2).mono s1 fun dy e2 h3 y H2 s2 r2 _ => ?_)
  obtain ⟨d, e, q⟩ := (wpR.bind h3).okv (nx_cmp o dx dy)
  obtain ⟨t, rfl⟩ := cmp_bl e
  have s12 := s1.trans s2
  refine ⟨M, dx, dy, .bl t, vr.1.same s12, r1.same s2, r2, e, fun v H3 s3 r3 _ => ?_⟩
  cases r3
  refine ⟨t, rfl, ?_⟩
  have s13 := s12.trans s3
  cases t with
  | false => exact iteF (Vl.ref (K := X.K) (d := .bl false) (Vl.later q s13) rfl)
  | true =>
    refine iteT (tD.use (vr.same s13) ((wpR.bind (show wpR W σ H ((eval φ r env).rb fun z => cmpF o2 dy z) _ from q)).mono s13 fun dz e3 h4 z H4 s4 r4 _ => ?_))
    obtain ⟨d', e', q'⟩ := h4.okv (nx_cmp o2 dy dz)
    exact ⟨M, dy, dz, d', vr.1.same (s13.trans s4), (r2.same s3).same s4, r4, e', q'.later (s13.trans s4)⟩
theorem s_chain {o o2 : COp} (hu : X.A.units + 64 < cLine) (hm : lastMarks [copB o, copB o2] [b, c] = false) (hp : PE X a (tD X.K W φ p)) (hq : PE X b (tD X.K W φ q)) (hr : PE X c (tD X.K W φ r)) :
    PE X (.Compare a [copB o, copB o2] [b, c] pos) (tD X.K W φ (.chain o o2 p q r)) :=
  (pe_chain (or_cmp hu o) (or_cmp hu o2) hp hq hr hm).imp fun σ H Q ⟨M, env, vr, h⟩ => chain_val vr h
theorem s_and {rest : List Expr} (hp : PE X a (tD X.K W φ p)) (hq : PE X (.BoolOp .And (b :: rest) pos) (tD X.K W φ q)) : PE X (.BoolOp .And (a :: b :: rest) pos) (tD X.K W φ (.and p q)) := by
  refine (pe_and hp hq).imp fun σ H Q ⟨M, env, vr, h⟩ => ?_
  refine tD.use vr ((wpR.bind h).mono (Same.refl H) fun dx e1 h2 x H1 s1 r1 _ => ?_)
  obtain ⟨t, e2, h3⟩ := (wpR.bind h2).okv (nx_asBl dx)
  cases dx <;> cases e2
  cases r1
  refine ⟨_, rfl, ?_⟩
  rename_i t ft
  cases t with
  | false => exact iteF (Vl.ref (K := X.K) (d := .bl false) (Vl.later h3 s1) rfl)
  | true => exact iteT (tD.use (vr.same s1) (h3.mono s1 fun d e4 q => (Vl.later q s1).imp _))
theorem s_or {rest : List Expr} (hp : PE X a (tD X.K W φ p)) (hq : PE X (.BoolOp .Or (b :: rest) pos) (tD X.K W φ q)) : PE X (.BoolOp .Or (a :: b :: rest) pos) (tD X.K W φ (.or p q)) := by
  refine (pe_or hp hq).imp fun σ H Q ⟨M, env, vr, h⟩ => ?_
  refine tD.use vr ((wpR.bind h).mono (Same.refl H) fun dx e1 h2 x H1 s1 r1 _ => ?_)
  obtain ⟨t, e2, h3⟩ := (wpR.bind h2).okv (nx_asBl dx)
  cases dx <;> cases e2
  cases r1
  refine ⟨_, rfl, ?_⟩
  rename_i t ft
  cases t with
  | true => exact iteT (Vl.ref (K := X.K) (d := .bl true) (Vl.later h3 s1) rfl)
  | false => exact iteF (tD.use (vr.same s1) (h3.mono s1 fun d e4 q => (Vl.later q s1).imp _))
theorem s_ife (hr : PT X c (tDt X.K W φ r)) (hp : PE X a (tD X.K W φ p)) (hq : PE X b (tD X.K W φ q)) : PE X (.IfExp c a b pos) (tD X.K W φ (.ife r p q)) := by
  refine (pe_ifExp hr hp hq).imp fun σ H Q ⟨M, env, vr, h⟩ => ?_
  refine ⟨M, env, vr, (wpR.bind h).mono (Same.refl H) fun dx e1 h2 => ?_⟩
  obtain ⟨t, e2, h3⟩ := (wpR.bind h2).okv (nx_asBl dx)
  cases dx <;> cases e2
  refine ⟨_, rfl, fun H1 s1 => ?_⟩
  rename_i t
  cases t with
  | true =>
    refine iteT (tD.use (vr.same s1) (h3.mono s1 fun d e4 q' v H2 s2 r2 f2 => q' v H2 (s1.trans s2) r2 fun z => ?_))
    have z' : (fresh p && fresh q) = true := z
    rw [Bool.and_eq_true] at z'
    intro xs ex
    obtain ⟨a', vs, g1, g2, g3, g4⟩ := f2 z'.1 xs ex
    exact ⟨a', vs, g1, s1.free g2, g3, g4⟩
  | false =>
    refine iteF (tD.use (vr.same s1) (h3.mono s1 fun d e4 q' v H2 s2 r2 f2 => q' v H2 (s1.trans s2) r2 fun z => ?_))
    have z' : (fresh p && fresh q) = true := z
    rw [Bool.and_eq_true] at z'
    intro xs ex
    obtain ⟨a', vs, g1, g2, g3, g4⟩ := f2 z'.2 xs ex
    exact ⟨a', vs, g1, s1.free g2, g3, g4⟩

/-! ### argument lists, displays -/
theorem s_nil : PA X [] (tDs X.K W φ .nil) := pa_nil.imp fun σ H Q ⟨M, env, vr, h⟩ => h [] H (Same.refl H) rfl
theorem s_cons (hs : notStar e = true) (hp : PE X e (tD X.K W φ p)) (hr : PA X es (tDs X.K W φ ps)) : PA X (e :: es) (tDs X.K W φ (.cons p ps)) := by
  refine (pa_cons hp hr (star_cons hs)).imp fun σ H Q ⟨M, env, vr, h⟩ => ?_
  refine tD.use vr ((wpR.bind h).mono (Same.refl H) fun dx e1 h2 x H1 s1 r1 _ => ?_)
  refine ⟨M, env, vr.same s1, (wpR.bind h2).mono s1 fun ds e2 h3 vs H2 s2 r2 => ?_⟩
  exact h3 (x :: vs) H2 (s1.trans s2) (Reps.cons (r1.same s2) r2)
theorem s_tup {k : Nat} (h : PA X es (tDs X.K W φ ps)) : PE X (.Tuple es k pos) (tD X.K W φ (.tup ps)) := by
  refine (pe_tup h).imp fun σ H Q ⟨M, env, vr, h⟩ => ?_
  refine ⟨M, env, vr, (wpR.bind h).mono (Same.refl H) fun ds e1 h2 vs H1 s1 r1 => ?_⟩
  obtain ⟨d, e2, q⟩ := h2.okv (nx_okT ds)
  obtain ⟨rfl, hl⟩ := okT_ok e2
  exact ⟨by rw [r1.length]; exact hl, fun l hl => (Vl.later q s1).newT (vr.1.same s1) hl r1⟩
theorem s_lst (h : PA X es (tDs X.K W φ ps)) : PE X (.List es pos) (tD X.K W φ (.lst ps)) := by
  refine (pe_lst h).imp fun σ H Q ⟨M, env, vr, h⟩ => ?_
  refine ⟨M, env, vr, (wpR.bind h).mono (Same.refl H) fun ds e1 h2 vs H1 s1 r1 => ?_⟩
  obtain ⟨d, e2, q⟩ := h2.okv (nx_okL ds)
  obtain ⟨rfl, hl⟩ := okL_ok e2
  exact ⟨by rw [r1.length]; exact hl, fun l hl => (Vl.later q s1).newL (vr.1.same s1) hl r1⟩
/-! ### calls -/
theorem stars_any {env : Env} : ∀ {es : List Expr}, PA X es (tDs X.K W φ ps) → True := fun _ => trivial
theorem s_bi1 {id : String} {g : D → Res D} {fr : Bool} {b : Bi} (hc : CallR X (.builtin id) (rB X.K fr (one g))) (hg : Gl X x) (hm : X.mg x = none) (hv : bootBuiltins x = some (.builtin id)) (hn : x ≠ "__name__") (hdb : (x == ("__debug__" : Str)) = false)
    (hs : notStar e = true) (hp : PE X e (tD X.K W φ p)) (hgb : ∀ d, bi1 b d = g d) (hfr : fresh (.bi b (.cons p .nil)) = true → fr = true) : PE X (.Call (.Name x p1) [e] [] pos) (tD X.K W φ (.bi b (.cons p .nil))) := by
  refine (pe_callB hc hg hm hv (pa_cons hp pa_nil (star_cons hs)) hn hdb (star_cons hs) rfl).imp fun σ H Q ⟨M, env, vr, h⟩ => ?_
  have h : wpR W σ H (((eval φ p env).rb fun x => .ok [x]).rb fun xs => biF b xs) (Vl X.K M H Q (fresh (.bi b (.cons p .nil)))) := h
  refine tD.use vr ((wpR.bind (wpR.bind h)).mono (Same.refl H) fun dx e1 h2 x H1 s1 r1 _ => ?_)
  have h2 : wpR W σ H (bi1 b dx) _ := h2
  obtain ⟨d, e2, q⟩ := h2.okv (nx_bi1 b dx)
  refine ⟨M, [dx], d, vr.1.same s1, Reps.cons r1 Reps.nil, by rw [← e2, hgb]; rfl, fun v H2 s2 r2 f2 => q v H2 (s1.trans s2) r2 fun z xs ex => ?_⟩
  obtain ⟨a', vs, g1, g2, g3, g4⟩ := f2 (hfr z) xs ex
  exact ⟨a', vs, g1, s1.free g2, g3, g4⟩
theorem s_biT {T : String} {g : D → Res D} {fr : Bool} {b : Bi} (hc : CallR X (.type T) (rB X.K fr (one g))) (hg : Gl X x) (hm : X.mg x = none) (hv : bootBuiltins x = some (.type T)) (hn : x ≠ "__name__") (hdb : (x == ("__debug__" : Str)) = false)
    (hs : notStar e = true) (hp : PE X e (tD X.K W φ p)) (hgb : ∀ d, bi1 b d = g d) (hfr : fresh (.bi b (.cons p .nil)) = true → fr = true) : PE X (.Call (.Name x p1) [e] [] pos) (tD X.K W φ (.bi b (.cons p .nil))) := by
  refine (pe_callTy hc hg hm hv (pa_cons hp pa_nil (star_cons hs)) hn hdb (star_cons hs) rfl).imp fun σ H Q ⟨M, env, vr, h⟩ => ?_
  have h : wpR W σ H (((eval φ p env).rb fun x => .ok [x]).rb fun xs => biF b xs) (Vl X.K M H Q (fresh (.bi b (.cons p .nil)))) := h
  refine tD.use vr ((wpR.bind (wpR.bind h)).mono (Same.refl H) fun dx e1 h2 x H1 s1 r1 _ => ?_)
  have h2 : wpR W σ H (bi1 b dx) _ := h2
  obtain ⟨d, e2, q⟩ := h2.okv (nx_bi1 b dx)
  refine ⟨M, [dx], d, vr.1.same s1, Reps.cons r1 Reps.nil, by rw [← e2, hgb]; rfl, fun v H2 s2 r2 f2 => q v H2 (s1.trans s2) r2 fun z xs ex => ?_⟩
  obtain ⟨a', vs, g1, g2, g3, g4⟩ := f2 (hfr z) xs ex
  exact ⟨a', vs, g1, s1.free g2, g3, g4⟩
theorem s_bi2 {id : String} {g : D → D → Res D} {b : Bi} {e2 : Expr} (hc : CallR X (.builtin id) (rB X.K false (two g))) (hg : Gl X x) (hm : X.mg x = none) (hv : bootBuiltins x = some (.builtin id)) (hn : x ≠ "__name__") (hdb : (x == ("__debug__" : Str)) = false)
    (hs : notStar e = true) (hs2 : notStar e2 = true) (hp : PE X e (tD X.K W φ p)) (hq : PE X e2 (tD X.K W φ q)) (hgb : ∀ d d', bi2 b d d' = g d d') (hfr : fresh (.bi b (.cons p (.cons q .nil))) = false) :
    PE X (.Call (.Name x p1) [e, e2] [] pos) (tD X.K W φ (.bi b (.cons p (.cons q .nil)))) := by
  refine (pe_callB hc hg hm hv (pa_cons hp (pa_cons hq pa_nil (star_cons hs2)) (star_cons hs)) hn hdb (star_cons hs) (by rw [star_cons hs2]; rfl)).imp fun σ H Q ⟨M, env, vr, h⟩ => ?_
  have h : wpR W σ H (((eval φ p env).rb fun x => ((eval φ q env).rb fun y => .ok [y]).rb fun ys => .ok (x :: ys)).rb fun xs => biF b xs) (Vl X.K M H Q (fresh (.bi b (.cons p (.cons q .nil))))) := h
  refine tD.use vr ((wpR.bind (wpR.bind h)).mono (Same.refl H) fun dx e1 h2 x H1 s1 r1 _ => ?_)
  refine tD.use (vr.same s1) ((wpR.bind (wpR.bind h2)).mono s1 fun dy e2 h3 y H2 s2 r2 _ => ?_)
  have h3 : wpR W σ H (bi2 b dx dy) _ := h3
  obtain ⟨d, e3, q⟩ := h3.okv (nx_bi2 b dx dy)
  have s12 := s1.trans s2
  rw [hfr] at q
  exact ⟨M, [dx, dy], d, vr.1.same s12, Reps.cons (r1.same s2) (Reps.cons r2 Reps.nil), by rw [← e3, hgb]; rfl, q.later s12⟩
theorem s_isI {t : Ty} {n : String} {y : Str} (ht : tyN t = some n) (hy : bootBuiltins y = some (.type n)) (hny : y ≠ "__name__") (hdy : (y == ("__debug__" : Str)) = false) (hg : Gl X "isinstance") (hm : X.mg "isinstance" = none) (hg2 : Gl X y) (hm2 : X.mg y = none)
    (hs : notStar e = true) (hp : PE X e (tD X.K W φ p)) : PE X (.Call (.Name "isinstance" p1) [e, .Name y p2] [] pos) (tD X.K W φ (.isI t p)) := by
  have hty : PE X (.Name y p2) (tC (.ty n)) := pe_bltn (v := .ty n) hg2 hm2 hy rfl hny hdy
  refine (pe_callB (cb_isi ht) hg hm (by decide +kernel) (pa_cons hp (pa_cons hty pa_nil rfl) (star_cons hs)) (by decide) (by decide) (star_cons hs) rfl).imp fun σ H Q ⟨M, env, vr, h⟩ => ?_
  refine tD.use vr ((wpR.bind h).mono (Same.refl H) fun dx e1 h2 x H1 s1 r1 _ => ?_)
  obtain ⟨b, e2, q⟩ := (wpR.bind h2).okv (nx_isF t dx)
  exact ⟨M, dx, x, b, rfl, r1, e2, (Vl.later (K := X.K) (d := .bl b) q s1).ref rfl⟩
theorem base_of {o : Expr} {env : Env} {m : Str} (h : baseOk o = true) : attributeBase o m env (PySem.eval o env) = PySem.eval o env := by
  cases o <;> first | rfl | cases h
theorem s_me1 {id : String} {name : Str} {g : D → D → Res D} {m : Me} {o : Expr} {po : Ex} (slot : Slot "list" name id) (hty : typeOf (.builtin id) = pure (.type "method_descriptor")) (hmt : MtR X id (rM1 X.K g))
    (hg : ∀ d x, meF m d [x] = g d x) (hl : ∀ d r, recv m d = .ok r → ∃ xs, d = .lst xs) (hb : baseOk o = true) (hline : (p1.endLine == pos.line) = true) (hs : notStar e = true) (ho : PE X o (tD X.K W φ po)) (hp : PE X e (tD X.K W φ p)) :
    PE X (.Call (.Attribute o name p1) [e] [] pos) (tD X.K W φ (.me m po (.cons p .nil))) := by
  refine (pe_bm (PySem.F.plainAttrs_list) slot hty hmt ho (pa_cons hp pa_nil (star_cons hs)) (base_of hb) (by rw [star_cons hs]; rfl) hline (star_cons hs) rfl).imp fun σ H Q ⟨M, env, vr, h⟩ => ?_
  have h : wpR W σ H ((eval φ po env).rb fun x => (recv m x).rb fun _ => (((eval φ p env).rb fun y => .ok [y]).rb fun ys => meF m x ys)) (Vl X.K M H Q false) := h
  refine tD.use vr ((wpR.bind h).mono (Same.refl H) fun dx e1 h2 x H1 s1 r1 _ => ?_)
  obtain ⟨_, e2, h3⟩ := (wpR.bind h2).okv (nx_recv m dx)
  obtain ⟨xs, rfl⟩ := hl dx _ e2
  have r1' := r1
  obtain ⟨a', vs, rfl, _, ha, _⟩ := r1
  refine ⟨.inl ⟨rfl, vs, SqL.of ha⟩, tD.use (vr.same s1) ((wpR.bind (wpR.bind h3)).mono s1 fun dy e3 h4 y H2 s2 r2 _ => ?_)⟩
  obtain ⟨d, e4, q⟩ := (show wpR W σ H (meF m (.lst xs) [dy]) _ from h4).okv (nx_me m _ _)
  exact ⟨M, .lst xs, dy, y, d, rfl, r1'.same s2, r2, by rw [← hg]; exact e4, q.later (s1.trans s2)⟩
end
end PL
-- CR
set_option Elab.async false
set_option linter.all false
set_option maxRecDepth 100000
set_option maxHeartbeats 4000000
/-! CR: t[::-1] of a tuple. -/
namespace PL
open PySem PySem.Spec PyProof.Rows L2 PySem.Calls
section
variable {prog : Program} {w : World} {A : Around} {E : Value → Shared → Prop} {s : Shared}
theorem adjust_rev (n : Nat) : Builtin.Slice.sliceAdjust none none (-1) (n : Int) = ((n : Int) - 1, -1) := by
  unfold Builtin.Slice.sliceAdjust
  have h1 : (-1 : Int) < 0 := by decide
  simp only [h1, if_true]
theorem places_rev (n : Nat) : Builtin.Slice.slicePlaces ((n : Int) - 1) (-1) (-1) = n := by
  unfold Builtin.Slice.slicePlaces
  have h1 : ¬ ((-1 : Int) > 0) := by decide
  simp only [h1, if_false]
  have e : (- -1 : Int) = 1 := by decide
  rw [e, Int.ediv_one]
  split <;> omega
theorem sliceApplied_rev {sl : Addr} {vl vu vs : Value} {n : Nat} {Q : Int × Int × Nat → Shared → Prop} (hs : s.heap.IsSliceOf sl vl vu vs) (pl : IsPart vl none) (pu : IsPart vu none) (ps : IsPart vs (some (-1)))
    (h : Q ((n : Int) - 1, -1, n) s) : wpAny (model prog w) A (Builtin.Slice.sliceApplied (.ref sl) (pure (n : Int))) Q E s := by
  obtain ⟨os, hos, hcs, hds⟩ := id hs
  unfold Builtin.Slice.sliceApplied Builtin.Slice.sliceFields
  refine wpAny_bind (wpAny_bind (wpAny_field hos hds (x := vl) rfl (wpAny_bind (wpAny_field hos hds (x := vu) rfl (wpAny_bind (wpAny_field hos hds (x := vs) rfl (wpAny_pure ?_)))))))
  refine wpAny_bind (HT.slicePart_ ps ?_)
  show wpAny _ _ (if ((-1 : Int) == 0) = true then _ else _) _ _ s
  rw [if_neg (by decide)]
  refine wpAny_bind (HT.slicePart_ pl (wpAny_bind (HT.slicePart_ pu (wpAny_bind (wpAny_pure ?_)))))
  show wpAny _ _ (match Builtin.Slice.sliceAdjust none none (-1) (n : Int) with | (lo, hi) => pure (lo, (-1 : Int), Builtin.Slice.slicePlaces lo hi (-1))) _ _ s
  rw [adjust_rev]
  show wpAny _ _ (pure ((n : Int) - 1, (-1 : Int), Builtin.Slice.slicePlaces ((n : Int) - 1) (-1) (-1))) _ _ s
  rw [places_rev]
  exact wpAny_pure h
theorem fm_congr {α β : Type} {f g : α → Option β} : ∀ {l : List α}, (∀ x ∈ l, f x = g x) → l.filterMap f = l.filterMap g
  | [], _ => rfl
  | x :: l, h => by
    rw [List.filterMap_cons, List.filterMap_cons, h x (List.mem_cons_self ..), fm_congr fun y hy => h y (List.mem_cons_of_mem _ hy)]
theorem pick_rev (xs : Array Value) : ((List.range xs.size).filterMap fun (m : Nat) => xs[((xs.size : Int) - 1 + (m : Int) * -1).toNat]?).toArray = xs.toList.reverse.toArray := by
  have e : ((List.range xs.size).filterMap fun (m : Nat) => xs[((xs.size : Int) - 1 + (m : Int) * -1).toNat]?) = (((List.range xs.size).map fun k => xs.size - 1 - k).filterMap (xs[·]?)) := by
    rw [List.filterMap_map]
    apply fm_congr
    intro m hm
    have := List.mem_range.mp hm
    have q : ((xs.size : Int) - 1 + (m : Int) * -1).toNat = xs.size - 1 - m := by omega
    rw [q]; rfl
  rw [e, PySem.W.krv_range, List.filterMap_reverse, PySem.W.krv_all]
theorem getItem_tuple_rev {t sl : Addr} {items : Array Value} {vl vu vs : Value} {Q : Value → Shared → Prop} (ht : IsTup s.heap t items) (hs : s.heap.IsSliceOf sl vl vu vs) (pl : IsPart vl none) (pu : IsPart vu none) (ps : IsPart vs (some (-1)))
    (h : Q (.ref s.heap.objs.size) { s with heap := s.heap.push { cls := .type "tuple", data := .seq items.toList.reverse.toArray } })
    (hsz : items.size ≤ sizeLine) : wpAny (model prog w) A (getItem (.ref t) (.ref sl)) Q E s := by
  have htake : sizeOk (.seq items.toList.reverse.toArray) := by
    show items.toList.reverse.toArray.size ≤ sizeLine
    rw [List.size_toArray, List.length_reverse, Array.length_toList]
    omega
  obtain ⟨os, hos, hcs, hds⟩ := id hs
  have hTs : s.TypeIs (.ref sl) "slice" := ⟨os, hos, hcs⟩
  unfold getItem
  try with_reducible refine wpAny_holding ?_
  first | refine wpAny_bind (wpAny_pure ?_) | skip
  refine wpAny_bind (wpAny_sequenceKey ht.typeIs (by decide) ?_)
  refine wpAny_bind (wpAny_callSpecial?_slot (name := Str.ofString "__getitem__") ht.typeIs PyProof.Rows.slot_tuple_getitem
    (wpAny_call_entry PyProof.Rows.slot_tuple_getitem ht.typeIs entry_tuple_getitem ?_ (args_tuple_getitem _ _)))
  show wpAny _ _ (Builtin.Tuple.tupleItemsOf (.ref t) >>= _) _ _ s
  refine wpAny_bind (tupleItemsOf_ ht ?_)
  refine wpAny_bind (wpAny_typeOf hTs ?_)
  rw [if_pos (by decide)]
  refine wpAny_bind (sliceApplied_rev hs pl pu ps ?_)
  have hno : ¬ (((items.size : Int) - 1 == 0 && (-1 : Int) == 1 && items.size == items.size) = true) := by
    rw [show ((-1 : Int) == 1) = false by decide, Bool.and_false, Bool.false_and]
    exact Bool.false_ne_true
  show wpAny _ _ (if ((items.size : Int) - 1 == 0 && (-1 : Int) == 1 && items.size == items.size) = true then _ else _) _ _ s
  rw [if_neg hno, pick_rev]
  first
    | exact wpAny_bind (m := Builtin.Tuple.tupleExact _) (wpAny_newObj_type (wpAny_pure ⟨_, rfl, wpAny_pure h⟩) htake)
    | exact wpAny_bind (m := Builtin.Tuple.tupleExact _) (wpAny_newObj_type (wpAny_bind (wpAny_pure (wpAny_pure ⟨_, rfl, wpAny_pure h⟩))) htake)
    | exact wpAny_bind (wpAny_bind (m := Builtin.Tuple.tupleExact _) (wpAny_newObj_type (wpAny_pure (wpAny_pure ⟨_, rfl, wpAny_pure h⟩)) htake))
    | exact wpAny_bind (wpAny_bind (m := Builtin.Tuple.tupleExact _) (wpAny_newObj_type (wpAny_pure ⟨_, rfl, wpAny_pure h⟩) htake))
end
/-- of a list or of a tuple -/
def tRevX (K : PySem.W.Frag) (te : TE) : TE := fun σ H Q => te σ H fun x H1 => ∃ a xs, x = .ref a ∧ ((SqL K H1 a xs ∧ ∀ p, H1 p = none → Q (.ref p) (upd H1 p (.lst xs.reverse))) ∨ (SqT K H1 a xs ∧ ∀ p, H1 p = none → Q (.ref p) (upd H1 p (.tup xs.reverse))))
theorem pe_revX {X : Cx} {e : Expr} {te : TE} {k : Nat} {p1 p2 p3 pos : Pos} (he : PE X e te) : PE X (.Subscript e (.Slice none none (some (.UnaryOp .USub (.Constant (.int 1) k p1) p2)) p3) pos) (tRevX X.K te) := by
  refine ⟨fun pins s σ H Q I h => ?_⟩
  refine Subscript_ (thn (he.run pins s σ H _ I h) fun v s1 ⟨x, H1, I1, r1, q1⟩ => ?_)
  obtain ⟨a, xs, ex, q⟩ := q1
  subst ex
  cases r1
  have hst : PO X (some (.UnaryOp .USub (.Constant (.int 1) k p1) p2)) (tPart (tUn (rU fun i => .int (-i)) (tC (.int 1)))) := po_some (pe_un un_neg pe_int)
  refine wpAny_Slice (thn (po_none.run pins s1 σ H1 (fun o H2 => o = none ∧ H2 = H1) I1 ⟨rfl, rfl⟩) fun vl s2 ⟨l, H2, I2, pl, el, e2⟩ => ?_)
  subst el e2
  refine thn (po_none.run pins s2 σ H2 (fun o H3 => o = none ∧ H3 = H2) I2 ⟨rfl, rfl⟩) fun vu s3 ⟨u, H3, I3, pu, eu, e3⟩ => ?_
  subst eu e3
  refine thn (hst.run pins s3 σ H3 (fun o H4 => o = some (-1) ∧ H4 = H3) I3 ⟨1, rfl, -1, rfl, rfl, rfl⟩) fun vs s4 ⟨o, H4, I4, ps, eo, e4⟩ => ?_
  subst eo e4
  have I5 : Inv X pins σ H4 { s4 with heap := s4.heap.push { cls := .type "slice", data := .fields #[vl, vu, vs] } } := I4.kept (t' := s4.toks) fun b ob q => Heap.get?_push_of_some _ q
  show wpAny (model X.prog X.w) X.A (subscriptTail e (.Slice none none (some (.UnaryOp .USub (.Constant (.int 1) k p1) p2)) p3) (.ref a) (.ref s4.heap.objs.size)) (EP X pins σ Q) X.xe { s4 with heap := s4.heap.push { cls := .type "slice", data := .fields #[vl, vu, vs] } }
  rcases q with ⟨hx, q⟩ | ⟨hx, q⟩
  · obtain ⟨its, r, ht, hz⟩ := I5.list hx
    have hlen := r.length
    refine tail_any (ops := [.ref a, .ref s4.heap.objs.size]) ht.isList.typeIs (PySem.slot_list_getitem.lookup) ?_ (by with_unfolding_all rfl)
    refine wpAny_getItem_list_slice ht.isList (Heap.IsSliceOf.new _ vl vu vs) pl pu ps (by decide) ?_ (by rw [List.size_toArray]; omega)
    rw [PySem.W.krv_pick]
    refine ⟨.ref _, _, I5.laid (t' := s4.toks) (o := .lst xs.reverse) (fun b ob q => Heap.get?_push_of_some _ q) (Nat.le_refl _) ?_, rfl, q _ (I5.hok.fresh (Nat.le_refl _))⟩
    exact ⟨by rw [List.length_reverse]; exact hz, _, 0, r.reverse, Heap.get?_push_size _ rfl⟩
  · obtain ⟨its, r, ht, hz⟩ := I5.tuple hx
    have hlen := r.length
    refine tail_any (ops := [.ref a, .ref s4.heap.objs.size]) ht.typeIs PyProof.Rows.slot_tuple_getitem.lookup ?_ (by with_unfolding_all rfl)
    refine getItem_tuple_rev ht (Heap.IsSliceOf.new _ vl vu vs) pl pu ps ?_ (by rw [List.size_toArray]; omega)
    refine ⟨.ref _, _, I5.laid (t' := s4.toks) (o := .tup xs.reverse) (fun b ob q => Heap.get?_push_of_some _ q) (Nat.le_refl _) ?_, rfl, q _ (I5.hok.fresh (Nat.le_refl _))⟩
    exact ⟨by rw [List.length_reverse]; exact hz, _, r.reverse, IsTup.new _ _⟩
end PL
-- C9
set_option Elab.async false
set_option linter.all false
set_option maxRecDepth 100000
set_option maxHeartbeats 4000000
/-! C9: calls of defs, subscripts, slices, targets, what is walked, comprehensions, tests: by data. -/
namespace PL
open PySem PySem.Spec PyProof.Rows L2
variable {K : PySem.W.Frag} {H H' H1 H2 : Hp} {M M' : Addr → Prop}
theorem run_np {T : List FnD} {f : FnD} {i : Nat} (hf : T[i]? = some f) : ∀ {n : Nat} {as : List D}, run T n i as ≠ .bad → as.length = f.np
  | 0, _, h => absurd rfl h
  | n + 1, as, h => by
    unfold run at h
    rw [hf] at h
    have h : runFn (run T n) f as ≠ .bad := h
    unfold runFn at h
    by_cases e : as.length = f.np
    · exact e
    · rw [if_neg e] at h; exact absurd rfl h
section
variable {C : Cxt} {n : Nat} {cl : Str → Value} {W : WS} {sc osc : Scope} {X : Cx} {φ : Phi} {a b c e : Expr} {es : List Expr} {p q r : Ex} {ps : Exs} {pos pos2 p1 p2 p3 : Pos} {x : Str} {i : Nat}
theorem stars_none {env : Env} : ∀ {es : List Expr} {ps : Exs} {C : Cxt} {sc : Scope} {pos : Pos}, mEs C ps sc es = true → (backTo pos (starEach es env)).any (·.1) = false
  | [], _, _, _, _, _ => rfl
  | e :: es, ps, C, sc, pos, h => by
    cases ps with
    | nil => cases h
    | cons p ps =>
      simp only [mEs, Bool.and_eq_true] at h
      rw [star_cons h.1]
      have ih := stars_none (env := env) (pos := pos) h.2.2
      unfold backTo at ih ⊢
      rw [List.map_cons, List.any_cons, ih]
      rfl
theorem s_call {f : FnD} {fr : Bool} (x : XOk C n cl W sc osc X) (hf : C.T[i]? = some f) (hfr : f.fr = fr) (hg : Gl X f.name) (h1 : (f.name == ("__debug__" : Str)) = false) (hm : mEs C ps sc (e :: es) = true) (ha : PA X (e :: es) (tDs X.K W (run C.T n) ps)) :
    PE X (.Call (.Name f.name p1) (e :: es) [] pos) (tD X.K W (run C.T n) (.call i fr ps)) := by
  obtain ⟨ad, fd, F, mg, kp, bd⟩ := x.fn i f hf
  have hs : notStar e = true := by
    cases ps with
    | nil => cases hm
    | cons p ps => simp only [mEs, Bool.and_eq_true] at hm; exact hm.1
  have hes : (backTo pos (starEach es X.env)).any (·.1) = false := by
    cases ps with
    | nil => cases hm
    | cons p ps => simp only [mEs, Bool.and_eq_true] at hm; exact stars_none hm.2.2
  refine (pe_callS (E := WE fun cls d σ H => d = none ∧ ∃ c, cls = cl c ∧ W c σ H) F x.room hg mg kp bd (fun σ => passAt x.tk σ) ha h1 (star_cons hs) hes).imp fun σ H Q ⟨M, env, vr, h⟩ => ?_
  refine ⟨M, env, vr, (wpR.bind h).mono (Same.refl H) fun ds e1 h2 vs H1 s1 r1 => ?_⟩
  have h2 : wpR W σ H (run C.T n i ds) (Vl X.K M H Q fr) := h2
  refine ⟨?_, M, ds, vr.1.same s1, r1, ?_⟩
  · rw [r1.length]
    exact run_np hf fun z => by rw [z] at h2; exact h2.elim
  · cases hr : run C.T n i ds with
    | ok d => rw [hr] at h2; rw [hfr]; exact Vl.later h2 s1
    | exn c => rw [hr] at h2; exact fun H' s' => ⟨rfl, c, rfl, h2 H' (s1.trans s')⟩
    | bad => rw [hr] at h2; exact h2.elim
theorem ix_of {b : Expr} (h : ixOk b = true) : PlainIx b := by
  intro o i
  cases b <;> first | rfl | cases h
theorem s_ix (hb : ixOk b = true) (hp : PE X a (tD X.K W φ p)) (hq : PE X b (tD X.K W φ q)) : PE X (.Subscript a b pos) (tD X.K W φ (.ix p q)) := by
  refine (pe_ix ib_ix hp hq (ix_of hb)).imp fun σ H Q ⟨M, env, vr, h⟩ => ?_
  refine tD.use vr ((wpR.bind h).mono (Same.refl H) fun dx e1 h2 x H1 s1 r1 _ => ?_)
  refine tD.use (vr.same s1) ((wpR.bind h2).mono s1 fun dy e2 h3 y H2 s2 r2 _ => ?_)
  obtain ⟨d, e, q⟩ := h3.okv (nx_ix dx dy)
  exact ⟨M, dx, dy, d, vr.1.same (s1.trans s2), r1.same s2, r2, e, q.later (s1.trans s2)⟩
theorem s_noO : PO X none (tDo X.K W φ .no) := ⟨fun pins s σ H Q I ⟨M, env, vr, h⟩ => po_none.run pins s σ H Q I (h H (Same.refl H))⟩
theorem s_soO (hp : PE X e (tD X.K W φ p)) : PO X (some e) (tDo X.K W φ (.so p)) := ⟨fun pins s σ H Q I ⟨M, env, vr, h⟩ => (po_some hp).run pins s σ H Q I (by
  refine tD.use vr ((wpR.bind h).mono (Same.refl H) fun dx e1 h2 x H1 s1 r1 _ => ?_)
  obtain ⟨i, e2, h3⟩ := (wpR.bind h2).okv (nx_asInt dx)
  cases dx <;> cases e2
  cases r1
  exact ⟨_, rfl, h3 H1 s1⟩)⟩
theorem s_sl {lo hi : Option Expr} {l h : Eo} (hp : PE X a (tD X.K W φ p)) (hl : PO X lo (tDo X.K W φ l)) (hh : PO X hi (tDo X.K W φ h)) : PE X (.Subscript a (.Slice lo hi none p2) pos) (tD X.K W φ (.sl p l h)) := by
  refine (pe_slice sb_sl hp hl hh).imp fun σ H Q ⟨M, env, vr, h⟩ => ?_
  refine tD.use vr ((wpR.bind h).mono (Same.refl H) fun dx e1 h2 x H1 s1 r1 _ => ?_)
  refine ⟨M, env, vr.same s1, (wpR.bind h2).mono s1 fun o e2 h3 H2 s2 => ?_⟩
  have s12 := s1.trans s2
  refine ⟨M, env, vr.same s12, (wpR.bind h3).mono s12 fun o2 e3 h4 H3 s3 => ?_⟩
  obtain ⟨d, e, q⟩ := h4.okv (nx_sl dx o o2)
  have s13 := s12.trans s3
  exact ⟨M, dx, d, vr.1.same s13, (r1.same s2).same s3, e, q.later s13⟩
theorem s_rev {k : Nat} {pos3 pos4 : Pos} (hp : PE X a (tD X.K W φ p)) : PE X (.Subscript a (.Slice none none (some (.UnaryOp .USub (.Constant (.int 1) k p1) p2)) p3) pos) (tD X.K W φ (.rev p)) := by
  refine (pe_revX hp).imp fun σ H Q ⟨M, env, vr, h⟩ => ?_
  refine tD.use vr ((wpR.bind h).mono (Same.refl H) fun dx e1 h2 x H1 s1 r1 _ => ?_)
  obtain ⟨d, e, q⟩ := h2.okv (nx_rev dx)
  cases dx <;> cases e
  · obtain ⟨a', vs, rfl, _, ha, hr⟩ := r1
    exact ⟨a', vs, rfl, .inr ⟨SqT.of ha, fun l hl => (q.later s1).newT (vr.1.same s1) hl hr.rev⟩⟩
  · obtain ⟨a', vs, rfl, _, ha, hr⟩ := r1
    exact ⟨a', vs, rfl, .inl ⟨SqL.of ha, fun l hl => (q.later s1).newL (vr.1.same s1) hl hr.rev⟩⟩
theorem s_ss (hc : X.calm = true) (hu : X.A.units + 64 < cLine) (g1 : Gl X "sorted") (m1 : X.mg "sorted" = none) (g2 : Gl X "set") (m2 : X.mg "set" = none) (hs : notStar e = true) (hp : PE X e (tD X.K W φ p)) :
    PE X (.Call (.Name "sorted" p1) [.Call (.Name "set" p2) [e] [] pos2] [] pos) (tD X.K W φ (.sset p)) := by
  refine (pe_ss hc hu g1 m1 g2 m2 hp (star_cons hs)).imp fun σ H Q ⟨M, env, vr, h⟩ => ?_
  refine tD.use vr ((wpR.bind h).mono (Same.refl H) fun dx e1 h2 x H1 s1 r1 _ => ?_)
  obtain ⟨d, e, q⟩ := h2.okv (nx_ss dx)
  exact ss_val (vr.1.same s1) r1 e (Vl.later q s1) X.prog X.w
theorem s_ls (hc : X.calm = true) (g1 : Gl X "len") (m1 : X.mg "len" = none) (g2 : Gl X "set") (m2 : X.mg "set" = none) (hs : notStar e = true) (hp : PE X e (tD X.K W φ p)) :
    PE X (.Call (.Name "len" p1) [.Call (.Name "set" p2) [e] [] pos2] [] pos) (tD X.K W φ (.lset p)) := by
  refine (pe_ls hc g1 m1 g2 m2 hp (star_cons hs)).imp fun σ H Q ⟨M, env, vr, h⟩ => ?_
  refine tD.use vr ((wpR.bind h).mono (Same.refl H) fun dx e1 h2 x H1 s1 r1 _ => ?_)
  obtain ⟨d, e, q⟩ := h2.okv (nx_ls dx)
  exact ls_val (vr.1.same s1) r1 e (Vl.later q s1) X.w
/-- list(range(..)), tuple(range(..)) -/
theorem rg_val {tp : Bool} {lo hi : Int} {Q : VK} (m : MOk M H) (q : wpR W σ0 H ((rngF lo hi).rb fun xs => if xs.length ≤ 1000000 then .ok (if tp then D.tup xs else D.lst xs) else .bad) (Vl K M H Q true)) :
    RgOk lo hi ∧ ((tp = false → ∀ l, H l = none → Q (.ref l) (upd H l (.lst (rgV lo hi)))) ∧ (tp = true → ∀ l, H l = none → Q (.ref l) (upd H l (.tup (rgV lo hi))))) := by
  obtain ⟨xs, e1, q⟩ := (wpR.bind q).okv (nx_rng lo hi)
  unfold rngF at e1
  split at e1
  · rename_i hb
    cases e1
    rw [Bool.and_eq_true] at hb
    have b1 := small62_ok hb.1
    have b2 := small62_ok hb.2
    split at q
    · rename_i hl
      rw [rngN_len] at hl
      refine ⟨⟨by omega, by omega, by omega, by omega, by omega⟩, fun ht l hl => ?_, fun ht l hl => ?_⟩
      · subst ht
        exact Vl.newL (K := K) q m hl (reps_rng lo hi)
      · subst ht
        exact Vl.newT (K := K) q m hl (reps_rng lo hi)
    · exact q.elim
  · cases e1

/-! ### targets -/
mutual
def gTg (K : PySem.W.Frag) : Tg → TG
  | .nm i => gName i
  | .tp ts => gTup K (lenT ts) (gTgs K ts)
def gTgs (K : PySem.W.Frag) : Tgs → TGs
  | .nil => gNil
  | .cons t ts => gCons (gTg K t) (gTgs K ts)
def lenT : Tgs → Nat
  | .nil => 0
  | .cons _ ts => lenT ts + 1
end
theorem assign_cons {e : Expr} {es : List Expr} {env : Env} (h : notStar e = true) : assignEach (e :: es) env = (false, assign e env) :: assignEach es env := by
  cases e <;> first | rfl | cases h
theorem mTgs_len {C : Cxt} {sc : Scope} {env : Env} : ∀ {ts : Tgs} {es : List Expr}, mTgs C sc ts es = true → (assignEach es env).length = lenT ts ∧ (assignEach es env).findIdx? (·.1) = none
  | .nil, [], _ => ⟨rfl, rfl⟩
  | .nil, _ :: _, h => by cases h
  | .cons t ts, [], h => by cases h
  | .cons t ts, e :: es, h => by
    simp only [mTgs, Bool.and_eq_true] at h
    obtain ⟨h1, h2⟩ := mTgs_len (env := env) h.2.2
    rw [assign_cons h.1]
    refine ⟨by rw [List.length_cons, h1]; rfl, ?_⟩
    rw [List.findIdx?_cons, h2]
    rfl
mutual
theorem s_tg (hN : X.N = C.N) (nd : C.N.Nodup) (hc : X.calm = true) (tg : ∀ x, locB osc x = true → L2.Loc X.env.scope x ∧ (X.fn x = true ∨ X.env.scope.names.lookup x = some .local)) : ∀ (t : Tg) (e : Expr), mTg C osc t e = true → PG X e (gTg X.K t)
  | .nm i, e, h => by
    cases e <;> first | (cases h; done) | skip
    rename_i x pos
    simp only [mTg, Bool.and_eq_true] at h
    obtain ⟨h1, h2⟩ := tg x h.2
    exact pg_name (hN ▸ nd) (by rw [hN]; exact of_decide_eq_true h.1) h1 h2
  | .tp ts, e, h => by
    cases e <;> first | (cases h; done) | skip
    rename_i es k pos
    obtain ⟨h1, h2⟩ := mTgs_len (env := X.env) (show mTgs C osc ts es = true from h)
    exact pg_tup hc (s_tgs hN nd hc tg ts es h) h1 h2
theorem s_tgs (hN : X.N = C.N) (nd : C.N.Nodup) (hc : X.calm = true) (tg : ∀ x, locB osc x = true → L2.Loc X.env.scope x ∧ (X.fn x = true ∨ X.env.scope.names.lookup x = some .local)) : ∀ (ts : Tgs) (es : List Expr), mTgs C osc ts es = true → PGs X es (gTgs X.K ts)
  | .nil, [], _ => pgs_nil
  | .nil, _ :: _, h => by cases h
  | .cons t ts, [], h => by cases h
  | .cons t ts, e :: es, h => by
    simp only [mTgs, Bool.and_eq_true] at h
    exact pgs_cons (s_tg hN nd hc tg t e h.2.1) (s_tgs hN nd hc tg ts es h.2.2) (by rw [assign_cons h.1]; rfl)
end
theorem VRel.set {σ : L2.St} {env : Ev} {d : D} {v : V} (vr : VRel K M H σ env) (r : Rep K H M d v) (i : Nat) : VRel K M H (σ.set i (some v)) (env.set i (some d)) := by
  refine ⟨vr.1, by rw [List.length_set, List.length_set]; exact vr.2.1, fun j d' e => ?_⟩
  by_cases hj : i = j
  · subst hj
    by_cases hl : i < env.length
    · rw [List.getElem?_set_self hl] at e
      cases e
      exact ⟨v, by rw [List.getElem?_set_self (by rw [vr.2.1]; exact hl)], r⟩
    · rw [List.getElem?_eq_none (by rw [List.length_set]; omega)] at e; cases e
  · rw [List.getElem?_set_ne hj] at e ⊢
    exact vr.2.2 j d' e
theorem VRel.clr {σ : L2.St} {env : Ev} (vr : VRel K M H σ env) (i : Nat) : VRel K M H (σ.set i none) (env.set i none) := by
  refine ⟨vr.1, by rw [List.length_set, List.length_set]; exact vr.2.1, fun j d' e => ?_⟩
  by_cases hj : i = j
  · subst hj
    by_cases hl : i < env.length
    · rw [List.getElem?_set_self hl] at e
      cases e
    · rw [List.getElem?_eq_none (by rw [List.length_set]; omega)] at e; cases e
  · rw [List.getElem?_set_ne hj] at e ⊢
    exact vr.2.2 j d' e
theorem VRel.wipe {σ : L2.St} {env : Ev} (vr : VRel K M H σ env) : ∀ l : List Nat, VRel K M H (L2.wipe σ l) (wipeE l env)
  | [] => vr
  | i :: l => (VRel.wipe vr l).clr i
/-- the slots of a target are stored, in order: only they change -/
def OnlyAt (l : List Nat) (σ σ' : L2.St) : Prop := σ'.length = σ.length ∧ ∀ (j : Nat), j ∉ l → σ'[j]? = σ[j]?
mutual
theorem g_use : ∀ (t : Tg) (d : D) (x : V) (σ : L2.St) (env env1 : Ev) (Q : L2.St → Hp → Prop), VRel K M H σ env → Rep K H M d x → bindT t d env = .ok env1 → (∀ σ1, VRel K M H σ1 env1 → OnlyAt (slots t) σ σ1 → Q σ1 H) → gTg K t x σ H Q
  | .nm i, d, x, σ, env, env1, Q, vr, r, e, q => by
    cases e
    exact q _ (vr.set r i) ⟨List.length_set, fun j hj => List.getElem?_set_ne (fun z => hj (by simp [slots, z]))⟩
  | .tp ts, d, x, σ, env, env1, Q, vr, r, e, q => by
    cases d <;> first | (cases e; done) | skip
    rename_i xs
    obtain ⟨a, vs, rfl, _, ha, hr⟩ := r
    exact ⟨a, vs, rfl, SqT.of ha, by rw [hr.length]; exact bindTs_len e, gs_use _ xs vs σ env env1 Q vr hr e q⟩
theorem gs_use : ∀ (ts : Tgs) (ds : List D) (xs : List V) (σ : L2.St) (env env1 : Ev) (Q : L2.St → Hp → Prop), VRel K M H σ env → Reps K H M ds xs → bindTs ts ds env = .ok env1 → (∀ σ1, VRel K M H σ1 env1 → OnlyAt (slotss ts) σ σ1 → Q σ1 H) → gTgs K ts xs σ H Q
  | .nil, ds, xs, σ, env, env1, Q, vr, r, e, q => by
    cases ds with
    | cons d ds => cases e
    | nil =>
      cases e
      cases r
      exact ⟨rfl, q σ vr ⟨rfl, fun _ _ => rfl⟩⟩
  | .cons t ts, ds, xs, σ, env, env1, Q, vr, r, e, q => by
    cases ds with
    | nil => cases e
    | cons d ds =>
      obtain ⟨v, vs, rfl, h1, h2⟩ := r
      obtain ⟨env2, e1, e2⟩ := rb_eq_ok (show (bindT t d env).rb _ = _ from e)
      refine ⟨v, vs, rfl, g_use t d v σ env env2 _ vr h1 e1 fun σ1 vr1 o1 => gs_use ts ds vs σ1 env2 env1 Q vr1 h2 e2 fun σ2 vr2 o2 => q σ2 vr2 ⟨o2.1.trans o1.1, fun j hj => ?_⟩⟩
      simp only [slotss, List.mem_append, not_or] at hj
      exact (o2.2 j hj.2).trans (o1.2 j hj.1)
theorem bindTs_len : ∀ {ts : Tgs} {ds : List D} {env env1 : Ev}, bindTs ts ds env = .ok env1 → ds.length = lenT ts
  | .nil, [], _, _, _ => rfl
  | .nil, _ :: _, _, _, e => by cases e
  | .cons t ts, [], _, _, e => by cases e
  | .cons t ts, d :: ds, env, env1, e => by
    obtain ⟨env2, e1, e2⟩ := rb_eq_ok (show (bindT t d env).rb _ = _ from e)
    rw [List.length_cons, bindTs_len e2]; rfl
end
end
end PL
-- CZ
set_option Elab.async false
set_option linter.all false
set_option maxRecDepth 100000
set_option maxHeartbeats 4000000
/-! CZ: zip of two things, each a list or a tuple. -/
namespace PL
open PySem PySem.Spec PyProof.Rows L2
inductive Kd where | l | t
def kSq (K : PySem.W.Frag) (H : Hp) : Kd → Addr → List V → Prop
  | .l => SqL K H
  | .t => SqT K H
def kIt (h : Heap) : Kd → Addr → Addr → Nat → Prop
  | .l => h.IsListIter
  | .t => h.IsTupleIter
def kOb (h : Heap) : Kd → Addr → Array Value → Prop
  | .l => h.IsList
  | .t => h.IsTuple
def kO (l : Addr) : Kd → Obj
  | .l => { cls := .type "list_iterator", data := .fields #[.ref l, .int 0 0] }
  | .t => { cls := .type "tuple_iterator", data := .fields #[.ref l, .int 0 0] }
theorem kdr {prog : Program} {w : World} {A : Around} (hh : A.handled = none) (it l : Addr) (hne : l ≠ it) (items : Array Value) : ∀ k : Kd,
    Draws prog w A it [it, l] items.size (fun i v => items[i]? = some v) (fun i h => kIt h k it l i ∧ kOb h k l items)
  | .l => Draws.list hh it l hne items
  | .t => Draws.tuple hh it l hne items
theorem kbg (l : Addr) (items : Array Value) : ∀ k : Kd, Begins (.ref l) (kO l k) fun h => kOb h k l items
  | .l => begins_list l items
  | .t => begins_tuple l items
theorem kit0 {h : Heap} {it l : Addr} : ∀ k : Kd, h.get? it = some (kO l k) → kIt h k it l 0
  | .l, e => ⟨_, e, rfl, rfl⟩
  | .t, e => ⟨_, e, rfl, rfl⟩
theorem kit_at {h h' : Heap} {it l : Addr} {i : Nat} : ∀ k : Kd, kIt h k it l i → (∀ o, h.get? it = some o → h'.get? it = some o) → kIt h' k it l i
  | .l, x, f => x.at f
  | .t, x, f => x.at f
theorem kit_obj {h : Heap} {it l : Addr} {i : Nat} : ∀ k : Kd, kIt h k it l i → ∃ o, h.get? it = some o ∧ ∀ v, o.data ≠ .cell v
  | .l, ⟨o, e, _, d⟩ => ⟨o, e, fun v q => by rw [d] at q; cases q⟩
  | .t, ⟨o, e, _, d⟩ => ⟨o, e, fun v q => by rw [d] at q; cases q⟩
section
variable {X : Cx} {pins : List (Addr × Obj)} {σ : L2.St} {H : Hp} {s : Shared} {a : Addr} {xs ys : List V}
theorem kget (I : Inv X pins σ H s) : ∀ k : Kd, kSq X.K H k a xs → ∃ its : List Value, Vals xs its ∧ kOb s.heap k a its.toArray
  | .l, q => by
    obtain ⟨its, rv, p, _⟩ := I.list q
    exact ⟨its, rv, p.isList⟩
  | .t, q => by
    obtain ⟨its, rv, p, _⟩ := I.tuple q
    exact ⟨its, rv, p⟩
theorem kinj (I : Inv X pins σ H s) : ∀ k : Kd, kSq X.K H k a xs → kSq X.K H k a ys → xs = ys
  | .l, q, q' => I.list_inj q q'
  | .t, q, q' => I.tuple_inj q q'
theorem kob_lt {h : Heap} {a : Addr} {its : Array Value} : ∀ k : Kd, kOb h k a its → a < h.objs.size
  | .l, x => let ⟨o, e, _⟩ := x; Heap.lt_size e
  | .t, x => let ⟨o, e, _⟩ := x; Heap.lt_size e
end
/-- what stands at a and b at each turn, in new pairs -/
def Itx (K : PySem.W.Frag) (k1 k2 : Kd) (a b : Addr) : L2.It :=
  ⟨fun i H => ∃ (xs ys : List V) (x y : V), kSq K H k1 a xs ∧ kSq K H k2 b ys ∧ xs[i]? = some x ∧ ys[i]? = some y,
    fun i H v H' => ∃ T x y, v = .ref T ∧ H T = none ∧ H' = upd H T (.tup [x, y]) ∧ (∀ xs, kSq K H k1 a xs → xs[i]? = some x) ∧ ∀ ys, kSq K H k2 b ys → ys[i]? = some y,
    fun i H => ∃ xs ys : List V, kSq K H k1 a xs ∧ kSq K H k2 b ys ∧ i ≤ xs.length ∧ i ≤ ys.length ∧ (i = xs.length ∨ i = ys.length)⟩
structure SepX (z TI TO i1 i2 a b : Addr) : Prop where
  s : ZipSep2 z TI TO i1 i2 [i1, a] [i2, b]
  sa1 : a ≠ i1
  sb2 : b ≠ i2
theorem turn_zipX {P : Program} {w : World} {K : PySem.W.Frag} {elts : List Expr} {kk : Nat} {tpos : Pos} {k1 k2 : Kd} {a b z TI TO i1 i2 : Addr} (D : SepX z TI TO i1 i2 a b) :
    Turn P w K (.Tuple elts kk tpos) (Itx K k1 k2 a b) [z, TI, TO, i1, i2] z (fun i h => IsZip h z TI TO .none ∧ IsTupOf2 h TI (.ref i1) (.ref i2) ∧ (∃ x y, IsTupOf2 h TO x y) ∧ kIt h k1 i1 a i ∧ kIt h k2 i2 b i) where
  mem := by simp
  obj := fun i h st c hc => by
    obtain ⟨hz, hTI, ⟨x, y, hTO⟩, h1, h2⟩ := st
    simp only [List.mem_cons, List.not_mem_nil, or_false] at hc
    rcases hc with q | q | q | q | q
    · rw [q]; exact ⟨_, hz, fun v q => nomatch q⟩
    · rw [q]; exact ⟨_, hTI, fun v q => nomatch q⟩
    · rw [q]; exact ⟨_, hTO, fun v q => nomatch q⟩
    · rw [q]; exact kit_obj k1 h1
    · rw [q]; exact kit_obj k2 h2
  keep := fun i h h' st k => by
    obtain ⟨hz, hTI, ⟨x, y, hTO⟩, h1, h2⟩ := st
    exact ⟨k z (by simp) _ hz, k TI (by simp) _ hTI, ⟨x, y, k TO (by simp) _ hTO⟩, kit_at k1 h1 fun o q => k i1 (by simp) o q, kit_at k2 h2 fun o q => k i2 (by simp) o q⟩
  item := by
    intro X hP hw hK hc i pins s σ H E I hf st hg
    subst hP hw hK
    obtain ⟨hz, hTI, ⟨x0, y0, hTO⟩, h1, h2⟩ := st
    obtain ⟨xs, ys, x, y, hqx, hqy, hx, hy⟩ := hg
    obtain ⟨its, rv, p⟩ := kget I k1 hqx
    obtain ⟨its2, rv2, p2⟩ := kget I k2 hqy
    obtain ⟨u, hu, ru⟩ := rv.get hx
    obtain ⟨u2, hu2, ru2⟩ := rv2.get hy
    have hzl : z < s.heap.objs.size := Heap.lt_size hz
    have D1 := kdr (prog := X.prog) (w := X.w) (A := X.A.in1) (I.ok.hd hc) i1 a (fun e => D.sa1 e) its.toArray k1
    have D2 := kdr (prog := X.prog) (w := X.w) (A := X.A.in1) (I.ok.hd hc) i2 b (fun e => D.sb2 e) its2.toArray k2
    have l1 : i < its.toArray.size := by rw [List.size_toArray]; exact (List.getElem?_eq_some_iff.mp hu).1
    have l2 : i < its2.toArray.size := by rw [List.size_toArray]; exact (List.getElem?_eq_some_iff.mp hu2).1
    refine wpAny_pyNext_zipD2_item D.s D1 D2 hz hTI hTO ⟨h1, p⟩ ⟨h2, p2⟩ l1 l2 fun x1 x2 h' tk e1 e2 z' TO' h1' h2' hT hsz hk => ?_
    have e1 : its[i]? = some x1 := by simpa using e1
    have e2 : its2[i]? = some x2 := by simpa using e2
    rw [hu] at e1; cases e1
    rw [hu2] at e2; cases e2
    refine ⟨_, rfl, wpAny_letOwnedTupleGo_zip (s := { s with heap := h', toks := tk }) z' fun h'' z'' sb => ?_⟩
    have hT2 : h''.get? s.heap.objs.size = some { cls := .type "tuple", data := .seq #[u, u2] } := (sb.2 _ (Nat.ne_of_gt hzl)).trans hT
    have new : ObjOk X.prog X.w (upd H s.heap.objs.size (.tup [x, y])) h'' s.heap.objs.size (.tup [x, y]) :=
      ⟨by show 2 ≤ sizeLine; decide, [u, u2], .cons ru (.cons ru2 .nil), ⟨_, hT2, rfl, _, rfl⟩⟩
    have I1 : Inv X pins σ (upd H s.heap.objs.size (.tup [x, y])) { s with heap := h'', toks := tk } :=
      I.turnedNew (t' := tk) (ch := [z, TI, TO, i1, i2]) (fun c o hb q => (sb.2 c (fun q' => hb (by simp [q']))).trans (hk c o (fun q' => hb (by simp [q'])) (fun q' => hb (by simp [q'])) (fun q' => hb (by simp [q'])) (fun q' => hb (by simp [q'])) q)) hf (Nat.le_refl _) new
    refine ⟨.ref s.heap.objs.size, _, I1, rfl, ⟨_, x, y, rfl, I.hok.fresh (Nat.le_refl _), rfl, fun l hl => by rw [kinj I k1 hl hqx]; exact hx, fun l hl => by rw [kinj I k2 hl hqy]; exact hy⟩, ⟨z'', ?_, ⟨u, u2, ?_⟩, ?_, ?_⟩, fun c hcm => ?_⟩
    · exact (sb.2 _ D.s.TIz).trans (hk _ _ D.s.TIz D.s.TITO D.s.TIi1 D.s.TIi2 hTI)
    · exact (sb.2 _ D.s.TOz).trans TO'
    · exact kit_at k1 h1'.1 fun o q => (sb.2 _ (Ne.symm D.s.zi1)).trans q
    · exact kit_at k2 h2'.1 fun o q => (sb.2 _ (Ne.symm D.s.zi2)).trans q
    · have hlt : c < s.heap.objs.size := by
        simp only [List.mem_cons, List.not_mem_nil, or_false] at hcm
        obtain ⟨o1, g1, _⟩ := kit_obj k1 h1
        obtain ⟨o2, g2, _⟩ := kit_obj k2 h2
        rcases hcm with q | q | q | q | q
        · rw [q]; exact hzl
        · rw [q]; exact Heap.lt_size hTI
        · rw [q]; exact Heap.lt_size hTO
        · rw [q]; exact Heap.lt_size g1
        · rw [q]; exact Heap.lt_size g2
      rw [upd_ne (Nat.ne_of_lt hlt)]
      exact (hf c hcm).1
  done := by
    intro X hP hw hK hc i pins s σ H E I hf st hg
    subst hP hw hK
    obtain ⟨hz, hTI, ⟨x0, y0, hTO⟩, h1, h2⟩ := st
    obtain ⟨xs, ys, hqx, hqy, hi1, hi2, hend⟩ := hg
    obtain ⟨its, rv, p⟩ := kget I k1 hqx
    obtain ⟨its2, rv2, p2⟩ := kget I k2 hqy
    have l1 := rv.length
    have l2 := rv2.length
    have D1 := kdr (prog := X.prog) (w := X.w) (A := X.A.in1) (I.ok.hd hc) i1 a (fun e => D.sa1 e) its.toArray k1
    have D2 := kdr (prog := X.prog) (w := X.w) (A := X.A.in1) (I.ok.hd hc) i2 b (fun e => D.sb2 e) its2.toArray k2
    refine wpAny_pyNext_zipD2_end D.s D1 D2 hz hTI hTO ⟨h1, p⟩ ⟨h2, p2⟩ (by rw [List.size_toArray]; omega) (by rw [List.size_toArray]; omega) (by rw [List.size_toArray, List.size_toArray]; omega) fun h' tk hk => ⟨rfl, ?_⟩
    exact I.turnedL (t' := tk) (ch := [z, TI, TO, i1, i2]) (fun c o hb q =>
      hk c o (fun q' => hb (by simp [q'])) (fun q' => hb (by simp [q'])) (fun q' => hb (by simp [q'])) (fun q' => hb (by simp [q'])) q) hf
  self := fun A i s Q E st h => wpAny_pyIter_zip st.1 h
theorem sep_new {n a b : Nat} (ha : a < n) (hb : b < n) : SepX (n + 4) (n + 2) (n + 3) n (n + 1) a b := by
  have q : ∀ c : Nat, c < n → c ≠ n ∧ c ≠ n + 1 ∧ c ≠ n + 2 ∧ c ≠ n + 3 ∧ c ≠ n + 4 := fun c h => by omega
  have N : ∀ c d : Nat, (c < d ∨ d < c) → ¬ @Eq Addr c d := fun c d h e => by
    have e : @Eq Nat c d := e
    omega
  have qa := q a ha
  have qb := q b hb
  refine ⟨⟨?_, ?_, ?_, ?_, ?_, ?_, ?_, ?_, ?_, ?_, ?_, ?_, ?_⟩, qa.1, qb.2.1⟩
  all_goals simp only [List.mem_cons, List.not_mem_nil, or_false, not_or, ne_eq]
  all_goals first | trivial | exact N _ _ (by omega) | exact ⟨N _ _ (by omega), N _ _ (by omega)⟩ | exact .inl trivial | simp
def iZipX (K : PySem.W.Frag) (ta : TA) : TI := fun σ H R => ta σ H fun vs H1 => ∃ a b k1 k2 xs ys, vs = [.ref a, .ref b] ∧ kSq K H1 k1 a xs ∧ kSq K H1 k2 b ys ∧ R (Itx K k1 k2 a b) H1
theorem pi_zipX {X : Cx} {e e2 : Expr} {ta : TA} {p pos tpos : Pos} {elts : List Expr} {kk : Nat} (hg : Gl X "zip") (hm : X.mg "zip" = none) (ha : PA X [e, e2] ta)
    (hs : starEach [e, e2] X.env = (false, PySem.eval e X.env) :: starEach [e2] X.env) (hpl : (backTo pos (starEach [e2] X.env)).any (·.1) = false) :
    PI X (.Tuple elts kk tpos) (.Call (.Name "zip" p) [e, e2] [] pos) (iZipX X.K ta) := by
  refine ⟨fun pins s σ H R I h => ?_⟩
  refine Call_ (ld_blt I hg hm PyProof.Rows.boot_zip (PyProof.Rows.callWith_type1 (thn (ha.run pos pins s σ H _ I h) fun us s1 ⟨vs, H1, I1, r1, q1⟩ => ?_) hs hpl))
  obtain ⟨a, b, k1, k2, xs, ys, ex, hqx, hqy, q⟩ := q1
  subst ex
  cases r1 with
  | cons r rr =>
    cases rr with
    | cons r' rr =>
      cases rr
      cases r
      cases r'
      obtain ⟨its, rv, p1⟩ := kget I1 k1 hqx
      obtain ⟨its2, rv2, p2⟩ := kget I1 k2 hqy
      refine zip_begins2 (kbg a its.toArray k1) (kbg b its2.toArray k2) p1 p2 fun h' hz hTI hTO g1 g2 hsz hk => wpAny_pyIter_zip hz ?_
      have I2 : Inv X pins σ H1 { s1 with heap := h' } := I1.kept (t' := s1.toks) hk
      refine ⟨s1.heap.objs.size + 4, [s1.heap.objs.size + 4, s1.heap.objs.size + 2, s1.heap.objs.size + 3, s1.heap.objs.size, s1.heap.objs.size + 1], _, _, H1, rfl, I2, turn_zipX (sep_new (kob_lt k1 p1) (kob_lt k2 p2)), ⟨hz, hTI, ⟨_, _, hTO⟩, kit0 k1 g1, kit0 k2 g2⟩, fun c hcm => ?_, q⟩
      have hle : s1.heap.objs.size ≤ c := by
        simp only [List.mem_cons, List.not_mem_nil, or_false] at hcm
        rcases hcm with z | z | z | z | z
        · rw [z]; exact Nat.le_add_right _ _
        · rw [z]; exact Nat.le_add_right _ _
        · rw [z]; exact Nat.le_add_right _ _
        · rw [z]; exact Nat.le_refl _
        · rw [z]; exact Nat.le_add_right _ _
      exact I1.fpOk hle (I1.hok.fresh hle)
end PL
-- CZ3
set_option Elab.async false
set_option linter.all false
set_option maxRecDepth 100000
set_option maxHeartbeats 4000000
/-! CZ3: zip of three things, each a list or a tuple. -/
namespace PL
open PySem PySem.Spec PyProof.Rows L2
/-- what stands at a, b and c at each turn, in new triples -/
def Itx3 (K : PySem.W.Frag) (k1 k2 k3 : Kd) (a b c : Addr) : L2.It :=
  ⟨fun i H => ∃ (xs ys zs : List V) (x y z : V), kSq K H k1 a xs ∧ kSq K H k2 b ys ∧ kSq K H k3 c zs ∧ xs[i]? = some x ∧ ys[i]? = some y ∧ zs[i]? = some z,
    fun i H v H' => ∃ T x y z, v = .ref T ∧ H T = none ∧ H' = upd H T (.tup [x, y, z]) ∧ (∀ xs, kSq K H k1 a xs → xs[i]? = some x) ∧ (∀ ys, kSq K H k2 b ys → ys[i]? = some y) ∧ ∀ zs, kSq K H k3 c zs → zs[i]? = some z,
    fun i H => ∃ xs ys zs : List V, kSq K H k1 a xs ∧ kSq K H k2 b ys ∧ kSq K H k3 c zs ∧ i ≤ xs.length ∧ i ≤ ys.length ∧ i ≤ zs.length ∧ (i = xs.length ∨ i = ys.length ∨ i = zs.length)⟩
structure SepX3 (z TI TO i1 i2 i3 a b c : Addr) : Prop where
  s : ZipSep3 z TI TO i1 i2 i3 [i1, a] [i2, b] [i3, c]
  sa1 : a ≠ i1
  sb2 : b ≠ i2
  sc3 : c ≠ i3
theorem turn_zipX3 {P : Program} {w : World} {K : PySem.W.Frag} {elts : List Expr} {kk : Nat} {tpos : Pos} {k1 k2 k3 : Kd} {a b c z TI TO i1 i2 i3 : Addr} (D : SepX3 z TI TO i1 i2 i3 a b c) :
    Turn P w K (.Tuple elts kk tpos) (Itx3 K k1 k2 k3 a b c) [z, TI, TO, i1, i2, i3] z (fun i h => IsZip h z TI TO .none ∧ IsTupOf3 h TI (.ref i1) (.ref i2) (.ref i3) ∧ (∃ x y v, IsTupOf3 h TO x y v) ∧ kIt h k1 i1 a i ∧ kIt h k2 i2 b i ∧ kIt h k3 i3 c i) where
  mem := by simp
  obj := fun i h st c' hc => by
    obtain ⟨hz, hTI, ⟨x, y, v, hTO⟩, h1, h2, h3⟩ := st
    simp only [List.mem_cons, List.not_mem_nil, or_false] at hc
    rcases hc with q | q | q | q | q | q
    · rw [q]; exact ⟨_, hz, fun v q => nomatch q⟩
    · rw [q]; exact ⟨_, hTI, fun v q => nomatch q⟩
    · rw [q]; exact ⟨_, hTO, fun v q => nomatch q⟩
    · rw [q]; exact kit_obj k1 h1
    · rw [q]; exact kit_obj k2 h2
    · rw [q]; exact kit_obj k3 h3
  keep := fun i h h' st k => by
    obtain ⟨hz, hTI, ⟨x, y, v, hTO⟩, h1, h2, h3⟩ := st
    exact ⟨k z (by simp) _ hz, k TI (by simp) _ hTI, ⟨x, y, v, k TO (by simp) _ hTO⟩, kit_at k1 h1 fun o q => k i1 (by simp) o q, kit_at k2 h2 fun o q => k i2 (by simp) o q, kit_at k3 h3 fun o q => k i3 (by simp) o q⟩
  item := by
    intro X hP hw hK hc i pins s σ H E I hf st hg
    subst hP hw hK
    obtain ⟨hz, hTI, ⟨x0, y0, v0, hTO⟩, h1, h2, h3⟩ := st
    obtain ⟨xs, ys, zs, x, y, zz, hqx, hqy, hqz, hx, hy, hzz⟩ := hg
    obtain ⟨its, rv, p⟩ := kget I k1 hqx
    obtain ⟨its2, rv2, p2⟩ := kget I k2 hqy
    obtain ⟨its3, rv3, p3⟩ := kget I k3 hqz
    obtain ⟨u, hu, ru⟩ := rv.get hx
    obtain ⟨u2, hu2, ru2⟩ := rv2.get hy
    obtain ⟨u3, hu3, ru3⟩ := rv3.get hzz
    have hzl : z < s.heap.objs.size := Heap.lt_size hz
    have D1 := kdr (prog := X.prog) (w := X.w) (A := X.A.in1) (I.ok.hd hc) i1 a (fun e => D.sa1 e) its.toArray k1
    have D2 := kdr (prog := X.prog) (w := X.w) (A := X.A.in1) (I.ok.hd hc) i2 b (fun e => D.sb2 e) its2.toArray k2
    have D3 := kdr (prog := X.prog) (w := X.w) (A := X.A.in1) (I.ok.hd hc) i3 c (fun e => D.sc3 e) its3.toArray k3
    have l1 : i < its.toArray.size := by rw [List.size_toArray]; exact (List.getElem?_eq_some_iff.mp hu).1
    have l2 : i < its2.toArray.size := by rw [List.size_toArray]; exact (List.getElem?_eq_some_iff.mp hu2).1
    have l3 : i < its3.toArray.size := by rw [List.size_toArray]; exact (List.getElem?_eq_some_iff.mp hu3).1
    refine wpAny_pyNext_zipD3_item D.s D1 D2 D3 hz hTI hTO ⟨h1, p⟩ ⟨h2, p2⟩ ⟨h3, p3⟩ l1 l2 l3 fun x1 x2 x3 h' tk e1 e2 e3 z' TO' h1' h2' h3' hT hsz hk => ?_
    have e1 : its[i]? = some x1 := by simpa using e1
    have e2 : its2[i]? = some x2 := by simpa using e2
    have e3 : its3[i]? = some x3 := by simpa using e3
    rw [hu] at e1; cases e1
    rw [hu2] at e2; cases e2
    rw [hu3] at e3; cases e3
    refine ⟨_, rfl, wpAny_letOwnedTupleGo_zip (s := { s with heap := h', toks := tk }) z' fun h'' z'' sb => ?_⟩
    have hT2 : h''.get? s.heap.objs.size = some { cls := .type "tuple", data := .seq #[u, u2, u3] } := (sb.2 _ (Nat.ne_of_gt hzl)).trans hT
    have new : ObjOk X.prog X.w (upd H s.heap.objs.size (.tup [x, y, zz])) h'' s.heap.objs.size (.tup [x, y, zz]) :=
      ⟨by show 3 ≤ sizeLine; decide, [u, u2, u3], .cons ru (.cons ru2 (.cons ru3 .nil)), ⟨_, hT2, rfl, _, rfl⟩⟩
    have I1 : Inv X pins σ (upd H s.heap.objs.size (.tup [x, y, zz])) { s with heap := h'', toks := tk } :=
      I.turnedNew (t' := tk) (ch := [z, TI, TO, i1, i2, i3]) (fun c o hb q => (sb.2 c (fun q' => hb (by simp [q']))).trans (hk c o (fun q' => hb (by simp [q'])) (fun q' => hb (by simp [q'])) (fun q' => hb (by simp [q'])) (fun q' => hb (by simp [q'])) (fun q' => hb (by simp [q'])) q)) hf (Nat.le_refl _) new
    refine ⟨.ref s.heap.objs.size, _, I1, rfl, ⟨_, x, y, zz, rfl, I.hok.fresh (Nat.le_refl _), rfl, fun l hl => by rw [kinj I k1 hl hqx]; exact hx, fun l hl => by rw [kinj I k2 hl hqy]; exact hy, fun l hl => by rw [kinj I k3 hl hqz]; exact hzz⟩, ⟨z'', ?_, ⟨u, u2, u3, ?_⟩, ?_, ?_, ?_⟩, fun c hcm => ?_⟩
    · exact (sb.2 _ D.s.TIz).trans (hk _ _ D.s.TIz D.s.TITO D.s.TIi1 D.s.TIi2 D.s.TIi3 hTI)
    · exact (sb.2 _ D.s.TOz).trans TO'
    · exact kit_at k1 h1'.1 fun o q => (sb.2 _ (Ne.symm D.s.zi1)).trans q
    · exact kit_at k2 h2'.1 fun o q => (sb.2 _ (Ne.symm D.s.zi2)).trans q
    · exact kit_at k3 h3'.1 fun o q => (sb.2 _ (Ne.symm D.s.zi3)).trans q
    · have hlt : c < s.heap.objs.size := by
        simp only [List.mem_cons, List.not_mem_nil, or_false] at hcm
        obtain ⟨o1, g1, _⟩ := kit_obj k1 h1
        obtain ⟨o2, g2, _⟩ := kit_obj k2 h2
        obtain ⟨o3, g3, _⟩ := kit_obj k3 h3
        rcases hcm with q | q | q | q | q | q
        · rw [q]; exact hzl
        · rw [q]; exact Heap.lt_size hTI
        · rw [q]; exact Heap.lt_size hTO
        · rw [q]; exact Heap.lt_size g1
        · rw [q]; exact Heap.lt_size g2
        · rw [q]; exact Heap.lt_size g3
      rw [upd_ne (Nat.ne_of_lt hlt)]
      exact (hf c hcm).1
  done := by
    intro X hP hw hK hc i pins s σ H E I hf st hg
    subst hP hw hK
    obtain ⟨hz, hTI, ⟨x0, y0, v0, hTO⟩, h1, h2, h3⟩ := st
    obtain ⟨xs, ys, zs, hqx, hqy, hqz, hi1, hi2, hi3, hend⟩ := hg
    obtain ⟨its, rv, p⟩ := kget I k1 hqx
    obtain ⟨its2, rv2, p2⟩ := kget I k2 hqy
    obtain ⟨its3, rv3, p3⟩ := kget I k3 hqz
    have l1 := rv.length
    have l2 := rv2.length
    have l3 := rv3.length
    have D1 := kdr (prog := X.prog) (w := X.w) (A := X.A.in1) (I.ok.hd hc) i1 a (fun e => D.sa1 e) its.toArray k1
    have D2 := kdr (prog := X.prog) (w := X.w) (A := X.A.in1) (I.ok.hd hc) i2 b (fun e => D.sb2 e) its2.toArray k2
    have D3 := kdr (prog := X.prog) (w := X.w) (A := X.A.in1) (I.ok.hd hc) i3 c (fun e => D.sc3 e) its3.toArray k3
    refine wpAny_pyNext_zipD3_end D.s D1 D2 D3 hz hTI hTO ⟨h1, p⟩ ⟨h2, p2⟩ ⟨h3, p3⟩ (by rw [List.size_toArray]; omega) (by rw [List.size_toArray]; omega) (by rw [List.size_toArray]; omega) (by rw [List.size_toArray, List.size_toArray, List.size_toArray]; omega) fun h' tk hk => ⟨rfl, ?_⟩
    exact I.turnedL (t' := tk) (ch := [z, TI, TO, i1, i2, i3]) (fun c o hb q =>
      hk c o (fun q' => hb (by simp [q'])) (fun q' => hb (by simp [q'])) (fun q' => hb (by simp [q'])) (fun q' => hb (by simp [q'])) (fun q' => hb (by simp [q'])) q) hf
  self := fun A i s Q E st h => wpAny_pyIter_zip st.1 h
theorem sep_new3 {n a b c : Nat} (ha : a < n) (hb : b < n) (hc : c < n) : SepX3 (n + 5) (n + 3) (n + 4) n (n + 1) (n + 2) a b c := by
  have q : ∀ c : Nat, c < n → c ≠ n ∧ c ≠ n + 1 ∧ c ≠ n + 2 ∧ c ≠ n + 3 ∧ c ≠ n + 4 ∧ c ≠ n + 5 := fun c h => by omega
  have N : ∀ c d : Nat, (c < d ∨ d < c) → ¬ @Eq Addr c d := fun c d h e => by
    have e : @Eq Nat c d := e
    omega
  have qa := q a ha
  have qb := q b hb
  have qc := q c hc
  refine ⟨⟨?_, ?_, ?_, ?_, ?_, ?_, ?_, ?_, ?_, ?_, ?_, ?_, ?_, ?_, ?_, ?_, ?_, ?_, ?_, ?_, ?_⟩, qa.1, qb.2.1, qc.2.2.1⟩
  all_goals simp only [List.mem_cons, List.not_mem_nil, or_false, not_or, ne_eq]
  all_goals first | trivial | exact N _ _ (by omega) | exact ⟨N _ _ (by omega), N _ _ (by omega)⟩ | exact .inl trivial | simp
def iZipX3 (K : PySem.W.Frag) (ta : TA) : TI := fun σ H R => ta σ H fun vs H1 => ∃ a b c k1 k2 k3 xs ys zs, vs = [.ref a, .ref b, .ref c] ∧ kSq K H1 k1 a xs ∧ kSq K H1 k2 b ys ∧ kSq K H1 k3 c zs ∧ R (Itx3 K k1 k2 k3 a b c) H1
theorem pi_zipX3 {X : Cx} {e e2 e3 : Expr} {ta : TA} {p pos tpos : Pos} {elts : List Expr} {kk : Nat} (hg : Gl X "zip") (hm : X.mg "zip" = none) (ha : PA X [e, e2, e3] ta)
    (hs : starEach [e, e2, e3] X.env = (false, PySem.eval e X.env) :: starEach [e2, e3] X.env) (hpl : (backTo pos (starEach [e2, e3] X.env)).any (·.1) = false) :
    PI X (.Tuple elts kk tpos) (.Call (.Name "zip" p) [e, e2, e3] [] pos) (iZipX3 X.K ta) := by
  refine ⟨fun pins s σ H R I h => ?_⟩
  refine Call_ (ld_blt I hg hm PyProof.Rows.boot_zip (PyProof.Rows.callWith_type1 (thn (ha.run pos pins s σ H _ I h) fun us s1 ⟨vs, H1, I1, r1, q1⟩ => ?_) hs hpl))
  obtain ⟨a, b, c, k1, k2, k3, xs, ys, zs, ex, hqx, hqy, hqz, q⟩ := q1
  subst ex
  cases r1 with
  | cons r rr =>
    cases rr with
    | cons r' rr =>
      cases rr with
      | cons r'' rr =>
        cases rr
        cases r
        cases r'
        cases r''
        obtain ⟨its, rv, p1⟩ := kget I1 k1 hqx
        obtain ⟨its2, rv2, p2⟩ := kget I1 k2 hqy
        obtain ⟨its3, rv3, p3⟩ := kget I1 k3 hqz
        refine zip_begins3 (kbg a its.toArray k1) (kbg b its2.toArray k2) (kbg c its3.toArray k3) p1 p2 p3 fun h' hz hTI hTO g1 g2 g3 hsz hk => wpAny_pyIter_zip hz ?_
        have I2 : Inv X pins σ H1 { s1 with heap := h' } := I1.kept (t' := s1.toks) hk
        refine ⟨s1.heap.objs.size + 5, [s1.heap.objs.size + 5, s1.heap.objs.size + 3, s1.heap.objs.size + 4, s1.heap.objs.size, s1.heap.objs.size + 1, s1.heap.objs.size + 2], _, _, H1, rfl, I2, turn_zipX3 (sep_new3 (kob_lt k1 p1) (kob_lt k2 p2) (kob_lt k3 p3)), ⟨hz, hTI, ⟨_, _, _, hTO⟩, kit0 k1 g1, kit0 k2 g2, kit0 k3 g3⟩, fun c hcm => ?_, q⟩
        have hle : s1.heap.objs.size ≤ c := by
          simp only [List.mem_cons, List.not_mem_nil, or_false] at hcm
          rcases hcm with z | z | z | z | z | z
          · rw [z]; exact Nat.le_add_right _ _
          · rw [z]; exact Nat.le_add_right _ _
          · rw [z]; exact Nat.le_add_right _ _
          · rw [z]; exact Nat.le_refl _
          · rw [z]; exact Nat.le_add_right _ _
          · rw [z]; exact Nat.le_add_right _ _
        exact I1.fpOk hle (I1.hok.fresh hle)
end PL
-- C10
set_option Elab.async false
set_option linter.all false
set_option maxRecDepth 100000
set_option maxHeartbeats 4000000
/-! C10: what is walked, comprehensions, tests by data. -/
namespace PL
open PySem PySem.Spec PyProof.Rows L2
variable {K : PySem.W.Frag} {H H' H1 H2 : Hp} {M M' : Addr → Prop}
open Classical in
theorem hid_same {M : Addr → Prop} {H : Hp} : Same (hid M H) H := fun b o e => by
  unfold hid at e
  split at e
  · cases e
  · exact e
open Classical in
theorem hid_none {M : Addr → Prop} {H : Hp} {a : Addr} (h : M a) : hid M H a = none := by
  unfold hid
  rw [if_pos h]
open Classical in
theorem hid_at {M : Addr → Prop} {H : Hp} {a : Addr} {o : HO} (h : ¬ M a) (e : H a = some o) : hid M H a = some o := by
  unfold hid
  rw [if_neg h]; exact e
/-- seen in the heap without M -/
theorem kp_hid {M : Addr → Prop} {H G : Hp} (hG : ∀ a o, ¬ M a → H a = some o → G a = some o) (hf : ∀ a o u, H a = some (.frz o u) → G a = some (.frz o u)) : Kp M (fun _ => False) H G :=
  ⟨fun a o n h => ⟨hG a o n h, fun z => z⟩, hf⟩
open Classical in
theorem rep_hid {d : D} {v : V} (m : MOk M H) (r : Rep K H M d v) : Rep K (hid M H) (fun _ => False) d v :=
  Rep.go (kp_hid (fun a o n h => hid_at n h) fun a o u h => hid_at (fun z => by obtain ⟨vs, e⟩ := m a z; rw [h] at e; cases e) h) d v r
open Classical in
theorem reps_hid {d : List D} {v : List V} (m : MOk M H) (r : Reps K H M d v) : Reps K (hid M H) (fun _ => False) d v :=
  Reps.go (kp_hid (fun a o n h => hid_at n h) fun a o u h => hid_at (fun z => by obtain ⟨vs, e⟩ := m a z; rw [h] at e; cases e) h) d v r
theorem kp_up {G H : Hp} {M : Addr → Prop} (s : Same G H) (hM : ∀ a, M a → G a = none) : Kp (fun _ => False) M G H :=
  ⟨fun a o _ h => ⟨s a o h, fun z => by rw [hM a z] at h; cases h⟩, fun a o u h => s a _ h⟩
/-- an item of a list that lies in G -/
theorem wk_list {a : Addr} {vs : List V} {ds : List D} {G : Hp} (ha : G a = some (.lst vs)) (r : Reps K G (fun _ => False) ds vs) : Wk K (Itl K a) ds G := fun H s => by
  have ha' : SqL K H a vs := SqL.of (s a _ ha)
  refine ⟨fun i d e => ?_, ⟨vs, ha', by rw [r.length]; exact Nat.le_refl _⟩⟩
  obtain ⟨v, h1, h2⟩ := r.get e
  refine ⟨⟨vs, v, ha', h1⟩, fun x H' y => ?_⟩
  obtain ⟨e1, y⟩ := y
  subst e1
  have := y vs ha'
  rw [h1] at this; cases this
  exact ⟨Same.refl _, fun M m hM => Rep.go (kp_up s hM) d v h2⟩
theorem wk_tup {a : Addr} {vs : List V} {ds : List D} {G : Hp} (ha : G a = some (.tup vs)) (r : Reps K G (fun _ => False) ds vs) : Wk K (Itt K a) ds G := fun H s => by
  have ha' : SqT K H a vs := SqT.of (s a _ ha)
  refine ⟨fun i d e => ?_, ⟨vs, ha', by rw [r.length]; exact Nat.le_refl _⟩⟩
  obtain ⟨v, h1, h2⟩ := r.get e
  refine ⟨⟨vs, v, ha', h1⟩, fun x H' y => ?_⟩
  obtain ⟨e1, y⟩ := y
  subst e1
  have := y vs ha'
  rw [h1] at this; cases this
  exact ⟨Same.refl _, fun M m hM => Rep.go (kp_up s hM) d v h2⟩
theorem wk_range {lo : Int} {n : Nat} {G : Hp} : Wk K (Itr lo n) (rngN n lo 1) G := fun H s => by
  rw [rngN_one]
  refine ⟨fun i d e => ?_, by rw [List.length_map, List.length_range]; exact Nat.le_refl n⟩
  rw [List.getElem?_map] at e
  by_cases hi : i < n
  · rw [List.getElem?_range hi] at e
    cases e
    refine ⟨hi, fun x H' y => ?_⟩
    obtain ⟨e1, e2⟩ := y
    subst e1
    subst e2
    exact ⟨Same.refl _, fun M m hM => rfl⟩
  · rw [List.getElem?_eq_none (by rw [List.length_range]; omega)] at e
    cases e
theorem rngN_st : ∀ (n : Nat) (lo st : Int), rngN n lo st = (List.range n).map fun i : Nat => D.int (lo + (i : Nat) * st)
  | 0, _, _ => rfl
  | n + 1, lo, st => by
    show D.int lo :: rngN n (lo + st) st = _
    rw [rngN_st n, List.range_succ_eq_map, List.map_cons, List.map_map]
    congr 1
    · simp
    · apply List.map_congr_left
      intro i _
      show D.int (lo + st + (i : Nat) * st) = D.int (lo + ((i + 1 : Nat) : Int) * st)
      rw [Int.natCast_add, Int.add_mul]
      congr 1
      simp
      omega
theorem wk_rangeC {lo c : Int} {n : Nat} {G : Hp} : Wk K (Itc lo c n) (rngN n lo c) G := fun H s => by
  rw [rngN_st]
  refine ⟨fun i d e => ?_, by rw [List.length_map, List.length_range]; exact Nat.le_refl n⟩
  rw [List.getElem?_map] at e
  by_cases hi : i < n
  · rw [List.getElem?_range hi] at e
    cases e
    refine ⟨hi, fun x H' y => ?_⟩
    obtain ⟨e1, e2⟩ := y
    subst e1
    subst e2
    exact ⟨Same.refl _, fun M m hM => rfl⟩
  · rw [List.getElem?_eq_none (by rw [List.length_range]; omega)] at e
    cases e
theorem zip2_get : ∀ {xs ys : List D} {i : Nat} {d : D}, (zip2 xs ys)[i]? = some d → ∃ x y, xs[i]? = some x ∧ ys[i]? = some y ∧ d = .tup [x, y]
  | [], _, _, _, h => by simp [zip2] at h
  | _ :: _, [], _, _, h => by simp [zip2] at h
  | x :: xs, y :: ys, 0, d, h => by
    simp [zip2] at h
    exact ⟨x, y, rfl, rfl, h.symm⟩
  | x :: xs, y :: ys, i + 1, d, h => by
    simp only [zip2, List.getElem?_cons_succ] at h
    obtain ⟨a, b, h1, h2, h3⟩ := zip2_get h
    exact ⟨a, b, by simpa using h1, by simpa using h2, h3⟩
theorem zip2_len : ∀ {xs ys : List D}, xs.length ≤ (zip2 xs ys).length ∨ ys.length ≤ (zip2 xs ys).length
  | [], _ => .inl (by simp)
  | _ :: _, [] => .inr (by simp)
  | x :: xs, y :: ys => by
    rcases @zip2_len xs ys with h | h
    · exact .inl (by simp only [zip2, List.length_cons]; omega)
    · exact .inr (by simp only [zip2, List.length_cons]; omega)
theorem pair_rep {G H : Hp} {T : Addr} {d e : D} {x y : V} {M : Addr → Prop} (s : Same G H) (hT : H T = none) (m : MOk M H) (hM : ∀ a, M a → G a = none) (r1 : Rep K G (fun _ => False) d x) (r2 : Rep K G (fun _ => False) e y) :
    Rep K (upd H T (.tup [x, y])) M (.tup [d, e]) (.ref T) := by
  have k : Kp (fun _ => False) M G (upd H T (.tup [x, y])) := kp_up (s.trans (same_upd hT)) hM
  exact ⟨T, [x, y], rfl, m.new hT, upd_same, Reps.cons (Rep.go k d x r1) (Reps.cons (Rep.go k e y r2) Reps.nil)⟩
def kHO : Kd → List V → HO
  | .l, vs => .lst vs
  | .t, vs => .tup vs
theorem ksq_of {H : Hp} {a : Addr} {vs : List V} : ∀ k : Kd, H a = some (kHO k vs) → kSq K H k a vs
  | .l, h => SqL.of h
  | .t, h => SqT.of h
theorem zip2_min : ∀ {xs ys : List D}, (zip2 xs ys).length ≤ xs.length ∧ (zip2 xs ys).length ≤ ys.length ∧ ((zip2 xs ys).length = xs.length ∨ (zip2 xs ys).length = ys.length)
  | [], ys => ⟨Nat.le_refl _, Nat.zero_le _, .inl rfl⟩
  | _ :: _, [] => ⟨Nat.zero_le _, Nat.le_refl _, .inr rfl⟩
  | x :: xs, y :: ys => by
    obtain ⟨h1, h2, h3⟩ := zip2_min (xs := xs) (ys := ys)
    show (zip2 xs ys).length + 1 ≤ xs.length + 1 ∧ (zip2 xs ys).length + 1 ≤ ys.length + 1 ∧ ((zip2 xs ys).length + 1 = xs.length + 1 ∨ (zip2 xs ys).length + 1 = ys.length + 1)
    omega
theorem wk_zipX {a b : Addr} {vs ws : List V} {ds es : List D} {G : Hp} (k1 k2 : Kd) (ha : G a = some (kHO k1 vs)) (hb : G b = some (kHO k2 ws)) (r : Reps K G (fun _ => False) ds vs) (r' : Reps K G (fun _ => False) es ws) : Wk K (Itx K k1 k2 a b) (zip2 ds es) G := fun H s => by
  have ha' : kSq K H k1 a vs := ksq_of k1 (s a _ ha)
  have hb' : kSq K H k2 b ws := ksq_of k2 (s b _ hb)
  refine ⟨fun i d e => ?_, ⟨vs, ws, ha', hb', by rw [r.length, r'.length]; exact zip2_min⟩⟩
  obtain ⟨x, y, h1, h2, rfl⟩ := zip2_get e
  obtain ⟨v, h3, h4⟩ := r.get h1
  obtain ⟨w, h5, h6⟩ := r'.get h2
  refine ⟨⟨vs, ws, v, w, ha', hb', h3, h5⟩, fun z H' y' => ?_⟩
  obtain ⟨T, x', y'', rfl, hT, rfl, f1, f2⟩ := y'
  have e1 := f1 vs ha'
  have e2 := f2 ws hb'
  rw [h3] at e1; cases e1
  rw [h5] at e2; cases e2
  exact ⟨same_upd hT, fun M m hM => pair_rep s hT m hM h4 h6⟩
theorem seq_rep {H : Hp} {d : D} {xs : List D} {x : V} (e : seqD d = .ok xs) (r : Rep K H M d x) : ∃ a k vs, x = .ref a ∧ ¬ M a ∧ H a = some (kHO k vs) ∧ Reps K H M xs vs := by
  cases d <;> first | (cases e; done) | skip
  · cases e
    obtain ⟨a, vs, e1, e2, e3, e4⟩ := r
    exact ⟨a, .t, vs, e1, e2, e3, e4⟩
  · cases e
    obtain ⟨a, vs, e1, e2, e3, e4⟩ := r
    exact ⟨a, .l, vs, e1, e2, e3, e4⟩
theorem zipF_seq {x y : D} {ds : List D} (h : zipF x y = .ok ds) : ∃ xs ys, seqD x = .ok xs ∧ seqD y = .ok ys ∧ ds = zip2 xs ys := by
  cases x <;> cases y <;> first | (cases h; done) | (cases h; exact ⟨_, _, rfl, rfl, rfl⟩)
theorem zip3_get : ∀ {xs ys zs : List D} {i : Nat} {d : D}, (zip3 xs ys zs)[i]? = some d → ∃ x y z, xs[i]? = some x ∧ ys[i]? = some y ∧ zs[i]? = some z ∧ d = .tup [x, y, z]
  | [], _, _, _, _, h => by simp [zip3] at h
  | _ :: _, [], _, _, _, h => by simp [zip3] at h
  | _ :: _, _ :: _, [], _, _, h => by simp [zip3] at h
  | x :: xs, y :: ys, z :: zs, 0, d, h => by
    simp [zip3] at h
    exact ⟨x, y, z, rfl, rfl, rfl, h.symm⟩
  | x :: xs, y :: ys, z :: zs, i + 1, d, h => by
    simp only [zip3, List.getElem?_cons_succ] at h
    obtain ⟨a, b, c, h1, h2, h3, h4⟩ := zip3_get h
    exact ⟨a, b, c, by simpa using h1, by simpa using h2, by simpa using h3, h4⟩
theorem zip3_min : ∀ {xs ys zs : List D}, (zip3 xs ys zs).length ≤ xs.length ∧ (zip3 xs ys zs).length ≤ ys.length ∧ (zip3 xs ys zs).length ≤ zs.length ∧ ((zip3 xs ys zs).length = xs.length ∨ (zip3 xs ys zs).length = ys.length ∨ (zip3 xs ys zs).length = zs.length)
  | [], ys, zs => ⟨Nat.le_refl _, Nat.zero_le _, Nat.zero_le _, .inl rfl⟩
  | _ :: _, [], zs => ⟨Nat.zero_le _, Nat.le_refl _, Nat.zero_le _, .inr (.inl rfl)⟩
  | _ :: _, _ :: _, [] => ⟨Nat.zero_le _, Nat.zero_le _, Nat.le_refl _, .inr (.inr rfl)⟩
  | x :: xs, y :: ys, z :: zs => by
    obtain ⟨h1, h2, h3, h4⟩ := zip3_min (xs := xs) (ys := ys) (zs := zs)
    show (zip3 xs ys zs).length + 1 ≤ xs.length + 1 ∧ (zip3 xs ys zs).length + 1 ≤ ys.length + 1 ∧ (zip3 xs ys zs).length + 1 ≤ zs.length + 1 ∧ ((zip3 xs ys zs).length + 1 = xs.length + 1 ∨ (zip3 xs ys zs).length + 1 = ys.length + 1 ∨ (zip3 xs ys zs).length + 1 = zs.length + 1)
    omega
theorem triple_rep {G H : Hp} {T : Addr} {d e f : D} {x y z : V} {M : Addr → Prop} (s : Same G H) (hT : H T = none) (m : MOk M H) (hM : ∀ a, M a → G a = none) (r1 : Rep K G (fun _ => False) d x) (r2 : Rep K G (fun _ => False) e y) (r3 : Rep K G (fun _ => False) f z) :
    Rep K (upd H T (.tup [x, y, z])) M (.tup [d, e, f]) (.ref T) := by
  have k : Kp (fun _ => False) M G (upd H T (.tup [x, y, z])) := kp_up (s.trans (same_upd hT)) hM
  exact ⟨T, [x, y, z], rfl, m.new hT, upd_same, Reps.cons (Rep.go k d x r1) (Reps.cons (Rep.go k e y r2) (Reps.cons (Rep.go k f z r3) Reps.nil))⟩
theorem wk_zipX3 {a b c : Addr} {vs ws us : List V} {ds es fs : List D} {G : Hp} (k1 k2 k3 : Kd) (ha : G a = some (kHO k1 vs)) (hb : G b = some (kHO k2 ws)) (hc : G c = some (kHO k3 us)) (r : Reps K G (fun _ => False) ds vs) (r' : Reps K G (fun _ => False) es ws) (r'' : Reps K G (fun _ => False) fs us) : Wk K (Itx3 K k1 k2 k3 a b c) (zip3 ds es fs) G := fun H s => by
  have ha' : kSq K H k1 a vs := ksq_of k1 (s a _ ha)
  have hb' : kSq K H k2 b ws := ksq_of k2 (s b _ hb)
  have hc' : kSq K H k3 c us := ksq_of k3 (s c _ hc)
  refine ⟨fun i d e => ?_, ⟨vs, ws, us, ha', hb', hc', by rw [r.length, r'.length, r''.length]; exact zip3_min⟩⟩
  obtain ⟨x, y, z, h1, h2, h0, rfl⟩ := zip3_get e
  obtain ⟨v, h3, h4⟩ := r.get h1
  obtain ⟨w, h5, h6⟩ := r'.get h2
  obtain ⟨u, h7, h8⟩ := r''.get h0
  refine ⟨⟨vs, ws, us, v, w, u, ha', hb', hc', h3, h5, h7⟩, fun z H' y' => ?_⟩
  obtain ⟨T, x', y'', z'', rfl, hT, rfl, f1, f2, f3⟩ := y'
  have e1 := f1 vs ha'
  have e2 := f2 ws hb'
  have e3 := f3 us hc'
  rw [h3] at e1; cases e1
  rw [h5] at e2; cases e2
  rw [h7] at e3; cases e3
  exact ⟨same_upd hT, fun M m hM => triple_rep s hT m hM h4 h6 h8⟩
section
variable {C : Cxt} {n : Nat} {cl : Str → Value} {W : WS} {sc osc : Scope} {X : Cx} {φ : Phi} {a b c e tg : Expr} {es : List Expr} {p q r : Ex} {ps : Exs} {pos pos2 p1 p2 p3 : Pos} {x : Str} {i : Nat}
theorem foldSet {iter : Expr} {env : Env} (h : notSet iter = true) : ∀ x, foldedSetIterable iter env x = pure x := by
  intro x
  cases iter <;> first | rfl | cases h
theorem i_ex (hp : PE X e (tD X.K W φ p)) : PI X tg e (tDi X.K W φ (.ex p)) := by
  refine ⟨fun pins s σ H R I ⟨M, env, vr, h⟩ => ?_⟩
  have h1 := wpR.bind (show wpR W σ H ((eval φ p env).rb walkF) _ from h)
  cases ev : eval φ p env with
  | bad => rw [ev] at h1; exact h1.elim
  | exn c =>
    refine (pi_list hp).run pins s σ H R I ⟨M, env, vr, ?_⟩
    rw [ev] at h1 ⊢
    exact h1
  | ok d =>
    rw [ev] at h1
    obtain ⟨ds, e1, h2⟩ := (show wpR W σ H (walkF d) _ from h1).okv (nx_walkF d)
    cases d <;> first | (cases e1; done) | skip
    · cases e1
      refine (pi_tup hp).run pins s σ H R I ⟨M, env, vr, ?_⟩
      rw [ev]
      intro v H1 s1 r1 _
      have m1 := vr.1.same s1
      obtain ⟨a', vs, rfl, na, ha, hr⟩ := r1
      exact ⟨a', rfl, ⟨vs, SqT.of ha⟩, h2 _ H1 s1 (wk_tup (hid_at na ha) (reps_hid m1 hr))⟩
    · cases e1
      refine (pi_list hp).run pins s σ H R I ⟨M, env, vr, ?_⟩
      rw [ev]
      intro v H1 s1 r1 _
      have m1 := vr.1.same s1
      obtain ⟨a', vs, rfl, na, ha, hr⟩ := r1
      exact ⟨a', rfl, ⟨vs, SqL.of ha⟩, h2 _ H1 s1 (wk_list (hid_at na ha) (reps_hid m1 hr))⟩
theorem rngF_ok {lo hi : Int} {ds : List D} (h : rngF lo hi = .ok ds) : ds = rngN (hi - lo).toNat lo 1 ∧ (-(2 ^ 62) ≤ lo ∧ lo < 2 ^ 62) ∧ (-(2 ^ 62) ≤ hi ∧ hi < 2 ^ 62) := by
  unfold rngF at h
  split at h
  · rename_i hb
    cases h
    rw [Bool.and_eq_true] at hb
    have b1 := small62_ok hb.1
    have b2 := small62_ok hb.2
    exact ⟨rfl, ⟨by omega, by omega⟩, by omega, by omega⟩
  · cases h
theorem i_rng1 (hg : Gl X "range") (hm : X.mg "range" = none) (hs : notStar a = true) (hp : PE X a (tD X.K W φ p)) : PI X tg (.Call (.Name "range" p1) [a] [] pos) (tDi X.K W φ (.rng1 p)) := by
  refine (pi_range1 hg hm (pa_cons hp pa_nil (star_cons hs)) (star_cons hs)).imp fun σ H R ⟨M, env, vr, h⟩ => ?_
  refine tD.use vr ((wpR.bind h).mono (Same.refl H) fun dx e1 h2 x H1 s1 r1 _ => ?_)
  obtain ⟨j, e2, h3⟩ := (wpR.bind h2).okv (nx_asInt dx)
  cases dx <;> cases e2
  cases r1
  obtain ⟨ds, e3, h4⟩ := h3.okv (nx_rng 0 _)
  obtain ⟨rfl, b1, b2⟩ := rngF_ok e3
  refine ⟨_, rfl, b2.1, b2.2, h4 _ H1 s1 ?_⟩
  have e : ∀ j : Int, (j - 0).toNat = j.toNat := fun j => by omega
  rw [e]
  exact wk_range
theorem i_rng2 (hg : Gl X "range") (hm : X.mg "range" = none) (hs : notStar a = true) (hs2 : notStar b = true) (hp : PE X a (tD X.K W φ p)) (hq : PE X b (tD X.K W φ q)) : PI X tg (.Call (.Name "range" p1) [a, b] [] pos) (tDi X.K W φ (.rng2 p q)) := by
  refine (pi_range2 hg hm (pa_cons hp (pa_cons hq pa_nil (star_cons hs2)) (star_cons hs)) (by rw [star_cons hs, star_cons hs2]; rfl) (star_cons hs2)).imp fun σ H R ⟨M, env, vr, h⟩ => ?_
  refine tD.use vr ((wpR.bind h).mono (Same.refl H) fun dx e1 h2 x H1 s1 r1 _ => ?_)
  obtain ⟨j, e2, h3⟩ := (wpR.bind h2).okv (nx_asInt dx)
  cases dx <;> cases e2
  cases r1
  refine tD.use (vr.same s1) ((wpR.bind h3).mono s1 fun dy e3 h4 y H2 s2 r2 _ => ?_)
  obtain ⟨k, e4, h5⟩ := (wpR.bind h4).okv (nx_asInt dy)
  cases dy <;> cases e4
  cases r2
  obtain ⟨ds, e5, h6⟩ := h5.okv (nx_rng _ _)
  obtain ⟨rfl, b1, b2⟩ := rngF_ok e5
  exact ⟨_, _, rfl, ⟨b1.1, b1.2, b2.1, b2.2⟩, h6 _ H2 (s1.trans s2) wk_range⟩
theorem i_rng1R (hg : Gl X "range") (hm : X.mg "range" = none) (hs : notStar a = true) (hp : PE X a (tD X.K W φ p)) : PI X tg (.Call (.Name "range" p1) [a] [] pos) (tDiR X.K W φ (.rng1 p)) := by
  refine (pi_range1 hg hm (pa_cons hp pa_nil (star_cons hs)) (star_cons hs)).imp fun σ H R ⟨M, env, vr, h⟩ => ?_
  refine tD.use vr ((wpR.bind h).mono (Same.refl H) fun dx e1 h2 x H1 s1 r1 _ => ?_)
  obtain ⟨j, e2, h3⟩ := (wpR.bind h2).okv (nx_asInt dx)
  cases dx <;> cases e2
  cases r1
  obtain ⟨ds, e3, h4⟩ := h3.okv (nx_rng 0 _)
  obtain ⟨rfl, b1, b2⟩ := rngF_ok e3
  refine ⟨_, rfl, b2.1, b2.2, h4 _ H1 s1 fun G => ?_⟩
  have e : ∀ j : Int, (j - 0).toNat = j.toNat := fun j => by omega
  rw [e]
  exact wk_range
theorem i_rng2R (hg : Gl X "range") (hm : X.mg "range" = none) (hs : notStar a = true) (hs2 : notStar b = true) (hp : PE X a (tD X.K W φ p)) (hq : PE X b (tD X.K W φ q)) : PI X tg (.Call (.Name "range" p1) [a, b] [] pos) (tDiR X.K W φ (.rng2 p q)) := by
  refine (pi_range2 hg hm (pa_cons hp (pa_cons hq pa_nil (star_cons hs2)) (star_cons hs)) (by rw [star_cons hs, star_cons hs2]; rfl) (star_cons hs2)).imp fun σ H R ⟨M, env, vr, h⟩ => ?_
  refine tD.use vr ((wpR.bind h).mono (Same.refl H) fun dx e1 h2 x H1 s1 r1 _ => ?_)
  obtain ⟨j, e2, h3⟩ := (wpR.bind h2).okv (nx_asInt dx)
  cases dx <;> cases e2
  cases r1
  refine tD.use (vr.same s1) ((wpR.bind h3).mono s1 fun dy e3 h4 y H2 s2 r2 _ => ?_)
  obtain ⟨k, e4, h5⟩ := (wpR.bind h4).okv (nx_asInt dy)
  cases dy <;> cases e4
  cases r2
  obtain ⟨ds, e5, h6⟩ := h5.okv (nx_rng _ _)
  obtain ⟨rfl, b1, b2⟩ := rngF_ok e5
  exact ⟨_, _, rfl, ⟨b1.1, b1.2, b2.1, b2.2⟩, h6 _ H2 (s1.trans s2) fun G => wk_range⟩
theorem rngF3_ok {lo hi st : Int} {ds : List D} (h : rngF3 lo hi st = .ok ds) : st = -1 ∧ ds = rngN (lo - hi).toNat lo (-1) ∧ (-(2 ^ 62) ≤ lo ∧ lo < 2 ^ 62) ∧ (-(2 ^ 62) ≤ hi ∧ hi < 2 ^ 62) := by
  unfold rngF3 at h
  split at h
  · rename_i hb
    cases h
    rw [Bool.and_eq_true, Bool.and_eq_true] at hb
    have b1 := small62_ok hb.1.1
    have b2 := small62_ok hb.1.2
    obtain rfl := of_decide_eq_true hb.2
    exact ⟨rfl, rfl, ⟨by omega, by omega⟩, by omega, by omega⟩
  · cases h
theorem i_rng3R (hg : Gl X "range") (hm : X.mg "range" = none) (hs : notStar a = true) (hs2 : notStar b = true) (hs3 : notStar c = true) (hp : PE X a (tD X.K W φ p)) (hq : PE X b (tD X.K W φ q)) (hr : PE X c (tD X.K W φ r)) : PI X tg (.Call (.Name "range" p1) [a, b, c] [] pos) (tDiR X.K W φ (.rng3 p q r)) := by
  refine (pi_range3 hg hm (pa_cons hp (pa_cons hq (pa_cons hr pa_nil (star_cons hs3)) (star_cons hs2)) (star_cons hs)) (star_cons hs) (by rw [star_cons hs2, star_cons hs3]; rfl)).imp fun σ H R ⟨M, env, vr, h⟩ => ?_
  refine tD.use vr ((wpR.bind h).mono (Same.refl H) fun dx e1 h2 x H1 s1 r1 _ => ?_)
  obtain ⟨j, e2, h3⟩ := (wpR.bind h2).okv (nx_asInt dx)
  cases dx <;> cases e2
  cases r1
  refine tD.use (vr.same s1) ((wpR.bind h3).mono s1 fun dy e3 h4 y H2 s2 r2 _ => ?_)
  obtain ⟨k, e4, h5⟩ := (wpR.bind h4).okv (nx_asInt dy)
  cases dy <;> cases e4
  cases r2
  refine tD.use ((vr.same s1).same s2) ((wpR.bind h5).mono (s1.trans s2) fun dz e5 h6 z H3 s3 r3 _ => ?_)
  obtain ⟨m, e6, h7⟩ := (wpR.bind h6).okv (nx_asInt dz)
  cases dz <;> cases e6
  cases r3
  obtain ⟨ds, e7, h8⟩ := h7.okv (nx_rng3 _ _ _)
  obtain ⟨rfl, rfl, b1, b2⟩ := rngF3_ok e7
  exact ⟨_, _, _, _, rfl, RgC.neg b1.1 b1.2 b2.1 b2.2, h8 _ H3 ((s1.trans s2).trans s3) fun G => wk_rangeC⟩
theorem tDi_R {it : PL.It} {e : Expr} (h : PI X tg e (tDiR X.K W φ it)) : PI X tg e (tDi X.K W φ it) :=
  h.imp fun σ H R ⟨M, env, vr, q⟩ => ⟨M, env, vr, q.mono (Same.refl H) fun ds e1 z J H' s wk => z J H' s (wk _)⟩
theorem i_zip2 {elts : List Expr} {kk : Nat} {tpos : Pos} (hg : Gl X "zip") (hm : X.mg "zip" = none) (hs : notStar a = true) (hs2 : notStar b = true) (hp : PE X a (tD X.K W φ p)) (hq : PE X b (tD X.K W φ q)) :
    PI X (.Tuple elts kk tpos) (.Call (.Name "zip" p1) [a, b] [] pos) (tDi X.K W φ (.zip2 p q)) := by
  have pa : PA X [a, b] (tCons (tD X.K W φ p) (tCons (tD X.K W φ q) tNil)) := pa_cons hp (pa_cons hq pa_nil (star_cons hs2)) (star_cons hs)
  refine (pi_zipX hg hm pa (star_cons hs) (by rw [star_cons hs2]; rfl)).imp fun σ H R ⟨M, env, vr, h⟩ => ?_
  refine tD.use vr ((wpR.bind h).mono (Same.refl H) fun dx e1 h2 x H1 s1 r1 _ => ?_)
  refine tD.use (vr.same s1) ((wpR.bind h2).mono s1 fun dy e3 h3 y H2 s2 r2 _ => ?_)
  obtain ⟨zs, e4, h5⟩ := h3.okv (nx_zipF dx dy)
  have s12 := s1.trans s2
  have m2 := vr.1.same s12
  obtain ⟨xs, ys, g1, g2, rfl⟩ := zipF_seq e4
  obtain ⟨a', k1, vs, rfl, na, ha, hr⟩ := seq_rep g1 (r1.same s2)
  obtain ⟨b', k2, ws, rfl, nb, hb, hr'⟩ := seq_rep g2 r2
  exact ⟨a', b', k1, k2, vs, ws, rfl, ksq_of k1 ha, ksq_of k2 hb, h5 _ H2 s12 (wk_zipX k1 k2 (hid_at na ha) (hid_at nb hb) (reps_hid m2 hr) (reps_hid m2 hr'))⟩

theorem i_zip3 {elts : List Expr} {kk : Nat} {tpos : Pos} (hg : Gl X "zip") (hm : X.mg "zip" = none) (hs : notStar a = true) (hs2 : notStar b = true) (hs3 : notStar c = true) (hp : PE X a (tD X.K W φ p)) (hq : PE X b (tD X.K W φ q)) (hr : PE X c (tD X.K W φ r)) :
    PI X (.Tuple elts kk tpos) (.Call (.Name "zip" p1) [a, b, c] [] pos) (tDi X.K W φ (.zip3 p q r)) := by
  have pa : PA X [a, b, c] (tCons (tD X.K W φ p) (tCons (tD X.K W φ q) (tCons (tD X.K W φ r) tNil))) := pa_cons hp (pa_cons hq (pa_cons hr pa_nil (star_cons hs3)) (star_cons hs2)) (star_cons hs)
  refine (pi_zipX3 hg hm pa (star_cons hs) (by rw [star_cons hs2, star_cons hs3]; rfl)).imp fun σ H R ⟨M, env, vr, h⟩ => ?_
  refine tD.use vr ((wpR.bind h).mono (Same.refl H) fun dx e1 h2 x H1 s1 r1 _ => ?_)
  refine tD.use (vr.same s1) ((wpR.bind h2).mono s1 fun dy e3 h3 y H2 s2 r2 _ => ?_)
  refine tD.use ((vr.same s1).same s2) ((wpR.bind h3).mono (s1.trans s2) fun dz e5 h4 z H3 s3 r3 _ => ?_)
  obtain ⟨xs, g1, h5⟩ := (wpR.bind h4).okv (nx_seqD dx)
  obtain ⟨ys, g2, h6⟩ := (wpR.bind h5).okv (nx_seqD dy)
  obtain ⟨zs, g3, h7⟩ := (wpR.bind h6).okv (nx_seqD dz)
  have s13 := (s1.trans s2).trans s3
  have m3 := vr.1.same s13
  obtain ⟨a', k1, vs, rfl, na, ha, hr1⟩ := seq_rep g1 ((r1.same s2).same s3)
  obtain ⟨b', k2, ws, rfl, nb, hb, hr2⟩ := seq_rep g2 (r2.same s3)
  obtain ⟨c', k3, us, rfl, nc, hc, hr3⟩ := seq_rep g3 r3
  exact ⟨a', b', c', k1, k2, k3, vs, ws, us, rfl, ksq_of k1 ha, ksq_of k2 hb, ksq_of k3 hc, h7 _ H3 s13 (wk_zipX3 k1 k2 k3 (hid_at na ha) (hid_at nb hb) (hid_at nc hc) (reps_hid m3 hr1) (reps_hid m3 hr2) (reps_hid m3 hr3))⟩

/-! ### comprehensions -/
theorem wipe_get (σ : L2.St) (vs : List Nat) (j : Nat) : (L2.wipe σ vs)[j]? = if j ∈ vs then σ[j]?.map (fun _ => none) else σ[j]? := by
  induction vs with
  | nil => simp [L2.wipe]
  | cons v vs ih =>
    unfold L2.wipe
    by_cases hj : v = j
    · subst hj
      rw [if_pos List.mem_cons_self]
      by_cases hl : v < σ.length
      · rw [List.getElem?_set_self (by rw [wipe_length]; exact hl), List.getElem?_eq_getElem hl]; rfl
      · rw [List.getElem?_eq_none (by rw [List.length_set, wipe_length]; omega), List.getElem?_eq_none (by omega)]; rfl
    · rw [List.getElem?_set_ne hj, ih]
      by_cases hm : j ∈ vs
      · rw [if_pos hm, if_pos (List.mem_cons_of_mem _ hm)]
      · rw [if_neg hm, if_neg (fun z => (List.mem_cons.mp z).elim (fun e => hj e.symm) hm)]
theorem wipe_only {σ σ2 : L2.St} {vs l : List Nat} (o : OnlyAt l (L2.wipe σ vs) σ2) (h : ∀ j ∈ l, j ∈ vs) : L2.wipe σ2 vs = L2.wipe σ vs := by
  apply List.ext_getElem?
  intro j
  rw [wipe_get, wipe_get]
  by_cases hm : j ∈ vs
  · rw [if_pos hm, if_pos hm]
    by_cases hl : j < σ.length
    · rw [List.getElem?_eq_getElem hl, List.getElem?_eq_getElem (by rw [o.1, wipe_length]; exact hl)]; rfl
    · rw [List.getElem?_eq_none (show σ2.length ≤ j by rw [o.1, wipe_length]; omega), List.getElem?_eq_none (show σ.length ≤ j by omega)]
  · rw [if_neg hm, if_neg hm, o.2 j (fun z => hm (h j z)), wipe_get, if_neg hm]
theorem compF_cons {step : D → Res (Option D)} {d : D} {ds ys : List D} (h : compF step (d :: ds) = .ok ys) : ∃ o zs, step d = .ok o ∧ compF step ds = .ok zs ∧ ys = o.toList ++ zs := by
  obtain ⟨o, h1, h2⟩ := rb_eq_ok (show (step d).rb _ = _ from h)
  obtain ⟨zs, h3, h4⟩ := rb_eq_ok h2
  refine ⟨o, zs, h1, h3, ?_⟩
  cases o <;> cases h4 <;> rfl
theorem oneD_eq {r : Res D} {o : Option D} (h : oneD r = .ok o) : ∃ d, r = .ok d ∧ o = some d := by
  cases r with
  | ok d => cases h; exact ⟨d, rfl, rfl⟩
  | exn c => cases h
  | bad => cases h
theorem nx_nox {α : Type} (r : Res α) : NX r.nox := by cases r <;> first | exact nx_ok _ | exact nx_bad
theorem VRel.go {σ : L2.St} {env : Ev} (vr : VRel K M H σ env) (k : Kp M M' H H') (m : MOk M' H') : VRel K M' H' σ env := ⟨m, vr.2.1, fun i d e => by
  obtain ⟨v, h1, h2⟩ := vr.2.2 i d e
  exact ⟨v, h1, Rep.go k d v h2⟩⟩
/-- the new list's own step -/
theorem kp_own {L : Addr} {acc : List V} {o : HO} (hL : H L = some (.lst acc)) (hM : M L) : Kp M M H (upd H L o) :=
  ⟨fun a u n h => ⟨by rw [upd_ne (fun z => n (by rw [z]; exact hM))]; exact h, n⟩, fun a u w h => by rw [upd_ne (ne_of h hL (fun z => nomatch z))]; exact h⟩
/-- what the block holds between two turns: H1 ahead of the loop, L the new list -/
structure LcI (K : PySem.W.Frag) (M : Addr → Prop) (H1 : Hp) (L : Addr) (ys : List D) (step : D → Res (Option D)) (rest : List D) (H : Hp) : Prop where
  same : Same H1 H
  ok : ∃ ys1 ys2 acc, ys = ys1 ++ ys2 ∧ compF step rest = .ok ys2 ∧ H L = some (.lst acc) ∧ Reps K H (fun b => M b ∨ b = L) ys1 acc
abbrev W0 : WS := fun _ _ _ => False
open Classical in
theorem lc_imp {own : List Nat} {po : Ex} {tg : Tg} {it : PL.It} {cond : Eo} (hsl : (slots tg).all (own.contains ·) = true) (σ : L2.St) (H : Hp) (Q : VK) (h : tD X.K W φ (.comp po own tg it cond) σ H Q) :
    tLc (tDi X.K W φ it) (gTg X.K tg) (tDc X.K W0 φ cond) (tD X.K W0 φ po) ((ownOf C own).map (·.2)) σ H Q := by
  have hown : (ownOf C own).map (·.2) = own := by unfold ownOf; rw [List.map_map]; exact List.map_id'' (fun _ => rfl) own
  obtain ⟨M, env, vr, h⟩ := h
  rw [hown]
  refine ⟨M, env, vr, (wpR.bind h).mono (Same.refl H) fun ds e1 h2 J H1 s1 wk L hL => ?_⟩
  obtain ⟨ys, e2, h3⟩ := (wpR.bind h2).okv (nx_nox _)
  have e3 := nox_eq e2
  obtain ⟨d, e4, q⟩ := h3.okv (nx_okL ys)
  obtain ⟨rfl, hlen⟩ := okL_ok e4
  generalize hstep : (fun d => (bindT tg d (wipeE own env)).rb fun e1 => (evalc φ cond e1).rb fun t => if t = true then oneD (eval φ po e1) else Res.ok none) = step at e3
  have m1 := vr.1.same s1
  have nML : ¬ M L := m1.new hL
  have vr1 := vr.same s1
  refine ⟨fun i m H => m = ds.length - i ∧ i ≤ ds.length ∧ LcI X.K M H1 L ys step (ds.drop i) H, ⟨ds.length, rfl, Nat.zero_le _, same_upd hL, [], ys, [], rfl, e3, upd_same, rfl⟩, ?_⟩
  rintro i m H2 ⟨rfl, hi, I⟩
  obtain ⟨sI, ys1, ys2, acc, ey, ec, eL, rA⟩ := I
  have hG : Same (hid M H1) H2 := hid_same.trans sI
  obtain ⟨w1, w2⟩ := wk H2 hG
  by_cases hlt : i < ds.length
  · refine .inr ?_
    obtain ⟨go, yl⟩ := w1 i ds[i] (List.getElem?_eq_getElem hlt)
    refine ⟨go, LcI X.K M H1 L ys step (ds.drop (i + 1)), fun H' n' => ⟨ds.length - (i + 1), by omega, rfl, hlt, n'⟩, fun x' H3 y => ?_⟩
    obtain ⟨s3, rx⟩ := yl x' H3 y
    have s13 := sI.trans s3
    have eL3 : H3 L = some (.lst acc) := s3 _ _ eL
    have mL : MOk (fun b => M b ∨ b = L) H3 := fun b hb => hb.elim (fun z => m1.same s13 b z) fun z => ⟨acc, z ▸ eL3⟩
    have hM0 : ∀ b, (M b ∨ b = L) → hid M H1 b = none := fun b hb => by
      rcases hb with z | z
      · exact hid_none z
      · subst z
        unfold hid
        rw [if_neg nML]; exact hL
    have mL2 : MOk (fun b => M b ∨ b = L) H2 := fun b hb => hb.elim (fun z => m1.same sI b z) fun z => ⟨acc, z ▸ eL⟩
    have r3 := rx _ mL2 hM0
    have k13 : Kp M (fun b => M b ∨ b = L) H1 H3 := ⟨fun b o nb e => ⟨s13 b o e, fun z => z.elim nb fun z => by rw [z, hL] at e; cases e⟩, fun b o u e => s13 b _ e⟩
    have vr3 := (vr1.go k13 mL).wipe own
    rw [List.drop_eq_getElem_cons hlt] at ec
    obtain ⟨o, zs, es, ez, rfl⟩ := compF_cons ec
    subst hstep
    obtain ⟨env1, eb, es⟩ := rb_eq_ok es
    obtain ⟨t, et, es⟩ := rb_eq_ok es
    refine g_use tg ds[i] x' _ _ env1 _ vr3 r3 eb fun σ1 vrb only => ⟨wipe_only only (fun j hj => by simpa using List.all_eq_true.mp hsl j hj), ?_⟩
    refine ⟨_, env1, vrb, ?_⟩
    rw [et]
    intro H4 s4
    cases t with
    | false =>
      cases es
      refine iteF ⟨s13.trans s4, ys1, zs, acc, by simpa using ey, ez, s4 _ _ eL3, rA.same (s3.trans s4)⟩
    | true =>
      obtain ⟨dy, ed, rfl⟩ := oneD_eq es
      refine iteT ⟨_, env1, vrb.same s4, ?_⟩
      rw [ed]
      intro y5 H5 s5 r5 _
      have s45 := s4.trans s5
      have eL5 : H5 L = some (.lst acc) := s45 _ _ eL3
      have hacc : acc.length < sizeLine := by
        have l1 := rA.length
        rw [ey] at hlen
        simp only [List.length_append, Option.toList_some, List.length_cons, List.length_nil] at hlen
        omega
      refine ⟨acc, eL5, hacc, fun b o' e => ?_, ys1 ++ [dy], zs, acc ++ [y5], by rw [ey]; simp, ez, upd_same, ?_⟩
      · rw [upd_ne (fun z => by rw [z, hL] at e; cases e)]
        exact s13.trans s45 b o' e
      · have ko : Kp (fun b => M b ∨ b = L) (fun b => M b ∨ b = L) H5 (upd H5 L (.lst (acc ++ [y5]))) := kp_own eL5 (.inr rfl)
        exact Reps.append (Reps.go ko _ _ (rA.same (s3.trans s45))) (Reps.cons (Rep.go ko _ _ r5) Reps.nil)
  · refine .inl ?_
    have ei : i = ds.length := by omega
    subst ei
    refine ⟨w2, ?_⟩
    rw [List.drop_length] at ec
    cases ec
    rw [List.append_nil] at ey
    subst ey
    have kL : Kp (fun b => M b ∨ b = L) M H2 H2 := ⟨fun b o nb e => ⟨e, fun z => nb (.inl z)⟩, fun b o u e => e⟩
    exact q (.ref L) H2 (s1.trans sI) ⟨L, acc, rfl, nML, eL, Reps.go kL _ _ rA⟩ fun _ xs ex => by
      cases ex
      exact ⟨L, acc, rfl, s1.free hL, eL, rA⟩
open Classical in
theorem s_comp {elt tgE iter : Expr} {ifs : List Expr} {scope : Scope} {own : List Nat} {po : Ex} {tg : Tg} {it : PL.It} {cond : Eo} (x : XOk C n cl W sc osc X) (hb : blkC C.N sc scope (ownOf C own) = true) (hsl : (slots tg).all (own.contains ·) = true) (hset : notSet iter = true)
    (hi : PI X tgE iter (tDi X.K W φ it))
    (hg : ∀ (s : Shared) (H : Hp) (A : Addr) (cl' : List (Str × Addr)) (fp : List Addr), PG (X.blk s H scope (compEnvC scope cl' A X.env) fp) tgE (gTg X.K tg))
    (ht : ∀ (s : Shared) (H : Hp) (A : Addr) (cl' : List (Str × Addr)) (fp : List Addr), PTs (X.blk s H scope (compEnvC scope cl' A X.env) fp) ifs (tDc X.K W0 φ cond))
    (he : ∀ (s : Shared) (H : Hp) (A : Addr) (cl' : List (Str × Addr)) (fp : List Addr), PE (X.blk s H scope (compEnvC scope cl' A X.env) fp) elt (tD X.K W0 φ po)) :
    PE X (.ListComp elt [⟨tgE, iter, ifs, 0⟩] scope pos) (tD X.K W φ (.comp po own tg it cond)) := by
  have blk : BlkOk X.N X.env.scope scope (ownOf C own) := by rw [x.hN, x.hsc]; exact blkOk_by hb
  exact (pe_lc x.calm (x.hN ▸ x.nd) hi blk hg ht he (foldSet hset)).imp fun σ H Q h => lc_imp hsl σ H Q h
end
end PL
-- C11
set_option Elab.async false
set_option linter.all false
set_option maxRecDepth 100000
set_option maxHeartbeats 8000000
/-! C11: the rule for expressions: what the look took is worth what the pure expression is. -/
namespace PL
open PySem PySem.Spec PyProof.Rows L2
section
variable {C : Cxt} {n : Nat} {cl : Str → Value} {W : WS} {sc osc : Scope} {X : Cx} {φ : Phi} {a b c e tg : Expr} {es : List Expr} {p q r : Ex} {ps : Exs} {pos pos2 p1 p2 p3 : Pos} {x : Str} {i : Nat}
/-! ### tests -/
theorem plain_he {e : Expr} {env : Env} (h : plainT e = true) : ∀ whole, isTrue e env whole = (do let v ← whole; standAt e.pos; holding [v] (truthy v)) := by
  intro whole
  cases e
  case UnaryOp op _ _ => cases op <;> first | rfl | cases h
  all_goals first | rfl | cases h
theorem t_val (hpl : plainT e = true) (hp : PE X e (tD X.K W φ p)) : PT X e (tDt X.K W φ p) := by
  refine (pt_val hp (plain_he hpl)).imp fun σ H Q ⟨M, env, vr, h⟩ => ?_
  refine tD.use vr (h.mono (Same.refl H) fun dx e1 h2 x H1 s1 r1 _ => ?_)
  obtain ⟨b, rfl, q⟩ := h2
  cases r1
  exact ⟨b, rfl, q H1 s1⟩
theorem cmp_val {o : COp} {Q : VK} {σ : L2.St} {H : Hp} {M : Addr → Prop} {env : Ev} (vr : VRel X.K M H σ env)
    (h : wpR W σ H ((eval φ p env).rb fun x => (eval φ q env).rb fun y => cmpF o x y) (Vl X.K M H Q false)) : tOp (rD X.K false (cmpF o)) (tD X.K W φ p) (tD X.K W φ q) σ H Q := by
  refine tD.use vr ((wpR.bind h).mono (Same.refl H) fun dx e1 h2 x H1 s1 r1 _ => ?_)
  refine tD.use (vr.same s1) ((wpR.bind h2).mono s1 fun dy e2 h3 y H2 s2 r2 _ => ?_)
  obtain ⟨d, e, q⟩ := h3.okv (nx_cmp o dx dy)
  exact ⟨M, dx, dy, d, vr.1.same (s1.trans s2), r1.same s2, r2, e, q.later (s1.trans s2)⟩
theorem bl_use {K : PySem.W.Frag} {M : Addr → Prop} {H : Hp} {Q : Bool → Hp → Prop} {d : D} (h : ∃ b, d = .bl b ∧ ∀ H', Same H H' → Q b H') : Vl K M H (fun x H' => ∃ k, x = .bl k ∧ Q k H') false d := fun v H' s r _ => by
  obtain ⟨b, rfl, q⟩ := h
  cases r
  exact ⟨b, rfl, q H' s⟩
theorem t_cmp {o : COp} (hu : X.A.units + 64 < cLine) (hm : behindInMarks (copB o) b = false) (hp : PE X a (tD X.K W φ p)) (hq : PE X b (tD X.K W φ q)) : PT X (.Compare a [copB o] [b] pos) (tDt X.K W φ (.cmp o p q)) :=
  (pt_cmpR (or_cmp hu o) hp hq hm).imp fun σ H Q ⟨M, env, vr, h⟩ => cmp_val vr (wpR.mono (show wpR W σ H (eval φ (.cmp o p q) env) _ from h) (Same.refl H) fun d _ z => bl_use z)
theorem t_chain {o o2 : COp} (hu : X.A.units + 64 < cLine) (hm : lastMarks [copB o, copB o2] [b, c] = false) (hp : PE X a (tD X.K W φ p)) (hq : PE X b (tD X.K W φ q)) (hr : PE X c (tD X.K W φ r)) :
    PT X (.Compare a [copB o, copB o2] [b, c] pos) (tDt X.K W φ (.chain o o2 p q r)) :=
  (pt_chain (or_cmp hu o) (or_cmp hu o2) hp hq hr hm).imp fun σ H Q ⟨M, env, vr, h⟩ => chain_val vr (wpR.mono (show wpR W σ H (eval φ (.chain o o2 p q r) env) _ from h) (Same.refl H) fun d _ z => bl_use z)
theorem t_not (hp : PT X a (tDt X.K W φ p)) : PT X (.UnaryOp .Not a pos) (tDt X.K W φ (.not p)) := by
  refine (pt_not hp).imp fun σ H Q ⟨M, env, vr, h⟩ => ?_
  refine ⟨M, env, vr, (wpR.bind h).mono (Same.refl H) fun dx e1 h2 => ?_⟩
  obtain ⟨b, e2, h3⟩ := (wpR.bind h2).okv (nx_asBl dx)
  cases dx <;> cases e2
  obtain ⟨b', e3, q⟩ := h3
  cases e3
  exact ⟨_, rfl, q⟩
theorem t_and {rest : List Expr} (hp : PT X a (tDt X.K W φ p)) (hq : PW X (.BoolOp .And (b :: rest) pos) (tDt X.K W φ q)) : PW X (.BoolOp .And (a :: b :: rest) pos) (tDt X.K W φ (.and p q)) := by
  refine (pw_and hp hq).imp fun σ H Q ⟨M, env, vr, h⟩ => ?_
  refine ⟨M, env, vr, (wpR.bind h).mono (Same.refl H) fun dx e1 h2 => ?_⟩
  obtain ⟨t, e2, h3⟩ := (wpR.bind h2).okv (nx_asBl dx)
  cases dx <;> cases e2
  refine ⟨_, rfl, fun H1 s1 => ?_⟩
  rename_i t
  cases t with
  | false =>
    obtain ⟨b', e3, q⟩ := h3
    cases e3
    exact iteF (q H1 s1)
  | true =>
    refine iteT ⟨M, env, vr.same s1, wpR.mono h3 s1 fun d _ z => ?_⟩
    obtain ⟨b', e3, q⟩ := z
    exact ⟨b', e3, fun H' s' => q H' (s1.trans s')⟩
theorem t_or {rest : List Expr} (hp : PT X a (tDt X.K W φ p)) (hq : PW X (.BoolOp .Or (b :: rest) pos) (tDt X.K W φ q)) : PW X (.BoolOp .Or (a :: b :: rest) pos) (tDt X.K W φ (.or p q)) := by
  refine (pw_or hp hq).imp fun σ H Q ⟨M, env, vr, h⟩ => ?_
  refine ⟨M, env, vr, (wpR.bind h).mono (Same.refl H) fun dx e1 h2 => ?_⟩
  obtain ⟨t, e2, h3⟩ := (wpR.bind h2).okv (nx_asBl dx)
  cases dx <;> cases e2
  refine ⟨_, rfl, fun H1 s1 => ?_⟩
  rename_i t
  cases t with
  | true =>
    obtain ⟨b', e3, q⟩ := h3
    cases e3
    exact iteT (q H1 s1)
  | false =>
    refine iteF ⟨M, env, vr.same s1, wpR.mono h3 s1 fun d _ z => ?_⟩
    obtain ⟨b', e3, q⟩ := z
    exact ⟨b', e3, fun H' s' => q H' (s1.trans s')⟩
theorem t_pts0 : PTs X [] (tDc X.K W φ .no) := ⟨fun pins s σ H Q I ⟨M, env, vr, h⟩ => pts_nil.run pins s σ H Q I (h H (Same.refl H))⟩
theorem t_pts1 (hp : PT X c (tDt X.K W φ p)) : PTs X [c] (tDc X.K W φ (.so p)) := ⟨fun pins s σ H Q I ⟨M, env, vr, h⟩ => (pts_one hp).run pins s σ H Q I ⟨M, env, vr, (wpR.bind h).mono (Same.refl H) fun dx e1 h2 => by
  obtain ⟨t, e2, h3⟩ := (show wpR W σ H (asBl dx) _ from h2).okv (nx_asBl dx)
  cases dx <;> cases e2
  exact ⟨_, rfl, h3⟩⟩⟩

/-! ### the block's context -/
theorem XOk.blk (x : XOk C n cl W sc osc X) (s : Shared) (H : Hp) (scope : Scope) (A : Addr) (cl' : List (Str × Addr)) (fp : List Addr) : XOk C n cl W0 (relS scope sc) scope (X.blk s H scope (compEnvC scope cl' A X.env) fp) where
  hN := x.hN
  nd := x.nd
  hsc := by show relS scope X.env.scope = _; rw [x.hsc]
  tg := fun y h => by
    have k : scope.names.lookup y = some .local ∨ scope.names.lookup y = some .cell := loc_of h
    rcases k with k | k
    · have e : (relS scope sc).names.lookup y = some .local := lookup_relS_keep (by decide) k
      exact ⟨.inl e, .inr e⟩
    · have e : (relS scope sc).names.lookup y = some .cell := lookup_relS_keep (by decide) k
      refine ⟨.inr e, .inl ?_⟩
      show (scope.names.lookup y == some NameKind.cell) = true
      rw [k]; rfl
  calm := x.calm
  room := x.room
  tk := fun u s' z => by
    obtain ⟨_, _, _, _, _, _, _, _, _, _, _, _, _, _, _, _, _, _, _, w⟩ := z
    exact w.elim
  bu := x.bu
  co := x.co
  fn := x.fn
theorem bu_of (x : XOk C n cl W sc osc X) {y : Str} (h : y ∈ buNames) : X.mg y = none := x.bu y h
def special : Ex → Bool
  | .ife .. => true
  | .and .. => true
  | .or .. => true
  | .not .. => true
  | .cmp .. => true
  | .chain .. => true
  | _ => false
end
end PL
-- CL
set_option Elab.async false
set_option linter.all false
set_option maxRecDepth 100000
set_option maxHeartbeats 4000000
/-! CL: list(zip(a, b)), each of a and b a list or a tuple. -/
namespace PL
open PySem PySem.Spec PyProof.Rows L2
section
variable {prog : Program} {w : World} {A : Around} {E : Value → Shared → Prop} {s : Shared} {z TI TO i1 i2 T : Addr} {fp1 fp2 : List Addr} {n1 n2 i : Nat} {P1 P2 : Nat → Value → Prop} {St1 St2 : Nat → Heap → Prop} {f : Bool} {oT : Obj}
/-- next of a zip whose last tuple is still there -/
theorem zd_item {Q : Value → Shared → Prop} (S : ZipSep2 z TI TO i1 i2 fp1 fp2) (D1 : Draws prog w A i1 fp1 n1 P1 St1) (D2 : Draws prog w A i2 fp2 n2 P2 St2)
    (hz : IsZipHeld s.heap z TI TO T f) (hT : s.heap.get? T = some oT) (hTI : IsTupOf2 s.heap TI (.ref i1) (.ref i2)) (st1 : St1 i s.heap) (st2 : St2 i s.heap) (hlt1 : i < n1) (hlt2 : i < n2)
    (hQ : ∀ x1 x2 h' tk, P1 i x1 → P2 i x2 → IsZipHeld h' z TI TO T true → St1 (i + 1) h' → St2 (i + 1) h' → IsTupOf2 h' s.heap.objs.size x1 x2 → h'.objs.size = s.heap.objs.size + 1 →
      (∀ c o, c ≠ z → c ≠ i1 → c ≠ i2 → s.heap.get? c = some o → h'.get? c = some o) → Q (.ref s.heap.objs.size) { s with heap := h', toks := tk }) :
    wpAny (model prog w) A (Builtin.«zip.__next__» ⟨[.ref z], []⟩) (fun fin s' => ∃ v, fin = .done (.ret v) ∧ Q v s') E s := by
  obtain ⟨hp, g, d, tk0, os⟩ := s
  show wpAny _ _ (field (.ref z) 2 >>= _) _ _ _
  refine wpAny_bind (wpAny_field hz rfl (x := .bool false) rfl ?_)
  show wpAny _ _ (field (.ref z) 3 >>= _) _ _ _
  refine wpAny_bind (wpAny_field hz rfl (x := .ref TI) rfl ?_)
  refine wpAny_bind (wpAny_seqItems hTI rfl ?_)
  show wpAny _ _ (Builtin.SmallTypes.ownedTupleIsFree (.ref z) >>= _) _ _ _
  refine wpAny_bind (wpAny_tupleHeld_zip hz hT fun h₁ hz₁ hs₁ => ?_)
  replace hs₁ : Heap.SameBut z hp h₁ := hs₁
  simp only [Bool.false_eq_true, if_false]
  refine wpAny_bind ?_
  rw [← Array.forIn_toList]
  simp only [List.forIn_cons, List.forIn_nil]
  refine wpAny_bind (wpAny_bind (wpAny_holding ?_))
  show wpAny _ _ (Builtin.SmallTypes.nextOf (.ref i1) >>= _) _ _ ⟨h₁, g, d, tk0, os⟩
  refine wpAny_bind (D1.item i _ _ _ hlt1 (D1.over st1 hs₁ S.zf1) fun x1 p1 tk1 hx1 sn1 hp1 => wpAny_pure ?_)
  replace hp1 : Heap.SameBut i1 h₁ p1 := hp1
  refine wpAny_pure ?_
  refine wpAny_bind (wpAny_bind (wpAny_holding ?_))
  show wpAny _ _ (Builtin.SmallTypes.nextOf (.ref i2) >>= _) _ _ ⟨p1, g, d, tk1, os⟩
  refine wpAny_bind (D2.item i _ _ _ hlt2 (D2.over (D2.over st2 hs₁ S.zf2) hp1 S.sep1_2) fun x2 p2 tk2 hx2 sn2 hp2 => wpAny_pure ?_)
  replace hp2 : Heap.SameBut i2 p1 p2 := hp2
  refine wpAny_pure (wpAny_pure ?_)
  show wpAny _ _ (newTuple [x1, x2] >>= _) _ _ ⟨p2, g, d, tk2, os⟩
  refine wpAny_bind (wpAny_newTuple ?_)
  have hsz : p2.objs.size = hp.objs.size := by rw [hp2.1, hp1.1, hs₁.1]
  have hz₃ : IsZipHeld p2 z TI TO T true := hp2.extBut _ _ S.zi2 (hp1.extBut _ _ S.zi1 hz₁)
  have hk : ∀ c o, c ≠ z → c ≠ i1 → c ≠ i2 → hp.get? c = some o → p2.get? c = some o := fun c o c1 c2 c3 e => hp2.extBut _ _ c3 (hp1.extBut _ _ c2 (hs₁.extBut _ _ c1 e))
  have j1 : St1 (i + 1) p2 := D1.over sn1 hp2 S.sep2_1
  refine wpAny_pure ⟨_, rfl, ?_⟩
  show Q (.ref p2.objs.size) ⟨p2.push { cls := .type "tuple", data := .seq #[x1, x2] }, g, d, tk2, os⟩
  have hp : IsTupOf2 (p2.push { cls := .type "tuple", data := .seq #[x1, x2] }) p2.objs.size x1 x2 := Heap.get?_push_size _ rfl
  have hz4 : (p2.push { cls := .type "tuple", data := .seq #[x1, x2] }).objs.size = p2.objs.size + 1 := Heap.size_push ..
  rw [hsz] at hp hz4 ⊢
  exact hQ _ _ _ tk2 hx1 hx2 (Heap.get?_push_of_some _ hz₃) (D1.frame _ _ _ j1 fun b _ o e => Heap.get?_push_of_some _ e) (D2.frame _ _ _ sn2 fun b _ o e => Heap.get?_push_of_some _ e) hp hz4 fun c o c1 c2 c3 e => Heap.get?_push_of_some _ (hk c o c1 c2 c3 e)
theorem zd_end {Q : Fin → Shared → Prop} (S : ZipSep2 z TI TO i1 i2 fp1 fp2) (D1 : Draws prog w A i1 fp1 n1 P1 St1) (D2 : Draws prog w A i2 fp2 n2 P2 St2)
    (hz : IsZipHeld s.heap z TI TO T f) (hT : s.heap.get? T = some oT) (hTI : IsTupOf2 s.heap TI (.ref i1) (.ref i2)) (st1 : St1 i s.heap) (st2 : St2 i s.heap) (hle1 : i ≤ n1) (hle2 : i ≤ n2) (hend : i = n1 ∨ i = n2)
    (hE : ∀ h' tk e, (∀ c o, c ≠ z → c ≠ i1 → c ≠ i2 → s.heap.get? c = some o → h'.get? c = some o) → (∃ o, h'.get? e = some o ∧ o.cls = .type "StopIteration") → E (.ref e) { s with heap := h', toks := tk }) :
    wpAny (model prog w) A (Builtin.«zip.__next__» ⟨[.ref z], []⟩) Q E s := by
  obtain ⟨hp, g, d, tk0, os⟩ := s
  show wpAny _ _ (field (.ref z) 2 >>= _) _ _ _
  refine wpAny_bind (wpAny_field hz rfl (x := .bool false) rfl ?_)
  show wpAny _ _ (field (.ref z) 3 >>= _) _ _ _
  refine wpAny_bind (wpAny_field hz rfl (x := .ref TI) rfl ?_)
  refine wpAny_bind (wpAny_seqItems hTI rfl ?_)
  show wpAny _ _ (Builtin.SmallTypes.ownedTupleIsFree (.ref z) >>= _) _ _ _
  refine wpAny_bind (wpAny_tupleHeld_zip hz hT fun h₁ hz₁ hs₁ => ?_)
  replace hs₁ : Heap.SameBut z hp h₁ := hs₁
  simp only [Bool.false_eq_true, if_false]
  refine wpAny_bind ?_
  rw [← Array.forIn_toList]
  simp only [List.forIn_cons, List.forIn_nil]
  refine wpAny_bind (wpAny_bind (wpAny_holding ?_))
  show wpAny _ _ (Builtin.SmallTypes.nextOf (.ref i1) >>= _) _ _ ⟨h₁, g, d, tk0, os⟩
  by_cases hlt1 : i < n1
  · refine wpAny_bind (D1.item i _ _ _ hlt1 (D1.over st1 hs₁ S.zf1) fun x1 p1 tk1 hx1 sn1 hp1 => wpAny_pure ?_)
    replace hp1 : Heap.SameBut i1 h₁ p1 := hp1
    have hi2 : i = n2 := by omega
    refine wpAny_pure ?_
    refine wpAny_bind (wpAny_bind (wpAny_holding ?_))
    show wpAny _ _ (Builtin.SmallTypes.nextOf (.ref i2) >>= _) _ _ ⟨p1, g, d, tk1, os⟩
    refine wpAny_bind (D2.done ⟨p1, g, d, tk1, os⟩ _ _ (by rw [← hi2]; exact (D2.over (D2.over st2 hs₁ S.zf2) hp1 S.sep1_2)) fun q e hq he => ?_)
    replace hq : Heap.ExtBut i2 p1 q := hq
    exact hE q tk1 e (fun c o c1 c2 c3 x => hq _ _ c3 (hp1.extBut _ _ c2 (hs₁.extBut _ _ c1 x))) he
  · have hi1 : i = n1 := by omega
    refine wpAny_bind (D1.done ⟨h₁, g, d, tk0, os⟩ _ _ (by rw [← hi1]; exact (D1.over st1 hs₁ S.zf1)) fun q e hq he => ?_)
    replace hq : Heap.ExtBut i1 h₁ q := hq
    exact hE q tk0 e (fun c o c1 c2 _ x => hq _ _ c2 (hs₁.extBut _ _ c1 x)) he
theorem pyNext_zd_item {Q : Option Value → Shared → Prop} (S : ZipSep2 z TI TO i1 i2 fp1 fp2) (D1 : Draws prog w A.in1 i1 fp1 n1 P1 St1) (D2 : Draws prog w A.in1 i2 fp2 n2 P2 St2)
    (hz : IsZipHeld s.heap z TI TO T f) (hT : s.heap.get? T = some oT) (hTI : IsTupOf2 s.heap TI (.ref i1) (.ref i2)) (st1 : St1 i s.heap) (st2 : St2 i s.heap) (hlt1 : i < n1) (hlt2 : i < n2)
    (hQ : ∀ x1 x2 h' tk, P1 i x1 → P2 i x2 → IsZipHeld h' z TI TO T true → St1 (i + 1) h' → St2 (i + 1) h' → IsTupOf2 h' s.heap.objs.size x1 x2 → h'.objs.size = s.heap.objs.size + 1 →
      (∀ c o, c ≠ z → c ≠ i1 → c ≠ i2 → s.heap.get? c = some o → h'.get? c = some o) → Q (some (.ref s.heap.objs.size)) { s with heap := h', toks := tk }) :
    wpAny (model prog w) A (pyNext (.ref z)) Q E s := by
  have hTy : s.TypeIs (.ref z) "zip" := ⟨_, hz, rfl⟩
  unfold pyNext
  exact wpAny_bind (wpAny_attempt (wpAny_callSpecial?_slot (name := Str.ofString "__next__") hTy F.slot_zip_next
    (wpAny_call_entry F.slot_zip_next hTy F.entry_zip_next
      (zd_item S D1 D2 hz hT hTI st1 st2 hlt1 hlt2 fun x1 x2 h' tk a1 a2 a3 a4 a5 a6 a7 a8 => wpAny_pure (hQ x1 x2 h' tk a1 a2 a3 a4 a5 a6 a7 a8)) (F.args_zip_next_1 _))))
theorem pyNext_zd_end {Q : Option Value → Shared → Prop} (S : ZipSep2 z TI TO i1 i2 fp1 fp2) (D1 : Draws prog w A.in1 i1 fp1 n1 P1 St1) (D2 : Draws prog w A.in1 i2 fp2 n2 P2 St2)
    (hz : IsZipHeld s.heap z TI TO T f) (hT : s.heap.get? T = some oT) (hTI : IsTupOf2 s.heap TI (.ref i1) (.ref i2)) (st1 : St1 i s.heap) (st2 : St2 i s.heap) (hle1 : i ≤ n1) (hle2 : i ≤ n2) (hend : i = n1 ∨ i = n2)
    (hQ : ∀ h' tk, (∀ c o, c ≠ z → c ≠ i1 → c ≠ i2 → s.heap.get? c = some o → h'.get? c = some o) → Q none { s with heap := h', toks := tk }) : wpAny (model prog w) A (pyNext (.ref z)) Q E s := by
  have hTy : s.TypeIs (.ref z) "zip" := ⟨_, hz, rfl⟩
  unfold pyNext
  refine wpAny_bind (wpAny_attempt (wpAny_callSpecial?_slot (name := Str.ofString "__next__") hTy F.slot_zip_next
    (wpAny_call_entry F.slot_zip_next hTy F.entry_zip_next (zd_end S D1 D2 hz hT hTI st1 st2 hle1 hle2 hend fun h' tk e hk he => ?_) (F.args_zip_next_1 _))))
  obtain ⟨o, ho, hc⟩ := he
  refine wpAny_bind (wpAny_isInstance (T := "StopIteration") (b := true) ⟨o, ho, hc⟩ isSubtype_stop ?_)
  exact wpAny_pure (hQ _ _ hk)
/-! nothing is said of a zip's length -/
theorem zip_no_len : typeLookup (.type "zip") "__len__" = pure none := am_miss_of_fast (by decide +kernel)
theorem zip_no_hint : typeLookup (.type "zip") "__length_hint__" = pure none := am_miss_of_fast (by decide +kernel)
end
section
variable {X : Cx} {pins : List (Addr × Obj)} {σ : L2.St} {k1 k2 : Kd} {a b z TI TO i1 i2 q : Addr} {xs ys : List V}
/-- the zip: as made, or with its first tuple still out -/
def Zst (H : Hp) (h : Heap) (z TI TO : Addr) : Prop := IsZip h z TI TO .none ∨ ∃ T f ws, IsZipHeld h z TI TO T f ∧ H T = some (.tup ws)
theorem Zst.ex {H : Hp} {h : Heap} (x : Zst H h z TI TO) : ∃ o, h.get? z = some o := by
  rcases x with x | ⟨T, f, ws, x, _⟩
  · exact ⟨_, x⟩
  · exact ⟨_, x⟩
def LzRun (K : PySem.W.Frag) (k1 k2 : Kd) (a b q : Addr) (xs ys : List V) (P : Nat → List V → Hp → Prop) (R : Hp → Prop) : Prop :=
  ∀ i acc H, P i acc H → H q = some (.lst acc) ∧ acc.length = i ∧ kSq K H k1 a xs ∧ kSq K H k2 b ys ∧
    (∀ x y, xs[i]? = some x → ys[i]? = some y → ∀ T, H T = none → P (i + 1) (acc ++ [.ref T]) (upd (upd H T (.tup [x, y])) q (.lst (acc ++ [.ref T])))) ∧ ((i = xs.length ∨ i = ys.length) → R H)
theorem lz_next {A : Around} {H : Hp} {s : Shared} {E : Value → Shared → Prop} {i : Nat} {Q : Option Value → Shared → Prop} (hh : A.handled = none) (D : SepX z TI TO i1 i2 a b) (I : Inv X pins σ H s) {its its2 : List Value} (p1 : kOb s.heap k1 a its.toArray) (p2 : kOb s.heap k2 b its2.toArray)
    (hz : Zst H s.heap z TI TO) (hTI : IsTupOf2 s.heap TI (.ref i1) (.ref i2)) (hTO : ∃ x y, IsTupOf2 s.heap TO x y) (h1 : kIt s.heap k1 i1 a i) (h2 : kIt s.heap k2 i2 b i) (l1 : i < its.length) (l2 : i < its2.length)
    (hQ : ∀ x1 x2 h' tk, its[i]? = some x1 → its2[i]? = some x2 → (∃ T f, IsZipHeld h' z TI TO T f ∧ (T = s.heap.objs.size ∨ ∃ ws, H T = some (.tup ws))) → IsTupOf2 h' TI (.ref i1) (.ref i2) → (∃ x y, IsTupOf2 h' TO x y) → kIt h' k1 i1 a (i + 1) → kIt h' k2 i2 b (i + 1) →
      IsTupOf2 h' s.heap.objs.size x1 x2 → h'.objs.size = s.heap.objs.size + 1 → (∀ c o, c ∉ [z, TI, TO, i1, i2] → s.heap.get? c = some o → h'.get? c = some o) → Q (some (.ref s.heap.objs.size)) { s with heap := h', toks := tk }) :
    wpAny (model X.prog X.w) A (pyNext (.ref z)) Q E s := by
  obtain ⟨y1, y2, hTO⟩ := hTO
  have D1 := kdr (prog := X.prog) (w := X.w) (A := A.in1) hh i1 a (fun e => D.sa1 e) its.toArray k1
  have D2 := kdr (prog := X.prog) (w := X.w) (A := A.in1) hh i2 b (fun e => D.sb2 e) its2.toArray k2
  have l1' : i < its.toArray.size := by rw [List.size_toArray]; exact l1
  have l2' : i < its2.toArray.size := by rw [List.size_toArray]; exact l2
  rcases hz with hz | ⟨T, f, ws, hz, hT⟩
  · refine wpAny_pyNext_zipD2_item D.s D1 D2 hz hTI hTO ⟨h1, p1⟩ ⟨h2, p2⟩ l1' l2' fun x1 x2 h' tk e1 e2 z' TO' h1' h2' hT hsz hk => ?_
    exact hQ x1 x2 h' tk (by simpa using e1) (by simpa using e2) ⟨_, _, z', .inl rfl⟩ (hk _ _ D.s.TIz D.s.TITO D.s.TIi1 D.s.TIi2 hTI) ⟨_, _, TO'⟩ h1'.1 h2'.1 hT hsz fun c o hc q =>
      hk c o (fun q' => hc (by simp [q'])) (fun q' => hc (by simp [q'])) (fun q' => hc (by simp [q'])) (fun q' => hc (by simp [q'])) q
  · obtain ⟨vs, r, ⟨oT, hoT, _⟩, _⟩ := I.tuple (SqT.of hT)
    refine pyNext_zd_item D.s D1 D2 hz hoT hTI ⟨h1, p1⟩ ⟨h2, p2⟩ l1' l2' fun x1 x2 h' tk e1 e2 z' h1' h2' hT' hsz hk => ?_
    exact hQ x1 x2 h' tk (by simpa using e1) (by simpa using e2) ⟨_, _, z', .inr ⟨ws, hT⟩⟩ (hk _ _ D.s.TIz D.s.TIi1 D.s.TIi2 hTI) ⟨_, _, hk _ _ D.s.TOz (fun e => D.s.Tf1 (by simp [e])) (fun e => D.s.Tf2 (by simp [e])) hTO⟩ h1'.1 h2'.1 hT' hsz fun c o hc q =>
      hk c o (fun q' => hc (by simp [q'])) (fun q' => hc (by simp [q'])) (fun q' => hc (by simp [q'])) q
theorem lz_last {A : Around} {H : Hp} {s : Shared} {E : Value → Shared → Prop} {i : Nat} {Q : Option Value → Shared → Prop} (hh : A.handled = none) (D : SepX z TI TO i1 i2 a b) (I : Inv X pins σ H s) {its its2 : List Value} (p1 : kOb s.heap k1 a its.toArray) (p2 : kOb s.heap k2 b its2.toArray)
    (hz : Zst H s.heap z TI TO) (hTI : IsTupOf2 s.heap TI (.ref i1) (.ref i2)) (hTO : ∃ x y, IsTupOf2 s.heap TO x y) (h1 : kIt s.heap k1 i1 a i) (h2 : kIt s.heap k2 i2 b i) (l1 : i ≤ its.length) (l2 : i ≤ its2.length) (l3 : i = its.length ∨ i = its2.length)
    (hQ : ∀ h' tk, (∀ c o, c ∉ [z, TI, TO, i1, i2] → s.heap.get? c = some o → h'.get? c = some o) → Q none { s with heap := h', toks := tk }) :
    wpAny (model X.prog X.w) A (pyNext (.ref z)) Q E s := by
  obtain ⟨y1, y2, hTO⟩ := hTO
  have D1 := kdr (prog := X.prog) (w := X.w) (A := A.in1) hh i1 a (fun e => D.sa1 e) its.toArray k1
  have D2 := kdr (prog := X.prog) (w := X.w) (A := A.in1) hh i2 b (fun e => D.sb2 e) its2.toArray k2
  have l1' : i ≤ its.toArray.size := by rw [List.size_toArray]; exact l1
  have l2' : i ≤ its2.toArray.size := by rw [List.size_toArray]; exact l2
  have l3' : i = its.toArray.size ∨ i = its2.toArray.size := by rw [List.size_toArray, List.size_toArray]; exact l3
  rcases hz with hz | ⟨T, f, ws, hz, hT⟩
  · exact wpAny_pyNext_zipD2_end D.s D1 D2 hz hTI hTO ⟨h1, p1⟩ ⟨h2, p2⟩ l1' l2' l3' fun h' tk hk => hQ h' tk fun c o hc q =>
      hk c o (fun q' => hc (by simp [q'])) (fun q' => hc (by simp [q'])) (fun q' => hc (by simp [q'])) (fun q' => hc (by simp [q'])) q
  · obtain ⟨vs, r, ⟨oT, hoT, _⟩, _⟩ := I.tuple (SqT.of hT)
    exact pyNext_zd_end D.s D1 D2 hz hoT hTI ⟨h1, p1⟩ ⟨h2, p2⟩ l1' l2' l3' fun h' tk hk => hQ h' tk fun c o hc q =>
      hk c o (fun q' => hc (by simp [q'])) (fun q' => hc (by simp [q'])) (fun q' => hc (by simp [q'])) q
theorem lz_loop {A1 : Around} {P : Nat → List V → Hp → Prop} {R : Hp → Prop} {Rs : Result → Shared → Prop} (hh : A1.handled = none) (D : SepX z TI TO i1 i2 a b) (hm : ∀ j, j < xs.length → j < ys.length → j < sizeLine) (hq : q ∉ [z, TI, TO, i1, i2])
    (hrun : LzRun X.K k1 k2 a b q xs ys P R) (hdone : ∀ H s, Inv X pins σ H s → R H → Rs (.ok (.ret .none)) s) :
    ∀ (n i : Nat) (acc : List V) (H : Hp) (s : Shared), xs.length - i = n → i ≤ xs.length → i ≤ ys.length → Inv X pins σ H s → P i acc H → (∀ c ∈ [z, TI, TO, i1, i2], FpOk X pins H c) → Zst H s.heap z TI TO → IsTupOf2 s.heap TI (.ref i1) (.ref i2) → (∃ x y, IsTupOf2 s.heap TO x y) →
      kIt s.heap k1 i1 a i → kIt s.heap k2 i2 b i → codeAny (model X.prog X.w) A1 (.builtin "list.extend.loop" ⟨[.ref q, .ref z, .none], []⟩) Rs s := by
  intro n
  induction n with
  | zero =>
    intro i acc H s hn l1 l2 I hP hf hz hTI hTO h1 h2
    refine codeAny_builtin PySem.F.entry_extend_loop ?_
    rw [Around.under_plainId PySem.F.plain_extend_loop _]
    show wpAny _ A1.in1 (pyNext (.ref z) >>= _) _ _ s
    obtain ⟨hq0, ha, q1, q2, hstep, hend⟩ := hrun i acc H hP
    obtain ⟨its, rv, p1⟩ := kget I k1 q1
    obtain ⟨its2, rv2, p2⟩ := kget I k2 q2
    have e1 := rv.length
    have e2 := rv2.length
    refine wpAny_bind (lz_last hh D I p1 p2 hz hTI hTO h1 h2 (by omega) (by omega) (.inl (by omega)) fun h' tk hk => ?_)
    exact wpAny_pure (hdone H _ (I.turnedL (t' := tk) (ch := [z, TI, TO, i1, i2]) (fun c o hb e => hk c o hb e) hf) (hend (.inl (by omega))))
  | succ n ih =>
    intro i acc H s hn l1 l2 I hP hf hz hTI hTO h1 h2
    refine codeAny_builtin PySem.F.entry_extend_loop ?_
    rw [Around.under_plainId PySem.F.plain_extend_loop _]
    show wpAny _ A1.in1 (pyNext (.ref z) >>= _) _ _ s
    obtain ⟨hq0, ha, q1, q2, hstep, hend⟩ := hrun i acc H hP
    obtain ⟨its, rv, p1⟩ := kget I k1 q1
    obtain ⟨its2, rv2, p2⟩ := kget I k2 q2
    have e1 := rv.length
    have e2 := rv2.length
    by_cases hy : i < ys.length
    · have hx : i < xs.length := by omega
      have hsl := hm i hx hy
      have fr : H s.heap.objs.size = none := I.hok.fresh (Nat.le_refl _)
      have hlt : ∀ c ∈ [z, TI, TO, i1, i2], c < s.heap.objs.size := fun c hc => by
        simp only [List.mem_cons, List.not_mem_nil, or_false] at hc
        obtain ⟨_, g0⟩ := hz.ex
        obtain ⟨_, _, g3⟩ := hTO
        obtain ⟨o1, g1, _⟩ := kit_obj k1 h1
        obtain ⟨o2, g2, _⟩ := kit_obj k2 h2
        rcases hc with e | e | e | e | e
        · rw [e]; exact Heap.lt_size g0
        · rw [e]; exact Heap.lt_size hTI
        · rw [e]; exact Heap.lt_size g3
        · rw [e]; exact Heap.lt_size g1
        · rw [e]; exact Heap.lt_size g2
      refine wpAny_bind (lz_next hh D I p1 p2 hz hTI hTO h1 h2 (by omega) (by omega) fun x1 x2 h' tk g1 g2 hz' hTI' hTO' h1' h2' hT hsz hk => ?_)
      have hne : q ≠ s.heap.objs.size := ne_of_none hq0 fr
      obtain ⟨u1, hu1, ru1⟩ := rv.get (List.getElem?_eq_getElem hx)
      obtain ⟨u2, hu2, ru2⟩ := rv2.get (List.getElem?_eq_getElem hy)
      rw [g1] at hu1; cases hu1
      rw [g2] at hu2; cases hu2
      have new : ObjOk X.prog X.w (upd H s.heap.objs.size (.tup [xs[i], ys[i]])) h' s.heap.objs.size (.tup [xs[i], ys[i]]) :=
        ⟨by show 2 ≤ sizeLine; decide, [x1, x2], .cons ru1 (.cons ru2 .nil), ⟨_, hT, rfl, _, rfl⟩⟩
      have I1 : Inv X pins σ (upd H s.heap.objs.size (.tup [xs[i], ys[i]])) { s with heap := h', toks := tk } :=
        I.turnedNew (t' := tk) (ch := [z, TI, TO, i1, i2]) (fun c o hb e => hk c o hb e) hf (Nat.le_refl _) new
      have hq1 : upd H s.heap.objs.size (.tup [xs[i], ys[i]]) q = some (.lst acc) := by rw [upd_ne hne]; exact hq0
      obtain ⟨_, its3, n3, r3, hl3, e3⟩ := I1.lstM hq1
      have e3 : h'.get? q = some { cls := .type "list", data := .seq its3.toArray n3 } := e3
      show wpAny _ A1.in1 (updateSeq q (·.push (.ref s.heap.objs.size)) >>= _) _ _ _
      have up : ∀ c o, c ≠ q → h'.get? c = some o → (h'.update q (Obj.mapSeq (·.push (.ref s.heap.objs.size)))).get? c = some o := fun c o hc e => (Heap.get?_update_other _ _ (Ne.symm hc)).trans e
      have cq : ∀ c ∈ [z, TI, TO, i1, i2], c ≠ q := fun c hc e => hq (e ▸ hc)
      refine wpAny_bind (wpAny_updateSeq e3 rfl (wpAny_pure ⟨plainId_quiet PySem.F.plain_extend_loop _, ?_⟩) (by rw [List.size_toArray]; omega) (by show (its3.toArray.push _).size ≤ sizeLine + 1; rw [Array.size_push, List.size_toArray]; omega))
      refine ih (i + 1) (acc ++ [.ref s.heap.objs.size]) _ _ (by omega) (by omega) (by omega) (I1.lset (its' := its3 ++ [.ref s.heap.objs.size]) (t' := tk) hq1 e3 (by simp) (r3.append (.cons (show RelV (V.ref s.heap.objs.size) (Value.ref s.heap.objs.size) from rfl) .nil)) (by rw [List.length_append, List.length_singleton]; omega))
        (hstep _ _ (List.getElem?_eq_getElem hx) (List.getElem?_eq_getElem hy) _ fr) (fun c hc => ⟨?_, (hf c hc).2⟩) ?_ (up _ _ (cq _ (by simp)) hTI') ?_ (kit_at k1 h1' fun o e => up _ _ (cq _ (by simp)) e) (kit_at k2 h2' fun o e => up _ _ (cq _ (by simp)) e)
      · rw [upd_ne (cq c hc), upd_ne (Nat.ne_of_lt (hlt c hc))]
        exact (hf c hc).1
      · obtain ⟨T, f, z1, z2⟩ := hz'
        refine .inr ⟨T, f, ?_⟩
        rcases z2 with rfl | ⟨ws, z2⟩
        · exact ⟨_, up _ _ (cq _ (by simp)) z1, by rw [upd_ne (Ne.symm hne), upd_same]⟩
        · exact ⟨ws, up _ _ (cq _ (by simp)) z1, by rw [upd_ne (ne_of z2 hq0 (fun e => nomatch e)), upd_ne (ne_of_none z2 fr)]; exact z2⟩
      · obtain ⟨y1, y2, g⟩ := hTO'
        exact ⟨y1, y2, up _ _ (cq _ (by simp)) g⟩
    · refine wpAny_bind (lz_last hh D I p1 p2 hz hTI hTO h1 h2 (by omega) (by omega) (.inr (by omega)) fun h' tk hk => ?_)
      exact wpAny_pure (hdone H _ (I.turnedL (t' := tk) (ch := [z, TI, TO, i1, i2]) (fun c o hb e => hk c o hb e) hf) (hend (.inr (by omega))))
theorem lz_hint {M : Model} {A : Around} {E : Value → Shared → Prop} {s : Shared} {Q : Bool → Shared → Prop} (hT : s.TypeIs (.ref z) "zip") (h : Q true s) : wpAny M A (Builtin.List.listLengthHint (.ref z)) Q E s := by
  unfold Builtin.List.listLengthHint
  refine wpAny_bind (wpAny_specialOf hT zip_no_len ?_)
  show wpAny _ A (specialOf (Value.ref z) (Str.ofString "__length_hint__") >>= _) _ _ _
  refine wpAny_bind (wpAny_specialOf hT zip_no_hint ?_)
  exact wpAny_pure h
theorem lz_extend {A1 : Around} {P : Nat → List V → Hp → Prop} {R : Hp → Prop} {Rs : Result → Shared → Prop} {H : Hp} {s : Shared} (hh : A1.handled = none) (D : SepX z TI TO i1 i2 a b) (hm : ∀ j, j < xs.length → j < ys.length → j < sizeLine) (hq : q ∉ [z, TI, TO, i1, i2])
    (hrun : LzRun X.K k1 k2 a b q xs ys P R) (hdone : ∀ H s, Inv X pins σ H s → R H → Rs (.ok (.ret .none)) s)
    (I : Inv X pins σ H s) (hP : P 0 [] H) (hf : ∀ c ∈ [z, TI, TO, i1, i2], FpOk X pins H c) (hz : IsZip s.heap z TI TO .none) (hTI : IsTupOf2 s.heap TI (.ref i1) (.ref i2)) (hTO : ∃ x y, IsTupOf2 s.heap TO x y) (h1 : kIt s.heap k1 i1 a 0) (h2 : kIt s.heap k2 i2 b 0) :
    wpAny (model X.prog X.w) A1.in1 (Builtin.List.listExtendWith (.ref q) (.ref z) .none)
      (fun fin s' => match fin with | .done f => Rs (.ok f) s' | .again c' => c'.quiet = true ∧ codeAny (model X.prog X.w) A1 c' Rs s') (fun e s' => Rs (.error e) s') s := by
  have hne : q ≠ z := fun e => hq (by simp [e])
  have hT : s.TypeIs (.ref z) "zip" := ⟨_, hz, rfl⟩
  have hq0 := (hrun 0 [] H hP).1
  unfold Builtin.List.listExtendWith
  refine wpAny_bind (wpAny_typeOf hT ?_)
  have h1' : Builtin.List.listSameRef (.ref q) (.ref z) = false := by simp [Builtin.List.listSameRef, hne]
  have h2' : (Value.type "zip" == Value.type "list") = false := by decide
  have h3' : (Value.type "zip" == Value.type "tuple") = false := by decide
  simp only [h1', h2', h3', Bool.or_false, Bool.false_eq_true, if_false]
  refine wpAny_bind (wpAny_pyIter_zip hz ?_)
  refine wpAny_bind (wpAny_holding (lz_hint hT ?_))
  obtain ⟨_, its, k, r3, hl3, e3⟩ := I.lstM hq0
  cases r3
  refine wpAny_ite_split (fun _ => ?_) (fun _ => wpAny_pure ⟨plainId_quiet PySem.F.plain_extend_loop _, lz_loop hh D hm hq hrun hdone _ 0 [] H s rfl (Nat.zero_le _) (Nat.zero_le _) I hP hf (.inl hz) hTI hTO h1 h2⟩)
  refine wpAny_bind (wpAny_rule ?_)
  refine wpAny_bind ?_
  show wpAny _ _ (updateSeq q (·.push .none) >>= fun _ => updateSeq q (·.pop)) _ _ _
  refine wpAny_bind (wpAny_updateSeq e3 rfl ?_)
  have I2 := I.lset (f := (·.push Value.none)) (its' := [Value.none]) (ys := [.non]) (t' := s.toks) hq0 e3 (by simp) (.cons rfl .nil) (by rw [List.length_singleton, sizeLine_eq]; decide)
  obtain ⟨z4, its4, k4, r4, hl4, e4⟩ := I2.lstM upd_same
  obtain ⟨u4, rfl, ru4⟩ := r4.one
  refine wpAny_updateSeq e4 rfl ?_ (by show 1 ≤ sizeLine; rw [sizeLine_eq]; decide) (by show 0 ≤ sizeLine + 1; exact Nat.zero_le _)
  have I3 := I2.lset (f := (·.pop)) (its := [u4]) (its' := []) (ys := []) (t' := s.toks) upd_same e4 (by rfl) .nil (Nat.zero_le _)
  rw [L2.upd_upd] at I3
  have hH : upd H q (.lst []) = H := by
    funext c
    by_cases hc : c = q
    · rw [hc, upd_same, hq0]
    · rw [upd_ne hc]
  rw [hH] at I3
  have up : ∀ c o, c ≠ q → s.heap.get? c = some o → ((s.heap.update q (Obj.mapSeq (·.push Value.none))).update q (Obj.mapSeq (·.pop))).get? c = some o :=
    fun c o hc e => (Heap.get?_update_other _ _ (Ne.symm hc)).trans ((Heap.get?_update_other _ _ (Ne.symm hc)).trans e)
  have cq : ∀ c ∈ [z, TI, TO, i1, i2], c ≠ q := fun c hc e => hq (e ▸ hc)
  obtain ⟨y1, y2, g⟩ := hTO
  exact wpAny_pure ⟨plainId_quiet PySem.F.plain_extend_loop _, lz_loop hh D hm hq hrun hdone _ 0 [] H _ rfl (Nat.zero_le _) (Nat.zero_le _) I3 hP hf (.inl (up _ _ (cq _ (by simp)) hz)) (up _ _ (cq _ (by simp)) hTI) ⟨y1, y2, up _ _ (cq _ (by simp)) g⟩
    (kit_at k1 h1 fun o e => up _ _ (cq _ (by simp)) e) (kit_at k2 h2 fun o e => up _ _ (cq _ (by simp)) e)⟩
/-- what list(zip(..)) promises -/
def rLz (K : PySem.W.Frag) (H : Hp) (k1 k2 : Kd) (a b : Addr) (xs ys : List V) (Q : VK) : Prop :=
  (∀ j, j < xs.length → j < ys.length → j < sizeLine) ∧ ∀ q, H q = none → ∃ P : Nat → List V → Hp → Prop, P 0 [] (upd H q (.lst [])) ∧ LzRun K k1 k2 a b q xs ys P fun H' => Q (.ref q) H'
theorem lz_call {H : Hp} {s : Shared} {Q : VK} (hc : X.calm = true) (D : SepX z TI TO i1 i2 a b) (I : Inv X pins σ H s) (hf : ∀ c ∈ [z, TI, TO, i1, i2], FpOk X pins H c) (hz : IsZip s.heap z TI TO .none) (hTI : IsTupOf2 s.heap TI (.ref i1) (.ref i2)) (hTO : ∃ x y, IsTupOf2 s.heap TO x y) (h1 : kIt s.heap k1 i1 a 0) (h2 : kIt s.heap k2 i2 b 0)
    (h : rLz X.K H k1 k2 a b xs ys Q) : wpAny (model X.prog X.w) X.A (call (.type "list") [.ref z]) (EP X pins σ Q) X.xe s := by
  refine callType_codes (Q₁ := fun obj s₁ => obj = .ref s.heap.objs.size ∧ s₁ = { s with heap := s.heap.push { cls := .type "list", data := .seq #[] } }) PySem.F.called_list (PySem.F.typeCall_list_1 _) PySem.F.entry_list_init
    (code_list_new _ ⟨rfl, rfl⟩) fun obj s₁ h₁ => ?_
  obtain ⟨rfl, rfl⟩ := h₁
  have hS : (s.heap.push { cls := .type "list", data := .seq #[] }).get? s.heap.objs.size = some { cls := .type "list", data := .seq #[] } := Heap.get?_push_size _ rfl
  refine ⟨⟨_, hS, rfl⟩, PySem.F.args_list_init_2 _ _, ?_⟩
  have fr : H s.heap.objs.size = none := I.hok.fresh (Nat.le_refl _)
  obtain ⟨hm, h⟩ := h
  obtain ⟨P, hP, hrun⟩ := h _ fr
  have I1 : Inv X pins σ (upd H s.heap.objs.size (.lst [])) { s with heap := s.heap.push { cls := .type "list", data := .seq #[] } } := I.lnew (its := []) (t' := s.toks) .nil (Nat.zero_le _)
  show wpAny _ _ (do let old ← Builtin.List.listItems (.ref s.heap.objs.size); Builtin.List.listUpdate (.ref s.heap.objs.size) (fun _ => #[]); letGo old.toList.reverse; Builtin.List.listExtendWith (.ref s.heap.objs.size) (.ref z) .none) _ _ _
  refine wpAny_bind ?_
  unfold Builtin.List.listItems
  refine wpAny_bind (wpAny_seqItems hS rfl (wpAny_pure ?_))
  show wpAny _ _ (updateSeq s.heap.objs.size (fun _ => #[]) >>= fun _ => letGo (#[] : Array Value).toList.reverse >>= fun _ => Builtin.List.listExtendWith (.ref s.heap.objs.size) (.ref z) .none) _ _ _
  refine wpAny_bind (wpAny_updateSeq hS rfl ?_)
  have I2 := I1.lset (f := fun _ => #[]) (its := []) (its' := []) (ys := []) (t' := s.toks) upd_same hS rfl .nil (Nat.zero_le _)
  rw [L2.upd_upd] at I2
  refine wpAny_bind (wpAny_letGo ?_)
  have hlt : ∀ c ∈ [z, TI, TO, i1, i2], c < s.heap.objs.size := fun c hc => by
    simp only [List.mem_cons, List.not_mem_nil, or_false] at hc
    obtain ⟨_, _, g3⟩ := hTO
    obtain ⟨o1, g1, _⟩ := kit_obj k1 h1
    obtain ⟨o2, g2, _⟩ := kit_obj k2 h2
    rcases hc with e | e | e | e | e
    · rw [e]; exact Heap.lt_size hz
    · rw [e]; exact Heap.lt_size hTI
    · rw [e]; exact Heap.lt_size g3
    · rw [e]; exact Heap.lt_size g1
    · rw [e]; exact Heap.lt_size g2
  have hq : s.heap.objs.size ∉ [z, TI, TO, i1, i2] := fun hc => absurd (hlt _ hc) (Nat.lt_irrefl _)
  have up : ∀ c o, c ≠ s.heap.objs.size → s.heap.get? c = some o → ((s.heap.push { cls := .type "list", data := .seq #[] }).update s.heap.objs.size (Obj.mapSeq (fun _ => #[]))).get? c = some o :=
    fun c o hc e => (Heap.get?_update_other _ _ (Ne.symm hc)).trans (Heap.get?_push_of_some _ e)
  have cq : ∀ c ∈ [z, TI, TO, i1, i2], c ≠ s.heap.objs.size := fun c hc e => hq (e ▸ hc)
  obtain ⟨y1, y2, g⟩ := hTO
  exact lz_extend (A1 := X.A.in1) (Rs := wants (fun r s₂ => r = .none ∧ EP X pins σ Q (.ref s.heap.objs.size) s₂) X.xe) (I.ok.hd hc) D hm hq hrun
    (fun H' s' I' hR => ⟨rfl, .ref s.heap.objs.size, H', I', rfl, hR⟩) I2 hP (fun c hc => ⟨by rw [upd_ne (cq c hc)]; exact (hf c hc).1, (hf c hc).2⟩) (up _ _ (cq _ (by simp)) hz) (up _ _ (cq _ (by simp)) hTI) ⟨y1, y2, up _ _ (cq _ (by simp)) g⟩
    (kit_at k1 h1 fun o e => up _ _ (cq _ (by simp)) e) (kit_at k2 h2 fun o e => up _ _ (cq _ (by simp)) e)
end
def tLz (K : PySem.W.Frag) (ta : TA) : TE := fun σ H Q => ta σ H fun vs H1 => ∃ a b k1 k2 xs ys, vs = [.ref a, .ref b] ∧ kSq K H1 k1 a xs ∧ kSq K H1 k2 b ys ∧ rLz K H1 k1 k2 a b xs ys Q
/-- list(zip(e, e2)) -/
theorem pe_listZ {X : Cx} {e e2 : Expr} {ta : TA} {p p2 pos pos2 : Pos} (hc : X.calm = true) (hg : Gl X "list") (hm : X.mg "list" = none) (hg2 : Gl X "zip") (hm2 : X.mg "zip" = none) (ha : PA X [e, e2] ta)
    (hs : starEach [e, e2] X.env = (false, PySem.eval e X.env) :: starEach [e2] X.env) (hpl : (backTo pos2 (starEach [e2] X.env)).any (·.1) = false)
    (na : starEach [.Call (.Name "zip" p2) [e, e2] [] pos2] X.env = (false, PySem.eval (.Call (.Name "zip" p2) [e, e2] [] pos2) X.env) :: starEach [] X.env := by rfl) :
    PE X (.Call (.Name "list" p) [.Call (.Name "zip" p2) [e, e2] [] pos2] [] pos) (tLz X.K ta) := by
  refine ⟨fun pins s σ H Q I h => ?_⟩
  refine Call_ (ld_blt I hg hm boot_list (PyProof.Rows.callWith_type1 (args_cons ?_ na) na))
  refine Call_ (ld_blt I hg2 hm2 PyProof.Rows.boot_zip (PyProof.Rows.callWith_type1 (thn (ha.run pos2 pins s σ H _ I h) fun us s1 ⟨vs, H1, I1, r1, q1⟩ => ?_) hs hpl))
  obtain ⟨a, b, k1, k2, xs, ys, ex, hqx, hqy, q⟩ := q1
  subst ex
  cases r1 with
  | cons r rr =>
    cases rr with
    | cons r' rr =>
      cases rr
      cases r
      cases r'
      obtain ⟨its, rv, p1⟩ := kget I1 k1 hqx
      obtain ⟨its2, rv2, p2⟩ := kget I1 k2 hqy
      refine zip_begins2 (kbg a its.toArray k1) (kbg b its2.toArray k2) p1 p2 fun h' hz hTI hTO g1 g2 hsz hk => args_nil ?_
      have I2 : Inv X pins σ H1 { s1 with heap := h' } := I1.kept (t' := s1.toks) hk
      refine lz_call hc (sep_new (kob_lt k1 p1) (kob_lt k2 p2)) I2 (fun c hcm => ?_) hz hTI ⟨_, _, hTO⟩ (kit0 k1 g1) (kit0 k2 g2) q
      have hle : s1.heap.objs.size ≤ c := by
        simp only [List.mem_cons, List.not_mem_nil, or_false] at hcm
        rcases hcm with z | z | z | z | z
        · rw [z]; exact Nat.le_add_right _ _
        · rw [z]; exact Nat.le_add_right _ _
        · rw [z]; exact Nat.le_add_right _ _
        · rw [z]; exact Nat.le_refl _
        · rw [z]; exact Nat.le_add_right _ _
      exact I1.fpOk hle (I1.hok.fresh hle)
end PL
-- C12
set_option Elab.async false
set_option linter.all false
set_option maxRecDepth 100000
set_option maxHeartbeats 8000000
/-! C12: the rule for expressions. -/
namespace PL
open PySem PySem.Spec PyProof.Rows L2
variable {C : Cxt} {n : Nat} {cl : Str → Value}
theorem and4 {a b c d : Bool} (h : (a && b && c && d) = true) : a = true ∧ b = true ∧ c = true ∧ d = true := by
  simp only [Bool.and_eq_true] at h
  exact ⟨h.1.1.1, h.1.1.2, h.1.2, h.2⟩
theorem mE_plain {sc : Scope} : ∀ {p : Ex} {e : Expr}, special p = false → mE C p sc e = true → plainT e = true := by
  intro p e hs h
  cases e
  case UnaryOp op a pos =>
    cases op <;> first | rfl | skip
    cases p <;> first | (cases hs; done) | (cases h; done) | (simp [mE] at h; done)
  case BoolOp op es pos => cases p <;> first | (cases hs; done) | (cases h; done) | (simp [mE] at h; done)
  case IfExp t a b pos => cases p <;> first | (cases hs; done) | (cases h; done) | (simp [mE] at h; done)
  case Compare l ops cs pos => cases p <;> first | (cases hs; done) | (cases h; done) | (simp [mE] at h; done)
  all_goals rfl
theorem eqCs_ok {a b : D} (h : eqCs a b = true) : a = b := by
  unfold eqCs at h
  split at h
  · rw [of_decide_eq_true h]
  · rw [of_decide_eq_true h]
  · cases h

/-! ### the shapes that the look takes -/
def bi2N (b : Bi) (y : Str) : Bool := match b with
  | .min => decide (y = ("min" : Str))
  | .max => decide (y = ("max" : Str))
  | _ => false
def meN (m : Me) (y : Str) : Bool := match m with
  | .count => decide (y = ("count" : Str))
  | .index => decide (y = ("index" : Str))
  | _ => false
theorem chain_of {C : Cxt} {sc : Scope} {o o2 : COp} {p q r : Ex} {e : Expr} (h : mE C (.chain o o2 p q r) sc e = true) : ∃ l a b pos, e = .Compare l [copB o, copB o2] [a, b] pos ∧ lastMarks [copB o, copB o2] [a, b] = false ∧ mE C p sc l = true ∧ mE C q sc a = true ∧ mE C r sc b = true := by
  unfold mE at h
  split at h
  all_goals first | (cases h; done) | (rename_i z; cases z; done) | skip
  all_goals (rename_i z; cases z; simp only [Bool.and_eq_true] at h)
  obtain ⟨⟨⟨h1, h2⟩, h3⟩, h4, h5, h6⟩ := h
  obtain rfl := of_decide_eq_true h1
  obtain rfl := of_decide_eq_true h2
  exact ⟨_, _, _, _, rfl, by simpa using h3, h4, h5, h6⟩
theorem cmp_of {C : Cxt} {sc : Scope} {o : COp} {p q : Ex} {e : Expr} (h : mE C (.cmp o p q) sc e = true) : ∃ l b pos, e = .Compare l [copB o] [b] pos ∧ behindInMarks (copB o) b = false ∧ mE C p sc l = true ∧ mE C q sc b = true := by
  unfold mE at h
  split at h
  all_goals first | (cases h; done) | (rename_i z; cases z; done) | skip
  all_goals (rename_i z; cases z; simp only [Bool.and_eq_true] at h)
  obtain ⟨⟨h1, h2⟩, h3, h4⟩ := h
  obtain rfl := of_decide_eq_true h1
  exact ⟨_, _, _, rfl, behind_of h2, h3, h4⟩
theorem and_of {C : Cxt} {sc : Scope} {p q : Ex} {e : Expr} (h : mE C (.and p q) sc e = true) : ∃ a b r pos, e = .BoolOp .And (a :: b :: r) pos ∧ mE C p sc a = true ∧ (match r with | [] => mE C q sc b | _ :: _ => mE C q sc (.BoolOp .And (b :: r) pos)) = true := by
  unfold mE at h
  split at h
  all_goals first | (cases h; done) | (rename_i z; cases z; done) | skip
  all_goals (rename_i z; cases z; simp only [Bool.and_eq_true] at h)
  exact ⟨_, _, _, _, rfl, h.1, h.2⟩
theorem or_of {C : Cxt} {sc : Scope} {p q : Ex} {e : Expr} (h : mE C (.or p q) sc e = true) : ∃ a b r pos, e = .BoolOp .Or (a :: b :: r) pos ∧ mE C p sc a = true ∧ (match r with | [] => mE C q sc b | _ :: _ => mE C q sc (.BoolOp .Or (b :: r) pos)) = true := by
  unfold mE at h
  split at h
  all_goals first | (cases h; done) | (rename_i z; cases z; done) | skip
  all_goals (rename_i z; cases z; simp only [Bool.and_eq_true] at h)
  exact ⟨_, _, _, _, rfl, h.1, h.2⟩
theorem call_of {C : Cxt} {sc : Scope} {i : Nat} {fr : Bool} {ps : Exs} {e : Expr} (h : mE C (.call i fr ps) sc e = true) : ∃ f p1 e1 es pos, e = .Call (.Name f.name p1) (e1 :: es) [] pos ∧ C.T[i]? = some f ∧ f.fr = fr ∧ glB sc f.name = true ∧ okName f.name = true ∧ mEs C ps sc (e1 :: es) = true := by
  unfold mE at h
  split at h
  all_goals first | (cases h; done) | (rename_i z; cases z; done) | skip
  all_goals (rename_i z; cases z; simp only [Bool.and_eq_true] at h)
  obtain ⟨⟨⟨h1, h2⟩, h3⟩, h4⟩ := h
  split at h3
  · rename_i f ef
    simp only [Bool.and_eq_true] at h3
    obtain rfl := of_decide_eq_true h3.1
    exact ⟨f, _, _, _, _, rfl, ef, eq_of_beq h3.2, h1, h2, h4⟩
  · cases h3
theorem bi1_of {C : Cxt} {sc : Scope} {b : Bi} {p : Ex} {e : Expr} (h : mE C (.bi b (.cons p .nil)) sc e = true) : ∃ y p1 e1 pos, e = .Call (.Name y p1) [e1] [] pos ∧ glB sc y = true ∧ (biN b).map (·.1) = some y ∧ notStar e1 = true ∧ mE C p sc e1 = true := by
  unfold mE at h
  split at h
  all_goals first | (cases h; done) | (rename_i z; cases z; done) | (rename_i z _; cases z; done) | (rename_i z _ _; cases z; done) | (rename_i z _ _ _; cases z; done) | (rename_i z _ _ _ _; cases z; done) | skip
  all_goals first | (rename_i z; cases z) | (rename_i z _; cases z) | (rename_i z _ _; cases z)
  all_goals simp only [Bool.and_eq_true] at h
  obtain ⟨⟨⟨h1, h2⟩, h3⟩, h4⟩ := h
  split at h2
  · rename_i y z e'
    obtain rfl := of_decide_eq_true h2
    exact ⟨_, _, _, _, rfl, h1, by rw [e']; rfl, h3, h4⟩
  · cases h2
theorem bi2_of {C : Cxt} {sc : Scope} {b : Bi} {p q : Ex} {e : Expr} (h : mE C (.bi b (.cons p (.cons q .nil))) sc e = true) : ∃ y p1 e1 e2 pos, e = .Call (.Name y p1) [e1, e2] [] pos ∧ glB sc y = true ∧ bi2N b y = true ∧ notStar e1 = true ∧ notStar e2 = true ∧ mE C p sc e1 = true ∧ mE C q sc e2 = true := by
  unfold mE at h
  split at h
  all_goals first | (cases h; done) | (rename_i z; cases z; done) | (rename_i z _; cases z; done) | (rename_i z _ _; cases z; done) | (rename_i z _ _ _; cases z; done) | (rename_i z _ _ _ _; cases z; done) | skip
  all_goals first | (rename_i z; cases z) | (rename_i z _; cases z) | (rename_i z _ _; cases z)
  all_goals simp only [Bool.and_eq_true] at h
  obtain ⟨⟨⟨⟨h1, h2⟩, h3⟩, h4⟩, h5, h6⟩ := h
  exact ⟨_, _, _, _, _, rfl, h1, h2, h3, h4, h5, h6⟩
theorem isI_of {C : Cxt} {sc : Scope} {t : Ty} {p : Ex} {e : Expr} (h : mE C (.isI t p) sc e = true) : ∃ m p1 e1 p2 pos, e = .Call (.Name "isinstance" p1) [e1, .Name (Str.ofString m) p2] [] pos ∧ tyN t = some m ∧ glB sc "isinstance" = true ∧ glB sc (Str.ofString m) = true ∧ notStar e1 = true ∧ mE C p sc e1 = true := by
  unfold mE at h
  split at h
  all_goals first | (cases h; done) | (rename_i z; cases z; done) | skip
  all_goals (rename_i z; cases z; simp only [Bool.and_eq_true] at h)
  obtain ⟨⟨⟨⟨⟨h1, h2⟩, h3⟩, h4⟩, h5⟩, h6⟩ := h
  obtain rfl := of_decide_eq_true h1
  split at h4
  · rename_i m e'
    obtain rfl := of_decide_eq_true h4
    exact ⟨m, _, _, _, _, rfl, e', h2, h3, h5, h6⟩
  · cases h4
theorem me_of {C : Cxt} {sc : Scope} {m : Me} {o p : Ex} {e : Expr} (h : mE C (.me m o (.cons p .nil)) sc e = true) : ∃ a y p1 e1 pos, e = .Call (.Attribute a y p1) [e1] [] pos ∧ meN m y = true ∧ (p1.endLine == pos.line) = true ∧ baseOk a = true ∧ notStar e1 = true ∧ mE C o sc a = true ∧ mE C p sc e1 = true := by
  unfold mE at h
  split at h
  all_goals first | (cases h; done) | (rename_i z; cases z; done) | (rename_i z _; cases z; done) | (rename_i z _ _; cases z; done) | (rename_i z _ _ _; cases z; done) | (rename_i z _ _ _ _; cases z; done) | skip
  all_goals first | (rename_i z; cases z) | (rename_i z _; cases z) | (rename_i z _ _; cases z)
  all_goals simp only [Bool.and_eq_true] at h
  obtain ⟨⟨⟨⟨h1, h2⟩, h3⟩, h4⟩, h5, h6⟩ := h
  exact ⟨_, _, _, _, _, rfl, h1, h2, h3, h4, h5, h6⟩
theorem sl_of {C : Cxt} {sc : Scope} {p : Ex} {lo hi : Eo} {e : Expr} (h : mE C (.sl p lo hi) sc e = true) : ∃ a l hh p1 p2, e = .Subscript a (.Slice l hh none p1) p2 ∧ mE C p sc a = true ∧ mO C lo sc l = true ∧ mO C hi sc hh = true := by
  unfold mE at h
  split at h
  all_goals first | (cases h; done) | (rename_i z; cases z; done) | skip
  all_goals (rename_i z; cases z; simp only [Bool.and_eq_true] at h)
  exact ⟨_, _, _, _, _, rfl, h.1, h.2.1, h.2.2⟩
theorem rev_of {C : Cxt} {sc : Scope} {p : Ex} {e : Expr} (h : mE C (.rev p) sc e = true) : ∃ a k p1 p2 p3 p4, e = .Subscript a (.Slice none none (some (.UnaryOp .USub (.Constant (.int 1) k p1) p2)) p3) p4 ∧ mE C p sc a = true := by
  unfold mE at h
  split at h
  all_goals first | (cases h; done) | (rename_i z; cases z; done) | skip
  all_goals (rename_i z; cases z)
  exact ⟨_, _, _, _, _, _, rfl, h⟩
theorem ss_of {C : Cxt} {sc : Scope} {p : Ex} {e : Expr} (h : mE C (.sset p) sc e = true) : ∃ e1 p1 p2 p3 p4, e = .Call (.Name "sorted" p1) [.Call (.Name "set" p2) [e1] [] p3] [] p4 ∧ glB sc "sorted" = true ∧ glB sc "set" = true ∧ notStar e1 = true ∧ mE C p sc e1 = true := by
  unfold mE at h
  split at h
  all_goals first | (cases h; done) | (rename_i z; cases z; done) | skip
  all_goals (rename_i z; cases z; simp only [Bool.and_eq_true] at h)
  obtain ⟨⟨⟨⟨⟨h1, h2⟩, h3⟩, h4⟩, h5⟩, h6⟩ := h
  obtain rfl := of_decide_eq_true h1
  obtain rfl := of_decide_eq_true h2
  exact ⟨_, _, _, _, _, rfl, h3, h4, h5, h6⟩
theorem ls_of {C : Cxt} {sc : Scope} {p : Ex} {e : Expr} (h : mE C (.lset p) sc e = true) : ∃ e1 p1 p2 p3 p4, e = .Call (.Name "len" p1) [.Call (.Name "set" p2) [e1] [] p3] [] p4 ∧ glB sc "len" = true ∧ glB sc "set" = true ∧ notStar e1 = true ∧ mE C p sc e1 = true := by
  unfold mE at h
  split at h
  all_goals first | (cases h; done) | (rename_i z; cases z; done) | skip
  all_goals (rename_i z; cases z; simp only [Bool.and_eq_true] at h)
  obtain ⟨⟨⟨⟨⟨h1, h2⟩, h3⟩, h4⟩, h5⟩, h6⟩ := h
  obtain rfl := of_decide_eq_true h1
  obtain rfl := of_decide_eq_true h2
  exact ⟨_, _, _, _, _, rfl, h3, h4, h5, h6⟩
theorem rg1_of {C : Cxt} {sc : Scope} {tp : Bool} {p : Ex} {e : Expr} (h : mE C (.rg tp (.rng1 p)) sc e = true) : ∃ e1 p1 p2 p3 p4, e = .Call (.Name (if tp then ("tuple" : Str) else "list") p1) [.Call (.Name "range" p2) [e1] [] p3] [] p4 ∧ glB sc (if tp then ("tuple" : Str) else "list") = true ∧ glB sc "range" = true ∧ notStar e1 = true ∧ mE C p sc e1 = true := by
  unfold mE at h
  split at h
  all_goals first | (cases h; done) | (rename_i z; cases z; done) | skip
  all_goals (rename_i z; cases z; simp only [Bool.and_eq_true] at h)
  obtain ⟨⟨⟨⟨⟨h1, h2⟩, h3⟩, h4⟩, h5⟩, h6⟩ := h
  obtain rfl := of_decide_eq_true h1
  obtain rfl := of_decide_eq_true h2
  exact ⟨_, _, _, _, _, rfl, h3, h4, h5, h6⟩
theorem rg2_of {C : Cxt} {sc : Scope} {tp : Bool} {p q : Ex} {e : Expr} (h : mE C (.rg tp (.rng2 p q)) sc e = true) : ∃ e1 e2 p1 p2 p3 p4, e = .Call (.Name (if tp then ("tuple" : Str) else "list") p1) [.Call (.Name "range" p2) [e1, e2] [] p3] [] p4 ∧ glB sc (if tp then ("tuple" : Str) else "list") = true ∧ glB sc "range" = true ∧ notStar e1 = true ∧ notStar e2 = true ∧ mE C p sc e1 = true ∧ mE C q sc e2 = true := by
  unfold mE at h
  split at h
  all_goals first | (cases h; done) | (rename_i z; cases z; done) | skip
  all_goals (rename_i z; cases z; simp only [Bool.and_eq_true] at h)
  obtain ⟨⟨⟨⟨⟨⟨h1, h2⟩, h3⟩, h4⟩, h5⟩, h6⟩, h7, h8⟩ := h
  obtain rfl := of_decide_eq_true h1
  obtain rfl := of_decide_eq_true h2
  exact ⟨_, _, _, _, _, _, rfl, h3, h4, h5, h6, h7, h8⟩
theorem rgz_of {C : Cxt} {sc : Scope} {tp : Bool} {p q : Ex} {e : Expr} (h : mE C (.rg tp (.zip2 p q)) sc e = true) : tp = false ∧ ∃ e1 e2 p1 p2 p3 p4, e = .Call (.Name "list" p1) [.Call (.Name "zip" p2) [e1, e2] [] p3] [] p4 ∧ glB sc "list" = true ∧ glB sc "zip" = true ∧ notStar e1 = true ∧ notStar e2 = true ∧ mE C p sc e1 = true ∧ mE C q sc e2 = true := by
  unfold mE at h
  split at h
  all_goals first | (cases h; done) | (rename_i z; cases z; done) | skip
  all_goals (rename_i z; cases z; simp only [Bool.and_eq_true] at h)
  obtain ⟨⟨⟨⟨⟨⟨⟨h0, h1⟩, h2⟩, h3⟩, h4⟩, h5⟩, h6⟩, h7, h8⟩ := h
  obtain rfl := of_decide_eq_true h1
  obtain rfl := of_decide_eq_true h2
  exact ⟨by simpa using h0, _, _, _, _, _, _, rfl, h3, h4, h5, h6, h7, h8⟩
theorem comp_of {C : Cxt} {sc : Scope} {elt : Ex} {own : List Nat} {tg : Tg} {it : PL.It} {cond : Eo} {e : Expr} (h : mE C (.comp elt own tg it cond) sc e = true) : ∃ e1 t i ifs scope pos, e = .ListComp e1 [⟨t, i, ifs, 0⟩] scope pos ∧ blkC C.N sc scope (ownOf C own) = true ∧ mTg C scope tg t = true ∧ tgOk it t = true ∧ (slots tg).all (own.contains ·) = true ∧ mI C it sc i = true ∧ mE C elt (relS scope sc) e1 = true ∧ mC C cond (relS scope sc) ifs = true := by
  unfold mE at h
  split at h
  all_goals first | (cases h; done) | (rename_i z; cases z; done) | skip
  all_goals (rename_i z; cases z; simp only [Bool.and_eq_true] at h)
  obtain ⟨⟨⟨⟨⟨⟨h1, h2⟩, h3⟩, h4⟩, h5⟩, h6⟩, h7⟩ := h
  exact ⟨_, _, _, _, _, _, rfl, h1, h2, h3, h4, h5, h6, h7⟩
theorem mrng1_of {C : Cxt} {sc : Scope} {p : Ex} {e : Expr} (h : mI C (.rng1 p) sc e = true) : ∃ a p1 p2, e = .Call (.Name "range" p1) [a] [] p2 ∧ glB sc "range" = true ∧ notStar a = true ∧ mE C p sc a = true := by
  unfold mI at h
  split at h
  all_goals first | (cases h; done) | (rename_i z; cases z; done) | skip
  all_goals (rename_i z; cases z; simp only [Bool.and_eq_true] at h)
  obtain ⟨⟨⟨h1, h2⟩, h3⟩, h4⟩ := h
  obtain rfl := of_decide_eq_true h1
  exact ⟨_, _, _, rfl, h2, h3, h4⟩
theorem mrng2_of {C : Cxt} {sc : Scope} {p q : Ex} {e : Expr} (h : mI C (.rng2 p q) sc e = true) : ∃ a b p1 p2, e = .Call (.Name "range" p1) [a, b] [] p2 ∧ glB sc "range" = true ∧ notStar a = true ∧ notStar b = true ∧ mE C p sc a = true ∧ mE C q sc b = true := by
  unfold mI at h
  split at h
  all_goals first | (cases h; done) | (rename_i z; cases z; done) | skip
  all_goals (rename_i z; cases z; simp only [Bool.and_eq_true] at h)
  obtain ⟨⟨⟨⟨h1, h2⟩, h3⟩, h4⟩, h5, h6⟩ := h
  obtain rfl := of_decide_eq_true h1
  exact ⟨_, _, _, _, rfl, h2, h3, h4, h5, h6⟩
theorem mzip2_of {C : Cxt} {sc : Scope} {p q : Ex} {e : Expr} (h : mI C (.zip2 p q) sc e = true) : ∃ a b p1 p2, e = .Call (.Name "zip" p1) [a, b] [] p2 ∧ glB sc "zip" = true ∧ notStar a = true ∧ notStar b = true ∧ mE C p sc a = true ∧ mE C q sc b = true := by
  unfold mI at h
  split at h
  all_goals first | (cases h; done) | (rename_i z; cases z; done) | skip
  all_goals (rename_i z; cases z; simp only [Bool.and_eq_true] at h)
  obtain ⟨⟨⟨⟨h1, h2⟩, h3⟩, h4⟩, h5, h6⟩ := h
  obtain rfl := of_decide_eq_true h1
  exact ⟨_, _, _, _, rfl, h2, h3, h4, h5, h6⟩
theorem mrng3_of {C : Cxt} {sc : Scope} {p q r : Ex} {e : Expr} (h : mI C (.rng3 p q r) sc e = true) : ∃ a b c p1 p2, e = .Call (.Name "range" p1) [a, b, c] [] p2 ∧ glB sc "range" = true ∧ notStar a = true ∧ notStar b = true ∧ notStar c = true ∧ mE C p sc a = true ∧ mE C q sc b = true ∧ mE C r sc c = true := by
  unfold mI at h
  split at h
  all_goals first | (cases h; done) | (rename_i z; cases z; done) | skip
  all_goals (rename_i z; cases z; simp only [Bool.and_eq_true] at h)
  obtain ⟨⟨⟨⟨⟨h1, h2⟩, h3⟩, h4⟩, h5⟩, h6, h7, h8⟩ := h
  obtain rfl := of_decide_eq_true h1
  exact ⟨_, _, _, _, _, rfl, h2, h3, h4, h5, h6, h7, h8⟩
theorem mzip3_of {C : Cxt} {sc : Scope} {p q r : Ex} {e : Expr} (h : mI C (.zip3 p q r) sc e = true) : ∃ a b c p1 p2, e = .Call (.Name "zip" p1) [a, b, c] [] p2 ∧ glB sc "zip" = true ∧ notStar a = true ∧ notStar b = true ∧ notStar c = true ∧ mE C p sc a = true ∧ mE C q sc b = true ∧ mE C r sc c = true := by
  unfold mI at h
  split at h
  all_goals first | (cases h; done) | (rename_i z; cases z; done) | skip
  all_goals (rename_i z; cases z; simp only [Bool.and_eq_true] at h)
  obtain ⟨⟨⟨⟨⟨h1, h2⟩, h3⟩, h4⟩, h5⟩, h6, h7, h8⟩ := h
  obtain rfl := of_decide_eq_true h1
  exact ⟨_, _, _, _, _, rfl, h2, h3, h4, h5, h6, h7, h8⟩
theorem mI_set {C : Cxt} {sc : Scope} {it : PL.It} {e : Expr} (h : mI C it sc e = true) : notSet e = true := by
  cases e <;> first | rfl | skip
  cases it <;> simp [mI, notSet] at h
theorem bu_mem {y : Str} (h : buNames.contains y = true) : y ∈ buNames := by simpa using h
section
variable {W : WS} {sc osc : Scope} {X : Cx} {φ : Phi} {e e2 : Expr} {p q : Ex} {p1 p2 pos pos2 : Pos}
abbrev RgK (tp : Bool) (Q : VK) : Int → Int → Hp → Prop := fun lo hi H' => RgOk lo hi ∧ ((tp = false → ∀ l, H' l = none → Q (.ref l) (upd H' l (.lst (rgV lo hi)))) ∧ (tp = true → ∀ l, H' l = none → Q (.ref l) (upd H' l (.tup (rgV lo hi)))))
theorem rb_assoc {α β γ : Type} (r : Res α) (f : α → Res β) (g : β → Res γ) : (r.rb f).rb g = r.rb fun a => (f a).rb g := by cases r <;> rfl
theorem s_rg1 {tp : Bool} (hc : X.calm = true) (g1 : Gl X (if tp then ("tuple" : Str) else "list")) (m1 : X.mg (if tp then ("tuple" : Str) else "list") = none) (g2 : Gl X "range") (m2 : X.mg "range" = none) (hs : notStar e = true) (hp : PE X e (tD X.K W φ p)) :
    PE X (.Call (.Name (if tp then ("tuple" : Str) else "list") p1) [.Call (.Name "range" p2) [e] [] pos2] [] pos) (tD X.K W φ (.rg tp (.rng1 p))) := by
  have key : ∀ σ H Q, tD X.K W φ (.rg tp (.rng1 p)) σ H Q → ∀ K, (∀ lo hi H', RgK tp Q lo hi H' → K lo hi H') → tRg1 (tD X.K W φ p) σ H K := by
    intro σ H Q ⟨M, env, vr, h⟩ K hK
    have h : wpR W σ H ((((eval φ p env).rb fun x => (asInt x).rb fun i => rngF 0 i)).rb fun xs => if xs.length ≤ 1000000 then .ok (if tp then D.tup xs else D.lst xs) else .bad) (Vl X.K M H Q true) := h
    rw [rb_assoc] at h
    refine tD.use vr ((wpR.bind h).mono (Same.refl H) fun dx e1 h2 x H1 s1 r1 _ => ?_)
    rw [rb_assoc] at h2
    obtain ⟨i, e2, h3⟩ := (wpR.bind h2).okv (nx_asInt dx)
    cases dx <;> cases e2
    cases r1
    exact ⟨_, rfl, hK _ _ _ (rg_val (σ0 := σ) (vr.1.same s1) (wpR.mono h3 s1 fun d _ z => Vl.later z s1))⟩
  cases tp with
  | false => exact (pe_listRg hc g1 m1 (prg_1 g2 m2 hp (star_cons hs))).imp fun σ H Q h => key σ H Q h _ fun lo hi H' z => ⟨z.1, z.2.1 rfl⟩
  | true => exact (pe_tupRg hc g1 m1 (prg_1 g2 m2 hp (star_cons hs))).imp fun σ H Q h => key σ H Q h _ fun lo hi H' z => ⟨z.1, z.2.2 rfl⟩
theorem s_rg2 {tp : Bool} (hc : X.calm = true) (g1 : Gl X (if tp then ("tuple" : Str) else "list")) (m1 : X.mg (if tp then ("tuple" : Str) else "list") = none) (g2 : Gl X "range") (m2 : X.mg "range" = none) (hs : notStar e = true) (hs2 : notStar e2 = true) (hp : PE X e (tD X.K W φ p)) (hq : PE X e2 (tD X.K W φ q)) :
    PE X (.Call (.Name (if tp then ("tuple" : Str) else "list") p1) [.Call (.Name "range" p2) [e, e2] [] pos2] [] pos) (tD X.K W φ (.rg tp (.rng2 p q))) := by
  have key : ∀ σ H Q, tD X.K W φ (.rg tp (.rng2 p q)) σ H Q → ∀ K, (∀ lo hi H', RgK tp Q lo hi H' → K lo hi H') → tRg2 (tD X.K W φ p) (tD X.K W φ q) σ H K := by
    intro σ H Q ⟨M, env, vr, h⟩ K hK
    have h : wpR W σ H ((((eval φ p env).rb fun x => (asInt x).rb fun i => (eval φ q env).rb fun y => (asInt y).rb fun j => rngF i j)).rb fun xs => if xs.length ≤ 1000000 then .ok (if tp then D.tup xs else D.lst xs) else .bad) (Vl X.K M H Q true) := h
    rw [rb_assoc] at h
    refine tD.use vr ((wpR.bind h).mono (Same.refl H) fun dx e1 h2 x H1 s1 r1 _ => ?_)
    rw [rb_assoc] at h2
    obtain ⟨i, e2, h3⟩ := (wpR.bind h2).okv (nx_asInt dx)
    cases dx <;> cases e2
    cases r1
    rw [rb_assoc] at h3
    refine tD.use (vr.same s1) ((wpR.bind h3).mono s1 fun dy e3 h4 y H2 s2 r2 _ => ?_)
    rw [rb_assoc] at h4
    obtain ⟨j, e4, h5⟩ := (wpR.bind h4).okv (nx_asInt dy)
    cases dy <;> cases e4
    cases r2
    have s12 := s1.trans s2
    exact ⟨_, _, rfl, rfl, hK _ _ _ (rg_val (σ0 := σ) (vr.1.same s12) (wpR.mono h5 s12 fun d _ z => Vl.later z s12))⟩
  have st : (backTo pos2 (starEach [e2] X.env)).any (·.1) = false := by rw [star_cons hs2]; rfl
  cases tp with
  | false => exact (pe_listRg hc g1 m1 (prg_2 g2 m2 hp hq (star_cons hs) (star_cons hs2) st)).imp fun σ H Q h => key σ H Q h _ fun lo hi H' z => ⟨z.1, z.2.1 rfl⟩
  | true => exact (pe_tupRg hc g1 m1 (prg_2 g2 m2 hp hq (star_cons hs) (star_cons hs2) st)).imp fun σ H Q h => key σ H Q h _ fun lo hi H' z => ⟨z.1, z.2.2 rfl⟩
open Classical in
theorem s_rgZ (hc : X.calm = true) (g1 : Gl X "list") (m1 : X.mg "list" = none) (g2 : Gl X "zip") (m2 : X.mg "zip" = none) (hs : notStar e = true) (hs2 : notStar e2 = true) (hp : PE X e (tD X.K W φ p)) (hq : PE X e2 (tD X.K W φ q)) :
    PE X (.Call (.Name "list" p1) [.Call (.Name "zip" p2) [e, e2] [] pos2] [] pos) (tD X.K W φ (.rg false (.zip2 p q))) := by
  have pa : PA X [e, e2] (tCons (tD X.K W φ p) (tCons (tD X.K W φ q) tNil)) := pa_cons hp (pa_cons hq pa_nil (star_cons hs2)) (star_cons hs)
  refine (pe_listZ hc g1 m1 g2 m2 pa (star_cons hs) (by rw [star_cons hs2]; rfl)).imp fun σ H Q ⟨M, env, vr, h⟩ => ?_
  have h : wpR W σ H ((((eval φ p env).rb fun x => (eval φ q env).rb fun y => zipF x y)).rb fun xs => if xs.length ≤ 1000000 then .ok (D.lst xs) else .bad) (Vl X.K M H Q true) := h
  rw [rb_assoc] at h
  refine tD.use vr ((wpR.bind h).mono (Same.refl H) fun dx e1 h2 x H1 s1 r1 _ => ?_)
  rw [rb_assoc] at h2
  refine tD.use (vr.same s1) ((wpR.bind h2).mono s1 fun dy e3 h3 y H2 s2 r2 _ => ?_)
  obtain ⟨zs, e4, h5⟩ := (wpR.bind h3).okv (nx_zipF dx dy)
  have s12 := s1.trans s2
  have mm := vr.1.same s12
  obtain ⟨xs, ys, f1, f2, rfl⟩ := zipF_seq e4
  obtain ⟨a', k1, vs, rfl, na, ha, hr⟩ := seq_rep f1 (r1.same s2)
  obtain ⟨b', k2, ws, rfl, nb, hb, hr'⟩ := seq_rep f2 r2
  split at h5
  · rename_i hl
    have h5 : Vl X.K M H Q true (D.lst (zip2 xs ys)) := h5
    have lv := hr.length
    have lw := hr'.length
    have zm := zip2_min (xs := xs) (ys := ys)
    refine ⟨a', b', k1, k2, vs, ws, rfl, ksq_of k1 ha, ksq_of k2 hb, fun j h1 h2 => by rw [sizeLine_eq]; omega, fun L hL => ?_⟩
    have nML : ¬ M L := mm.new hL
    have G1 : ∀ b, (M b ∨ b = L) → hid M H2 b = none := fun b hb => by
      rcases hb with z | z
      · exact hid_none z
      · subst z
        unfold hid
        rw [if_neg nML]; exact hL
    refine ⟨fun i acc H' => Same H2 H' ∧ i ≤ (zip2 xs ys).length ∧ H' L = some (.lst acc) ∧ Reps X.K H' (fun b => M b ∨ b = L) ((zip2 xs ys).take i) acc, ⟨same_upd hL, Nat.zero_le _, upd_same, rfl⟩, ?_⟩
    rintro i acc H3 ⟨sI, li, eL, rA⟩
    have la := rA.length
    rw [List.length_take] at la
    have mL : MOk (fun b => M b ∨ b = L) H3 := fun b hb => hb.elim (fun z => mm.same sI b z) fun z => ⟨acc, z ▸ eL⟩
    refine ⟨eL, by omega, ksq_of k1 (sI _ _ ha), ksq_of k2 (sI _ _ hb), fun x y hx hy T hT => ?_, fun he => ?_⟩
    · have l1 := (List.getElem?_eq_some_iff.mp hx).1
      have l2 := (List.getElem?_eq_some_iff.mp hy).1
      have l3 : i < (zip2 xs ys).length := by omega
      obtain ⟨d, e, g1, g2, g3⟩ := zip2_get (List.getElem?_eq_getElem l3)
      obtain ⟨v, g4, g5⟩ := (reps_hid mm hr).get g1
      obtain ⟨w, g6, g7⟩ := (reps_hid mm hr').get g2
      rw [hx] at g4; cases g4
      rw [hy] at g6; cases g6
      have rp := pair_rep (hid_same.trans sI) hT mL G1 g5 g7
      have nT : L ≠ T := ne_of_none eL hT
      have eL4 : upd H3 T (.tup [x, y]) L = some (.lst acc) := by rw [upd_ne nT]; exact eL
      have ko : Kp (fun b => M b ∨ b = L) (fun b => M b ∨ b = L) (upd H3 T (.tup [x, y])) (upd (upd H3 T (.tup [x, y])) L (.lst (acc ++ [.ref T]))) := kp_own eL4 (.inr rfl)
      refine ⟨fun b o ob => ?_, l3, upd_same, ?_⟩
      · rw [upd_ne (ne_of_none ob hL)]
        exact same_upd hT b o (sI b o ob)
      · rw [List.take_add_one, List.getElem?_eq_getElem l3, g3]
        exact Reps.append (Reps.go ko _ _ (rA.same (same_upd hT))) (Reps.cons (Rep.go ko _ _ rp) Reps.nil)
    · have ei : i = (zip2 xs ys).length := by omega
      subst ei
      rw [List.take_length] at rA
      have kL : Kp (fun b => M b ∨ b = L) M H3 H3 := ⟨fun b o nb e => ⟨e, fun z => nb (.inl z)⟩, fun b o u e => e⟩
      exact h5 (.ref L) H3 (s12.trans sI) ⟨L, acc, rfl, nML, eL, Reps.go kL _ _ rA⟩ fun _ zs ex => by
        cases ex
        exact ⟨L, acc, rfl, s12.free hL, eL, rA⟩
  · exact absurd h5 (by first | exact id | simp [wpR])
theorem snd_t' (x : XOk C n cl W sc osc X) (hs : special p = false) (h : mE C p sc e = true) (hp : PE X e (tD X.K W φ p)) : PT X e (tDt X.K W φ p) := t_val (mE_plain hs h) hp
end
mutual
theorem snd_e : ∀ (p : Ex) {W : WS} {sc osc : Scope} {X : Cx} (e : Expr), XOk C n cl W sc osc X → mE C p sc e = true → PE X e (tD X.K W (run C.T n) p)
  | .var i, W, sc, osc, X, e, x, h => by
    cases e <;> first | (cases h; done) | skip
    simp only [mE, Bool.and_eq_true] at h
    exact s_var (by rw [x.hN]; exact of_decide_eq_true h.1.1) (by rw [x.hsc]; exact vis_of h.1.2) (okName_1 h.2) (okName_2 h.2)
  | .con d, W, sc, osc, X, e, x, h => by
    cases e <;> first | (cases h; done) | skip
    exact s_con h
  | .gl y d, W, sc, osc, X, e, x, h => by
    cases e <;> first | (cases h; done) | skip
    simp only [mE, Bool.and_eq_true] at h
    obtain ⟨⟨⟨h1, h2⟩, h3⟩, h4⟩ := h
    obtain rfl := of_decide_eq_true h1
    split at h4
    · rename_i d' e'
      obtain rfl := eqCs_ok h4
      obtain ⟨v, u, m, r, rd⟩ := x.co _ _ e'
      exact s_gl (x.gl h2) m r rd (okName_1 h3)
    · cases h4
  | .bin o p q, W, sc, osc, X, e, x, h => by
    cases e <;> first | (cases h; done) | skip
    simp only [mE, Bool.and_eq_true] at h
    obtain rfl := of_decide_eq_true h.1
    exact s_bin (snd_e p _ x h.2.1) (snd_e q _ x h.2.2)
  | .neg p, W, sc, osc, X, e, x, h => by
    cases e <;> first | (cases h; done) | skip
    rename_i op a pos
    cases op <;> first | (cases h; done) | skip
    exact s_neg (snd_e p _ x h)
  | .not p, W, sc, osc, X, e, x, h => by
    cases e <;> first | (cases h; done) | skip
    rename_i op a pos
    cases op <;> first | (cases h; done) | skip
    exact s_not (snd_e p _ x h)
  | .cmp o p q, W, sc, osc, X, e, x, h => by
    obtain ⟨l, b, pos, rfl, hm, h1, h2⟩ := cmp_of h
    exact s_cmp x.hu hm (snd_e p _ x h1) (snd_e q _ x h2)
  | .chain o o2 p q r, W, sc, osc, X, e, x, h => by
    obtain ⟨l, a, b, pos, rfl, hm, h1, h2, h3⟩ := chain_of h
    exact s_chain x.hu hm (snd_e p _ x h1) (snd_e q _ x h2) (snd_e r _ x h3)
  | .and p q, W, sc, osc, X, e, x, h => by
    obtain ⟨a, b, r, pos, rfl, h1, h2⟩ := and_of h
    cases r with
    | nil => exact s_and (snd_e p _ x h1) (pe_one (snd_e q _ x h2))
    | cons c r => exact s_and (snd_e p _ x h1) (snd_e q _ x h2)
  | .or p q, W, sc, osc, X, e, x, h => by
    obtain ⟨a, b, r, pos, rfl, h1, h2⟩ := or_of h
    cases r with
    | nil => exact s_or (snd_e p _ x h1) (pe_one (snd_e q _ x h2))
    | cons c r => exact s_or (snd_e p _ x h1) (snd_e q _ x h2)
  | .ife r p q, W, sc, osc, X, e, x, h => by
    cases e <;> first | (cases h; done) | skip
    simp only [mE, Bool.and_eq_true] at h
    exact s_ife (snd_t r _ x h.1 h.2.1) (snd_e p _ x h.2.2.1) (snd_e q _ x h.2.2.2)
  | .tup ps, W, sc, osc, X, e, x, h => by
    cases e <;> first | (cases h; done) | skip
    exact s_tup (snd_es ps _ x h)
  | .lst ps, W, sc, osc, X, e, x, h => by
    cases e <;> first | (cases h; done) | skip
    exact s_lst (snd_es ps _ x h)
  | .call i fr ps, W, sc, osc, X, e, x, h => by
    obtain ⟨f, p1, e1, es, pos, rfl, hf, hfr, h1, h2, h3⟩ := call_of h
    exact s_call x hf hfr (x.gl h1) (okName_1 h2) h3 (snd_es ps _ x h3)
  | .bi b .nil, W, sc, osc, X, e, x, h => by simp [mE] at h
  | .bi b (.cons p .nil), W, sc, osc, X, e, x, h => by
    obtain ⟨y, p1, e1, pos, rfl, h1, h2, h3, h4⟩ := bi1_of h
    have hp := snd_e p _ x h4
    cases b <;> first | (cases h2; done) | skip
    all_goals (obtain rfl := Option.some.inj h2)
    · exact s_bi1 cb_len (x.gl h1) (bu_of x (bu_mem (by decide +kernel))) (by decide +kernel) (by decide) (by decide) h3 hp (fun _ => rfl) (fun z => nomatch z)
    · exact s_bi1 (cb_sum x.calm) (x.gl h1) (bu_of x (bu_mem (by decide +kernel))) (by decide +kernel) (by decide) (by decide) h3 hp (fun _ => rfl) (fun z => nomatch z)
    · exact s_bi1 (cb_min1 x.calm x.hu) (x.gl h1) (bu_of x (bu_mem (by decide +kernel))) (by decide +kernel) (by decide) (by decide) h3 hp (fun _ => rfl) (fun z => nomatch z)
    · exact s_bi1 (cb_max1 x.calm) (x.gl h1) (bu_of x (bu_mem (by decide +kernel))) (by decide +kernel) (by decide) (by decide) h3 hp (fun _ => rfl) (fun z => nomatch z)
    · exact s_bi1 (cb_all x.calm) (x.gl h1) (bu_of x (bu_mem (by decide +kernel))) (by decide +kernel) (by decide) (by decide) h3 hp (fun _ => rfl) (fun z => nomatch z)
    · exact s_bi1 (cb_any x.calm) (x.gl h1) (bu_of x (bu_mem (by decide +kernel))) (by decide +kernel) (by decide) (by decide) h3 hp (fun _ => rfl) (fun z => nomatch z)
    · exact s_bi1 (cb_sorted x.hu) (x.gl h1) (bu_of x (bu_mem (by decide +kernel))) (by decide +kernel) (by decide) (by decide) h3 hp (fun _ => rfl) (fun _ => rfl)
    · exact s_biT cb_tuple (x.gl h1) (bu_of x (bu_mem (by decide +kernel))) (by decide +kernel) (by decide) (by decide) h3 hp (fun _ => rfl) (fun z => nomatch z)
    · exact s_biT cb_list (x.gl h1) (bu_of x (bu_mem (by decide +kernel))) (by decide +kernel) (by decide) (by decide) h3 hp (fun _ => rfl) (fun _ => rfl)
  | .bi b (.cons p (.cons q .nil)), W, sc, osc, X, e, x, h => by
    obtain ⟨y, p1, e1, e2, pos, rfl, h1, h2, h3, h4, h5, h6⟩ := bi2_of h
    have hp := snd_e p _ x h5
    have hq := snd_e q _ x h6
    cases b <;> first | (cases h2; done) | skip
    all_goals (obtain rfl := of_decide_eq_true h2)
    · exact s_bi2 (cb_min2 x.calm) (x.gl h1) (bu_of x (bu_mem (by decide +kernel))) (by decide +kernel) (by decide) (by decide) h3 h4 hp hq (fun _ _ => rfl) rfl
    · exact s_bi2 (cb_max2 x.calm) (x.gl h1) (bu_of x (bu_mem (by decide +kernel))) (by decide +kernel) (by decide) (by decide) h3 h4 hp hq (fun _ _ => rfl) rfl
  | .bi b (.cons p (.cons q (.cons r s))), W, sc, osc, X, e, x, h => by simp [mE] at h
  | .isI t p, W, sc, osc, X, e, x, h => by
    obtain ⟨m, p1, e1, p2, pos, rfl, h1, h2, h3, h4, h5⟩ := isI_of h
    have hp := snd_e p _ x h5
    cases t <;> first | (cases h1; done) | skip
    all_goals (obtain rfl := Option.some.inj h1)
    all_goals exact s_isI rfl (by decide +kernel) (by decide) (by decide) (x.gl h2) (bu_of x (bu_mem (by decide +kernel))) (x.gl h3) (bu_of x (bu_mem (by decide +kernel))) h4 hp
  | .me m o .nil, W, sc, osc, X, e, x, h => by simp [mE] at h
  | .me m o (.cons p .nil), W, sc, osc, X, e, x, h => by
    obtain ⟨a, y, p1, e1, pos, rfl, h1, h2, h3, h4, h5, h6⟩ := me_of h
    have ho := snd_e o _ x h5
    have hp := snd_e p _ x h6
    cases m <;> first | (cases h1; done) | skip
    all_goals (obtain rfl := of_decide_eq_true h1)
    · exact s_me1 (g := countF) PySem.F.slot_list_count PySem.F.type_list_count mb_count (fun _ _ => by rename_i d y; cases d <;> rfl) (fun d r z => by cases d <;> first | (cases z; done) | exact ⟨_, rfl⟩) h3 h2 h4 ho hp
    · exact s_me1 (g := indexF) PySem.F.slot_list_index PySem.F.type_list_index mb_index (fun _ _ => by rename_i d y; cases d <;> rfl) (fun d r z => by cases d <;> first | (cases z; done) | exact ⟨_, rfl⟩) h3 h2 h4 ho hp
  | .me m o (.cons p (.cons q s)), W, sc, osc, X, e, x, h => by simp [mE] at h
  | .sl p lo hi, W, sc, osc, X, e, x, h => by
    obtain ⟨a, l, hh, p1, p2, rfl, h1, h2, h3⟩ := sl_of h
    exact s_sl (snd_e p _ x h1) (snd_o lo _ x h2) (snd_o hi _ x h3)
  | .rev p, W, sc, osc, X, e, x, h => by
    obtain ⟨a, k, p1, p2, p3, p4, rfl, h1⟩ := rev_of h
    exact s_rev (pos3 := p3) (pos4 := p3) (snd_e p _ x h1)
  | .ix p q, W, sc, osc, X, e, x, h => by
    cases e <;> first | (cases h; done) | skip
    simp only [mE, Bool.and_eq_true] at h
    exact s_ix h.1 (snd_e p _ x h.2.1) (snd_e q _ x h.2.2)
  | .sset p, W, sc, osc, X, e, x, h => by
    obtain ⟨e1, p1, p2, p3, p4, rfl, h1, h2, h3, h4⟩ := ss_of h
    exact s_ss x.calm x.hu (x.gl h1) (bu_of x (bu_mem (by decide +kernel))) (x.gl h2) (bu_of x (bu_mem (by decide +kernel))) h3 (snd_e p _ x h4)
  | .lset p, W, sc, osc, X, e, x, h => by
    obtain ⟨e1, p1, p2, p3, p4, rfl, h1, h2, h3, h4⟩ := ls_of h
    exact s_ls x.calm (x.gl h1) (bu_of x (bu_mem (by decide +kernel))) (x.gl h2) (bu_of x (bu_mem (by decide +kernel))) h3 (snd_e p _ x h4)
  | .rg tp (.ex p), W, sc, osc, X, e, x, h => by simp [mE] at h
  | .rg tp (.rng1 p), W, sc, osc, X, e, x, h => by
    obtain ⟨e1, p1, p2, p3, p4, rfl, h1, h2, h3, h4⟩ := rg1_of h
    exact s_rg1 x.calm (x.gl h1) (bu_of x (bu_mem (by cases tp <;> decide +kernel))) (x.gl h2) (bu_of x (bu_mem (by decide +kernel))) h3 (snd_e p _ x h4)
  | .rg tp (.rng2 p q), W, sc, osc, X, e, x, h => by
    obtain ⟨e1, e2, p1, p2, p3, p4, rfl, h1, h2, h3, h4, h5, h6⟩ := rg2_of h
    exact s_rg2 x.calm (x.gl h1) (bu_of x (bu_mem (by cases tp <;> decide +kernel))) (x.gl h2) (bu_of x (bu_mem (by decide +kernel))) h3 h4 (snd_e p _ x h5) (snd_e q _ x h6)
  | .rg tp (.rng3 p q r), W, sc, osc, X, e, x, h => by simp [mE] at h
  | .rg tp (.zip2 p q), W, sc, osc, X, e, x, h => by
    obtain ⟨rfl, e1, e2, p1, p2, p3, p4, rfl, h1, h2, h3, h4, h5, h6⟩ := rgz_of h
    exact s_rgZ x.calm (x.gl h1) (bu_of x (bu_mem (by decide +kernel))) (x.gl h2) (bu_of x (bu_mem (by decide +kernel))) h3 h4 (snd_e p _ x h5) (snd_e q _ x h6)
  | .rg tp (.zip3 p q r), W, sc, osc, X, e, x, h => by simp [mE] at h
  | .rg tp (.enum p), W, sc, osc, X, e, x, h => by simp [mE] at h
  | .comp elt own tg it cond, W, sc, osc, X, e, x, h => by
    obtain ⟨e1, t, i, ifs, scope, pos, rfl, h1, h2, h3, h4, h5, h6, h7⟩ := comp_of h
    refine s_comp x h1 h4 (mI_set h5) (snd_I it t i x h3 h5) (fun s H A cl' fp => ?_) (fun s H A cl' fp => ?_) (fun s H A cl' fp => ?_)
    · have b := x.blk s H scope A cl' fp
      exact s_tg b.hN b.nd b.calm (fun y hy => by rw [b.hsc]; exact b.tg y hy) tg t h2
    · exact snd_c cond _ (x.blk s H scope A cl' fp) h7
    · exact snd_e elt _ (x.blk s H scope A cl' fp) h6
theorem snd_t : ∀ (p : Ex) {W : WS} {sc osc : Scope} {X : Cx} (e : Expr), XOk C n cl W sc osc X → tstE p = true → mE C p sc e = true → PT X e (tDt X.K W (run C.T n) p)
  | .ife r p q, W, sc, osc, X, e, x, ht, h => by cases ht
  | .and p q, W, sc, osc, X, e, x, ht, h => by
    obtain ⟨a, b, r, pos, rfl, h1, h2⟩ := and_of h
    simp only [tstE, Bool.and_eq_true] at ht
    cases r with
    | nil => exact PW.pt (t_and (snd_t p _ x ht.1 h1) (pw_and1 (snd_t q _ x ht.2 h2)))
    | cons c r => exact PW.pt (t_and (snd_t p _ x ht.1 h1) (snd_w q _ _ _ x ht.2 h2))
  | .or p q, W, sc, osc, X, e, x, ht, h => by
    obtain ⟨a, b, r, pos, rfl, h1, h2⟩ := or_of h
    simp only [tstE, Bool.and_eq_true] at ht
    cases r with
    | nil => exact PW.pt (t_or (snd_t p _ x ht.1 h1) (pw_or1 (snd_t q _ x ht.2 h2)))
    | cons c r => exact PW.pt (t_or (snd_t p _ x ht.1 h1) (snd_w q _ _ _ x ht.2 h2))
  | .not p, W, sc, osc, X, e, x, ht, h => by
    cases e <;> first | (cases h; done) | skip
    rename_i op a pos
    cases op <;> first | (cases h; done) | skip
    exact t_not (snd_t p _ x ht h)
  | .cmp o p q, W, sc, osc, X, e, x, ht, h => by
    obtain ⟨l, b, pos, rfl, hm, h1, h2⟩ := cmp_of h
    exact t_cmp x.hu hm (snd_e p _ x h1) (snd_e q _ x h2)
  | .chain o o2 p q r, W, sc, osc, X, e, x, ht, h => by
    obtain ⟨l, a, b, pos, rfl, hm, h1, h2, h3⟩ := chain_of h
    exact t_chain x.hu hm (snd_e p _ x h1) (snd_e q _ x h2) (snd_e r _ x h3)
  | .var i, W, sc, osc, X, e, x, ht, h => t_val (mE_plain rfl h) (snd_e _ _ x h)
  | .con d, W, sc, osc, X, e, x, ht, h => t_val (mE_plain rfl h) (snd_e _ _ x h)
  | .gl y d, W, sc, osc, X, e, x, ht, h => t_val (mE_plain rfl h) (snd_e _ _ x h)
  | .bin o p q, W, sc, osc, X, e, x, ht, h => t_val (mE_plain rfl h) (snd_e _ _ x h)
  | .neg p, W, sc, osc, X, e, x, ht, h => t_val (mE_plain rfl h) (snd_e _ _ x h)
  | .tup ps, W, sc, osc, X, e, x, ht, h => t_val (mE_plain rfl h) (snd_e _ _ x h)
  | .lst ps, W, sc, osc, X, e, x, ht, h => t_val (mE_plain rfl h) (snd_e _ _ x h)
  | .call i fr ps, W, sc, osc, X, e, x, ht, h => t_val (mE_plain rfl h) (snd_e _ _ x h)
  | .bi b ps, W, sc, osc, X, e, x, ht, h => t_val (mE_plain rfl h) (snd_e _ _ x h)
  | .isI t p, W, sc, osc, X, e, x, ht, h => t_val (mE_plain rfl h) (snd_e _ _ x h)
  | .me m o ps, W, sc, osc, X, e, x, ht, h => t_val (mE_plain rfl h) (snd_e _ _ x h)
  | .ix p q, W, sc, osc, X, e, x, ht, h => t_val (mE_plain rfl h) (snd_e _ _ x h)
  | .sl p lo hi, W, sc, osc, X, e, x, ht, h => t_val (mE_plain rfl h) (snd_e _ _ x h)
  | .rev p, W, sc, osc, X, e, x, ht, h => t_val (mE_plain rfl h) (snd_e _ _ x h)
  | .sset p, W, sc, osc, X, e, x, ht, h => t_val (mE_plain rfl h) (snd_e _ _ x h)
  | .lset p, W, sc, osc, X, e, x, ht, h => t_val (mE_plain rfl h) (snd_e _ _ x h)
  | .rg tp it, W, sc, osc, X, e, x, ht, h => t_val (mE_plain rfl h) (snd_e _ _ x h)
  | .comp elt own tg it cond, W, sc, osc, X, e, x, ht, h => t_val (mE_plain rfl h) (snd_e _ _ x h)
theorem snd_w : ∀ (p : Ex) {W : WS} {sc osc : Scope} {X : Cx} (op : PySem.BoolOp) (es : List Expr) (pos : Pos), XOk C n cl W sc osc X → tstE p = true → mE C p sc (.BoolOp op es pos) = true → PW X (.BoolOp op es pos) (tDt X.K W (run C.T n) p)
  | .and p q, W, sc, osc, X, op, es, pos, x, ht, h => by
    obtain ⟨a, b, r, pos, e', h1, h2⟩ := and_of h
    cases e'
    simp only [tstE, Bool.and_eq_true] at ht
    cases r with
    | nil => exact t_and (snd_t p _ x ht.1 h1) (pw_and1 (snd_t q _ x ht.2 h2))
    | cons c r => exact t_and (snd_t p _ x ht.1 h1) (snd_w q _ _ _ x ht.2 h2)
  | .or p q, W, sc, osc, X, op, es, pos, x, ht, h => by
    obtain ⟨a, b, r, pos, e', h1, h2⟩ := or_of h
    cases e'
    simp only [tstE, Bool.and_eq_true] at ht
    cases r with
    | nil => exact t_or (snd_t p _ x ht.1 h1) (pw_or1 (snd_t q _ x ht.2 h2))
    | cons c r => exact t_or (snd_t p _ x ht.1 h1) (snd_w q _ _ _ x ht.2 h2)
  | .ife r p q, W, sc, osc, X, op, es, pos, x, ht, h => by simp [mE] at h
  | .not p, W, sc, osc, X, op, es, pos, x, ht, h => by simp [mE] at h
  | .cmp o p q, W, sc, osc, X, op, es, pos, x, ht, h => by simp [mE] at h
  | .chain o o2 p q r, W, sc, osc, X, op, es, pos, x, ht, h => by simp [mE] at h
  | .var i, W, sc, osc, X, op, es, pos, x, ht, h => by simp [mE] at h
  | .con d, W, sc, osc, X, op, es, pos, x, ht, h => by simp [mE] at h
  | .gl y d, W, sc, osc, X, op, es, pos, x, ht, h => by simp [mE] at h
  | .bin o p q, W, sc, osc, X, op, es, pos, x, ht, h => by simp [mE] at h
  | .neg p, W, sc, osc, X, op, es, pos, x, ht, h => by simp [mE] at h
  | .tup ps, W, sc, osc, X, op, es, pos, x, ht, h => by simp [mE] at h
  | .lst ps, W, sc, osc, X, op, es, pos, x, ht, h => by simp [mE] at h
  | .call i fr ps, W, sc, osc, X, op, es, pos, x, ht, h => by simp [mE] at h
  | .isI t p, W, sc, osc, X, op, es, pos, x, ht, h => by simp [mE] at h
  | .me m o ps, W, sc, osc, X, op, es, pos, x, ht, h => by simp [mE] at h
  | .ix p q, W, sc, osc, X, op, es, pos, x, ht, h => by simp [mE] at h
  | .sl p lo hi, W, sc, osc, X, op, es, pos, x, ht, h => by simp [mE] at h
  | .rev p, W, sc, osc, X, op, es, pos, x, ht, h => by simp [mE] at h
  | .sset p, W, sc, osc, X, op, es, pos, x, ht, h => by simp [mE] at h
  | .lset p, W, sc, osc, X, op, es, pos, x, ht, h => by simp [mE] at h
  | .comp elt own tg it cond, W, sc, osc, X, op, es, pos, x, ht, h => by simp [mE] at h
  | .bi b .nil, W, sc, osc, X, op, es, pos, x, ht, h => by simp [mE] at h
  | .bi b (.cons p .nil), W, sc, osc, X, op, es, pos, x, ht, h => by simp [mE] at h
  | .bi b (.cons p (.cons q .nil)), W, sc, osc, X, op, es, pos, x, ht, h => by simp [mE] at h
  | .bi b (.cons p (.cons q (.cons r s))), W, sc, osc, X, op, es, pos, x, ht, h => by simp [mE] at h
  | .rg tp it, W, sc, osc, X, op, es, pos, x, ht, h => by cases it <;> simp [mE] at h
theorem snd_es : ∀ (ps : Exs) {W : WS} {sc osc : Scope} {X : Cx} (es : List Expr), XOk C n cl W sc osc X → mEs C ps sc es = true → PA X es (tDs X.K W (run C.T n) ps)
  | .nil, W, sc, osc, X, es, x, h => by
    cases es with
    | nil => exact s_nil
    | cons e es => cases h
  | .cons p ps, W, sc, osc, X, es, x, h => by
    cases es with
    | nil => cases h
    | cons e es =>
      simp only [mEs, Bool.and_eq_true] at h
      exact s_cons h.1 (snd_e p _ x h.2.1) (snd_es ps _ x h.2.2)
theorem snd_o : ∀ (o : Eo) {W : WS} {sc osc : Scope} {X : Cx} (e : Option Expr), XOk C n cl W sc osc X → mO C o sc e = true → PO X e (tDo X.K W (run C.T n) o)
  | .no, W, sc, osc, X, e, x, h => by
    cases e with
    | none => exact s_noO
    | some e => cases h
  | .so p, W, sc, osc, X, e, x, h => by
    cases e with
    | none => cases h
    | some e => exact s_soO (snd_e p _ x h)
theorem snd_c : ∀ (o : Eo) {W : WS} {sc osc : Scope} {X : Cx} (es : List Expr), XOk C n cl W sc osc X → mC C o sc es = true → PTs X es (tDc X.K W (run C.T n) o)
  | .no, W, sc, osc, X, es, x, h => by
    cases es with
    | nil => exact t_pts0
    | cons e es => cases h
  | .so p, W, sc, osc, X, es, x, h => by
    cases es with
    | nil => cases h
    | cons e es => cases es with
      | cons _ _ => cases h
      | nil =>
        simp only [mC, Bool.and_eq_true] at h
        exact t_pts1 (snd_t p _ x h.1 h.2)
theorem snd_I : ∀ (it : PL.It) {W : WS} {sc osc : Scope} {X : Cx} (tg e : Expr), XOk C n cl W sc osc X → tgOk it tg = true → mI C it sc e = true → PI X tg e (tDi X.K W (run C.T n) it)
  | .ex p, W, sc, osc, X, tg, e, x, ht, h => by
    simp only [mI, Bool.and_eq_true] at h
    exact i_ex (snd_e p _ x h.2)
  | .rng1 p, W, sc, osc, X, tg, e, x, ht, h => by
    obtain ⟨a, p1, p2, rfl, h1, h2, h3⟩ := mrng1_of h
    exact i_rng1 (x.gl h1) (bu_of x (bu_mem (by decide +kernel))) h2 (snd_e p _ x h3)
  | .rng2 p q, W, sc, osc, X, tg, e, x, ht, h => by
    obtain ⟨a, b, p1, p2, rfl, h1, h2, h3, h4, h5⟩ := mrng2_of h
    exact i_rng2 (x.gl h1) (bu_of x (bu_mem (by decide +kernel))) h2 h3 (snd_e p _ x h4) (snd_e q _ x h5)
  | .rng3 p q r, W, sc, osc, X, tg, e, x, ht, h => by
    obtain ⟨a, b, c, p1, p2, rfl, h1, h2, h3, h4, h5, h6, h7⟩ := mrng3_of h
    exact tDi_R (i_rng3R (x.gl h1) (bu_of x (bu_mem (by decide +kernel))) h2 h3 h4 (snd_e p _ x h5) (snd_e q _ x h6) (snd_e r _ x h7))
  | .zip2 p q, W, sc, osc, X, tg, e, x, ht, h => by
    obtain ⟨a, b, p1, p2, rfl, h1, h2, h3, h4, h5⟩ := mzip2_of h
    cases tg <;> first | (cases ht; done) | skip
    exact i_zip2 (x.gl h1) (bu_of x (bu_mem (by decide +kernel))) h2 h3 (snd_e p _ x h4) (snd_e q _ x h5)
  | .zip3 p q r, W, sc, osc, X, tg, e, x, ht, h => by
    obtain ⟨a, b, c, p1, p2, rfl, h1, h2, h3, h4, h5, h6, h7⟩ := mzip3_of h
    cases tg <;> first | (cases ht; done) | skip
    exact i_zip3 (x.gl h1) (bu_of x (bu_mem (by decide +kernel))) h2 h3 h4 (snd_e p _ x h5) (snd_e q _ x h6) (snd_e r _ x h7)
  | .enum p, W, sc, osc, X, tg, e, x, ht, h => by simp [mI] at h
end
theorem snd_IR (it : PL.It) {W : WS} {sc osc : Scope} {X : Cx} (tg e : Expr) (x : XOk C n cl W sc osc X) (hr : isRng it = true) (h : mI C it sc e = true) : PI X tg e (tDiR X.K W (run C.T n) it) := by
  cases it with
  | ex p => cases hr
  | rng1 p =>
    obtain ⟨a, p1, p2, rfl, h1, h2, h3⟩ := mrng1_of h
    exact i_rng1R (x.gl h1) (bu_of x (bu_mem (by decide +kernel))) h2 (snd_e p _ x h3)
  | rng2 p q =>
    obtain ⟨a, b, p1, p2, rfl, h1, h2, h3, h4, h5⟩ := mrng2_of h
    exact i_rng2R (x.gl h1) (bu_of x (bu_mem (by decide +kernel))) h2 h3 (snd_e p _ x h4) (snd_e q _ x h5)
  | rng3 p q r =>
    obtain ⟨a, b, c, p1, p2, rfl, h1, h2, h3, h4, h5, h6, h7⟩ := mrng3_of h
    exact i_rng3R (x.gl h1) (bu_of x (bu_mem (by decide +kernel))) h2 h3 h4 (snd_e p _ x h5) (snd_e q _ x h6) (snd_e r _ x h7)
  | zip2 p q => cases hr
  | zip3 p q r => cases hr
  | enum p => cases hr
end PL
-- C13
set_option Elab.async false
set_option linter.all false
set_option maxRecDepth 100000
set_option maxHeartbeats 4000000
/-! C13: the state of a def's body by data: slots shared or owned. -/
namespace PL
open PySem PySem.Spec PyProof.Rows L2
variable {K : PySem.W.Frag} {H H' H1 H2 G : Hp} {M M' : Addr → Prop} {A A1 : Nat → Addr} {σ : L2.St} {env : SE}
/-- the masked addresses: the caller's and the owned lists -/
def OM (M : Addr → Prop) (A : Nat → Addr) (env : SE) (a : Addr) : Prop := M a ∨ ∃ (i : Nat) (xs : List D), env[i]? = some (.own xs) ∧ A i = a
structure SR (K : PySem.W.Frag) (M : Addr → Prop) (G : Hp) (A : Nat → Addr) (H : Hp) (σ : L2.St) (env : SE) : Prop where
  m : MOk M H
  g : Same G H
  len : σ.length = env.length
  ow : ∀ (i : Nat) (xs : List D), env[i]? = some (.own xs) → σ[i]? = some (some (.ref (A i))) ∧ G (A i) = none ∧ ¬ M (A i) ∧ ∃ vs, H (A i) = some (.lst vs) ∧ Reps K H (OM M A env) xs vs
  inj : ∀ (i j : Nat) (xs ys : List D), env[i]? = some (.own xs) → env[j]? = some (.own ys) → A i = A j → i = j
  sh : ∀ (i : Nat) (d : D), env[i]? = some (.sh d) → ∃ v, σ[i]? = some (some v) ∧ Rep K H (OM M A env) d v
theorem SR.om (r : SR K M G A H σ env) : MOk (OM M A env) H := fun a h => by
  rcases h with h | ⟨i, xs, e, rfl⟩
  · exact r.m a h
  · obtain ⟨_, _, _, vs, e2, _⟩ := r.ow i xs e
    exact ⟨vs, e2⟩
theorem kp_sub (h : ∀ a o, ¬ M a → H a = some o → ¬ M' a) : Kp M M' H H := ⟨fun a o n e => ⟨e, h a o n e⟩, fun a o u e => e⟩
theorem SR.same (r : SR K M G A H σ env) (s : Same H H1) : SR K M G A H1 σ env where
  m := r.m.same s
  g := r.g.trans s
  len := r.len
  ow := fun i xs e => by
    obtain ⟨e1, e2, e3, vs, e4, e5⟩ := r.ow i xs e
    exact ⟨e1, e2, e3, vs, s _ _ e4, e5.same s⟩
  inj := r.inj
  sh := fun i d e => by
    obtain ⟨v, e1, e2⟩ := r.sh i d e
    exact ⟨v, e1, e2.same s⟩
theorem map_get {f : Sl → Option D} {i : Nat} {d : D} (h : (env.map f)[i]? = some (some d)) : ∃ s, env[i]? = some s ∧ f s = some d := by
  rw [List.getElem?_map] at h
  cases q : env[i]? with
  | none => rw [q] at h; cases h
  | some s => rw [q] at h; exact ⟨s, rfl, Option.some.inj h⟩
theorem SR.fg (r : SR K M G A H σ env) : VRel K (OM M A env) H σ (env.map Sl.fg) := ⟨r.om, by rw [List.length_map]; exact r.len, fun i d h => by
  obtain ⟨s, e, es⟩ := map_get h
  cases s <;> cases es
  exact r.sh i d e⟩
theorem SR.vw (r : SR K M G A H σ env) : VRel K M H σ (env.map Sl.vw) := ⟨r.m, by rw [List.length_map]; exact r.len, fun i d h => by
  have k : Kp (OM M A env) M H H := kp_sub fun a o n _ z => n (.inl z)
  obtain ⟨s, e, es⟩ := map_get h
  cases s <;> cases es
  · obtain ⟨v, e1, e2⟩ := r.sh i d e
    exact ⟨v, e1, Rep.go k _ _ e2⟩
  · rename_i xs
    obtain ⟨e1, _, e3, vs, e4, e5⟩ := r.ow i xs e
    exact ⟨_, e1, A i, vs, rfl, e3, e4, Reps.go k _ _ e5⟩⟩
theorem SR.weak {G0 : Hp} (r : SR K M G A H σ env) (s : Same G0 G) : SR K M G0 A H σ env where
  m := r.m
  g := s.trans r.g
  len := r.len
  ow := fun i xs e => by
    obtain ⟨e1, e2, e3, e4⟩ := r.ow i xs e
    exact ⟨e1, s.free e2, e3, e4⟩
  inj := r.inj
  sh := r.sh
/-- the owned lists -/
def OW (A : Nat → Addr) (env : SE) (a : Addr) : Prop := ∃ (i : Nat) (xs : List D), env[i]? = some (.own xs) ∧ A i = a
open Classical in
theorem SR.strong (r : SR K M G A H σ env) : SR K M (hid (OW A env) H) A H σ env where
  m := r.m
  g := hid_same
  len := r.len
  ow := fun i xs e => by
    obtain ⟨e1, e2, e3, e4⟩ := r.ow i xs e
    exact ⟨e1, hid_none ⟨i, xs, e, rfl⟩, e3, e4⟩
  inj := r.inj
  sh := r.sh
open Classical in
theorem SR.gh (r : SR K M G A H σ env) : Same G (hid (OW A env) H) := fun a o e => by
  refine hid_at ?_ (r.g a o e)
  rintro ⟨i, xs, e1, rfl⟩
  obtain ⟨_, e2, _⟩ := r.ow i xs e1
  rw [e2] at e; cases e
theorem set_get {α : Type} {l : List α} {i j : Nat} {s t : α} (h : (l.set i s)[j]? = some t) : (i = j ∧ i < l.length ∧ s = t) ∨ (i ≠ j ∧ l[j]? = some t) := by
  by_cases e : i = j
  · subst e
    by_cases hl : i < l.length
    · rw [List.getElem?_set_self hl] at h
      exact .inl ⟨rfl, hl, Option.some.inj h⟩
    · rw [List.getElem?_eq_none (by rw [List.length_set]; omega)] at h; cases h
  · rw [List.getElem?_set_ne e] at h
    exact .inr ⟨e, h⟩
/-- a slot stops being looked at -/
theorem SR.no (r : SR K M G A H σ env) (i : Nat) : SR K M G A H σ (env.set i .no) := by
  have k : Kp (OM M A env) (OM M A (env.set i .no)) H H := kp_sub fun a o n _ z => n (by
    rcases z with z | ⟨j, xs, e, ea⟩
    · exact .inl z
    · rcases set_get e with ⟨_, _, z⟩ | ⟨_, z⟩
      · cases z
      · exact .inr ⟨j, xs, z, ea⟩)
  refine ⟨r.m, r.g, by rw [List.length_set]; exact r.len, fun j xs e => ?_, fun j l xs ys e e' ea => ?_, fun j d e => ?_⟩
  · rcases set_get e with ⟨_, _, z⟩ | ⟨_, z⟩
    · cases z
    · obtain ⟨e1, e2, e3, vs, e4, e5⟩ := r.ow j xs z
      exact ⟨e1, e2, e3, vs, e4, Reps.go k _ _ e5⟩
  · rcases set_get e with ⟨_, _, z⟩ | ⟨_, z⟩
    · cases z
    · rcases set_get e' with ⟨_, _, z'⟩ | ⟨_, z'⟩
      · cases z'
      · exact r.inj j l xs ys z z' ea
  · rcases set_get e with ⟨_, _, z⟩ | ⟨_, z⟩
    · cases z
    · obtain ⟨v, e1, e2⟩ := r.sh j d z
      exact ⟨v, e1, Rep.go k _ _ e2⟩
theorem SR.kl : ∀ (l : List Nat) {env : SE} (r : SR K M G A H σ env), SR K M G A H σ (PL.kl l env)
  | [], _, r => r
  | i :: l, _, r => SR.kl l (r.no i)
/-- a value is stored -/
theorem SR.put {ow : Bool} {d : D} {s : Sl} {v : V} (r : SR K M G A H σ env) (s1 : Same H H1) (rv : Rep K H1 (OM M A env) d v) (fr : ow = true → Fr K H H1 (OM M A env) d v) (hs : mkS ow d = .ok s) (i : Nat) :
    ∃ A1, SR K M G A1 H1 (σ.set i (some v)) (env.set i s) ∧ Kp (OM M A env) (OM M A1 (env.set i s)) H H1 := by
  have r1 := r.same s1
  cases ow with
  | false =>
    cases hs
    have sub : ∀ a, OM M A (env.set i (.sh d)) a → OM M A env a := fun a z => by
      rcases z with z | ⟨j, xs, e, ea⟩
      · exact .inl z
      · rcases set_get e with ⟨_, _, z⟩ | ⟨_, z⟩
        · cases z
        · exact .inr ⟨j, xs, z, ea⟩
    have k : Kp (OM M A env) (OM M A (env.set i (.sh d))) H1 H1 := kp_sub fun a o n _ z => n (sub a z)
    refine ⟨A, ⟨r1.m, r1.g, by rw [List.length_set, List.length_set]; exact r1.len, fun j xs e => ?_, fun j l xs ys e e' ea => ?_, fun j d' e => ?_⟩, ⟨fun a o n e => ⟨s1 a o e, fun z => n (sub a z)⟩, fun a o u e => s1 a _ e⟩⟩
    · rcases set_get e with ⟨_, _, z⟩ | ⟨ne, z⟩
      · cases z
      · obtain ⟨e1, e2, e3, vs, e4, e5⟩ := r1.ow j xs z
        exact ⟨by rw [List.getElem?_set_ne ne]; exact e1, e2, e3, vs, e4, Reps.go k _ _ e5⟩
    · rcases set_get e with ⟨_, _, z⟩ | ⟨_, z⟩
      · cases z
      · rcases set_get e' with ⟨_, _, z'⟩ | ⟨_, z'⟩
        · cases z'
        · exact r1.inj j l xs ys z z' ea
    · rcases set_get e with ⟨rfl, hl, z⟩ | ⟨ne, z⟩
      · cases z
        exact ⟨v, by rw [List.getElem?_set_self (by rw [r1.len]; exact hl)], Rep.go k _ _ rv⟩
      · obtain ⟨v', e1, e2⟩ := r1.sh j d' z
        exact ⟨v', by rw [List.getElem?_set_ne ne]; exact e1, Rep.go k _ _ e2⟩
  | true =>
    cases d <;> first | (cases hs; done) | skip
    rename_i xs
    cases hs
    obtain ⟨L, vs, rfl, hL, hL1, rL⟩ := fr rfl xs rfl
    have nM : ¬ M L := r.m.new hL
    have nO : ¬ OM M A env L := r.om.new hL
    have gL : G L = none := r.g.free hL
    have at1 : ∀ j, (fun j => if j = i then L else A j) j = if j = i then L else A j := fun _ => rfl
    have sub : ∀ a, OM M (fun j => if j = i then L else A j) (env.set i (.own xs)) a → OM M A env a ∨ a = L := fun a z => by
      rcases z with z | ⟨j, ys, e, ea⟩
      · exact .inl (.inl z)
      · rcases set_get e with ⟨rfl, _, z⟩ | ⟨ne, z⟩
        · rw [at1, if_pos rfl] at ea; exact .inr ea.symm
        · rw [at1, if_neg (Ne.symm ne)] at ea
          exact .inl (.inr ⟨j, ys, z, ea⟩)
    have k : Kp (OM M A env) (OM M (fun j => if j = i then L else A j) (env.set i (.own xs))) H H1 :=
      ⟨fun a o n e => ⟨s1 a o e, fun z => (sub a z).elim n fun z => by rw [z, hL] at e; cases e⟩, fun a o u e => s1 a _ e⟩
    have kL : Kp (fun b => OM M A env b ∨ b = L) (OM M (fun j => if j = i then L else A j) (env.set i (.own xs))) H1 H1 := kp_sub fun a o n e z => n (sub a z)
    refine ⟨fun j => if j = i then L else A j, ⟨r1.m, r1.g, by rw [List.length_set, List.length_set]; exact r1.len, fun j ys e => ?_, fun j l ys zs e e' ea => ?_, fun j d' e => ?_⟩, k⟩
    · rcases set_get e with ⟨rfl, hl, z⟩ | ⟨ne, z⟩
      · cases z
        refine ⟨by rw [List.getElem?_set_self (by rw [r1.len]; exact hl), if_pos rfl], by rw [if_pos rfl]; exact gL, by rw [if_pos rfl]; exact nM, vs, by rw [if_pos rfl]; exact hL1, Reps.go kL _ _ rL⟩
      · obtain ⟨e1, e2, e3, ws, e4, e5⟩ := r.ow j ys z
        refine ⟨by rw [List.getElem?_set_ne ne, if_neg (Ne.symm ne)]; exact e1, by rw [if_neg (Ne.symm ne)]; exact e2, by rw [if_neg (Ne.symm ne)]; exact e3, ws, by rw [if_neg (Ne.symm ne)]; exact s1 _ _ e4, Reps.go k _ _ e5⟩
    · have ea : (if j = i then L else A j) = if l = i then L else A l := ea
      rcases set_get e with ⟨rfl, _, z⟩ | ⟨ne, z⟩
      · rcases set_get e' with ⟨e2, _, z'⟩ | ⟨ne', z'⟩
        · exact e2
        · rw [if_pos rfl, if_neg (Ne.symm ne')] at ea
          exact absurd (.inr ⟨l, zs, z', ea.symm⟩) nO
      · rcases set_get e' with ⟨rfl, _, z'⟩ | ⟨ne', z'⟩
        · rw [if_pos rfl, if_neg (Ne.symm ne)] at ea
          exact absurd (.inr ⟨j, ys, z, ea⟩) nO
        · rw [if_neg (Ne.symm ne), if_neg (Ne.symm ne')] at ea
          exact r.inj j l ys zs z z' ea
    · rcases set_get e with ⟨_, _, z⟩ | ⟨ne, z⟩
      · cases z
      · obtain ⟨v', e1, e2⟩ := r.sh j d' z
        exact ⟨v', by rw [List.getElem?_set_ne ne]; exact e1, Rep.go k _ _ e2⟩
/-- an owned list is changed -/
theorem SR.mut {i : Nat} {xs ys : List D} {vs : List V} (r : SR K M G A H σ env) (e : env[i]? = some (.own xs)) (hr : Reps K H (OM M A env) ys vs) : SR K M G A (upd H (A i) (.lst vs)) σ (env.set i (.own ys)) := by
  obtain ⟨e1, e2, e3, ws, e4, e5⟩ := r.ow i xs e
  have hi : i < env.length := by
    by_cases h : i < env.length
    · exact h
    · rw [List.getElem?_eq_none (by omega)] at e; cases e
  have own : ∀ (j : Nat) (zs : List D), (env.set i (Sl.own ys))[j]? = some (Sl.own zs) → ∃ zs', env[j]? = some (Sl.own zs') := fun j zs h => by
    rcases set_get h with ⟨rfl, _, _⟩ | ⟨_, z⟩
    · exact ⟨xs, e⟩
    · exact ⟨zs, z⟩
  have sub : ∀ a, OM M A (env.set i (.own ys)) a → OM M A env a := fun a z => by
    rcases z with z | ⟨j, zs, h, ea⟩
    · exact .inl z
    · obtain ⟨zs', h'⟩ := own j zs h
      exact .inr ⟨j, zs', h', ea⟩
  have k : Kp (OM M A env) (OM M A (env.set i (.own ys))) H (upd H (A i) (.lst vs)) :=
    ⟨fun a o n h => ⟨by rw [upd_ne (fun z => n (.inr ⟨i, xs, e, z.symm⟩))]; exact h, fun z => n (sub a z)⟩, fun a o u h => by rw [upd_ne (ne_of h e4 (fun z => nomatch z))]; exact h⟩
  refine ⟨fun a ha => ?_, fun a o h => ?_, by rw [List.length_set]; exact r.len, fun j zs h => ?_, fun j l zs ws' h h' ea => ?_, fun j d h => ?_⟩
  · obtain ⟨ws', h⟩ := r.m a ha
    exact ⟨ws', by rw [upd_ne (fun z => e3 (by rw [← z]; exact ha))]; exact h⟩
  · rw [upd_ne (fun z => by rw [z, e2] at h; cases h)]
    exact r.g a o h
  · rcases set_get h with ⟨rfl, _, z⟩ | ⟨ne, z⟩
    · cases z
      exact ⟨e1, e2, e3, vs, upd_same, Reps.go k _ _ hr⟩
    · obtain ⟨f1, f2, f3, us, f4, f5⟩ := r.ow j zs z
      exact ⟨f1, f2, f3, us, by rw [upd_ne (fun q => ne (r.inj i j xs zs e z q.symm))]; exact f4, Reps.go k _ _ f5⟩
  · obtain ⟨_, g1⟩ := own j zs h
    obtain ⟨_, g2⟩ := own l ws' h'
    exact r.inj j l _ _ g1 g2 ea
  · rcases set_get h with ⟨_, _, z⟩ | ⟨ne, z⟩
    · cases z
    · obtain ⟨v, f1, f2⟩ := r.sh j d z
      exact ⟨v, f1, Rep.go k _ _ f2⟩
/-- an owned list is let go -/
theorem SR.share1 (r : SR K M G A H σ env) (i : Nat) : SR K M G A H σ (env.set i (match env[i]? with | some s => s.share | none => .no)) := by
  cases q : env[i]? with
  | none => exact r.no i
  | some s =>
    cases s with
    | no => exact r.no i
    | sh d =>
      have : env.set i (Sl.sh d) = env := by
        apply List.ext_getElem?
        intro j
        by_cases e : i = j
        · subst e
          have hl : i < env.length := by
            by_cases h : i < env.length
            · exact h
            · rw [List.getElem?_eq_none (by omega)] at q; cases q
          rw [List.getElem?_set_self hl, q]
        · rw [List.getElem?_set_ne e]
      show SR K M G A H σ (env.set i (Sl.sh d))
      rw [this]; exact r
    | own xs =>
      show SR K M G A H σ (env.set i (Sl.sh (.lst xs)))
      obtain ⟨e1, e2, e3, vs, e4, e5⟩ := r.ow i xs q
      have sub : ∀ a, OM M A (env.set i (.sh (.lst xs))) a → OM M A env a ∧ a ≠ A i := fun a z => by
        rcases z with z | ⟨j, ys, e, ea⟩
        · exact ⟨.inl z, fun h => e3 (h ▸ z)⟩
        · rcases set_get e with ⟨_, _, z⟩ | ⟨ne, z⟩
          · cases z
          · exact ⟨.inr ⟨j, ys, z, ea⟩, fun h => ne (r.inj i j xs ys q z (by rw [ea, h]))⟩
      have k : Kp (OM M A env) (OM M A (env.set i (.sh (.lst xs)))) H H := kp_sub fun a o n _ z => n (sub a z).1
      refine ⟨r.m, r.g, by rw [List.length_set]; exact r.len, fun j ys e => ?_, fun j l ys zs e e' ea => ?_, fun j d e => ?_⟩
      · rcases set_get e with ⟨_, _, z⟩ | ⟨_, z⟩
        · cases z
        · obtain ⟨f1, f2, f3, ws, f4, f5⟩ := r.ow j ys z
          exact ⟨f1, f2, f3, ws, f4, Reps.go k _ _ f5⟩
      · rcases set_get e with ⟨_, _, z⟩ | ⟨_, z⟩
        · cases z
        · rcases set_get e' with ⟨_, _, z'⟩ | ⟨_, z'⟩
          · cases z'
          · exact r.inj j l ys zs z z' ea
      · rcases set_get e with ⟨rfl, _, z⟩ | ⟨_, z⟩
        · cases z
          exact ⟨_, e1, A i, vs, rfl, fun z => (sub _ z).2 rfl, e4, Reps.go k _ _ e5⟩
        · obtain ⟨v, f1, f2⟩ := r.sh j d z
          exact ⟨v, f1, Rep.go k _ _ f2⟩
theorem SR.share : ∀ (l : List Nat) {env : SE} (r : SR K M G A H σ env), SR K M G A H σ (shareL l env)
  | [], _, r => r
  | i :: l, _, r => SR.share l (r.share1 i)
/-- data without lists is the same under any mask -/
theorem rep_flat : ∀ (d : D) (v : V), MOk M' H → flat d = true → Rep K H M d v → Rep K H M' d v := by
  intro d v m
  exact (D.rec (motive_1 := fun d => ∀ v, flat d = true → Rep K H M d v → Rep K H M' d v) (motive_2 := fun ds => ∀ vs, flats ds = true → Reps K H M ds vs → Reps K H M' ds vs)
    (fun _ _ h => h) (fun _ _ _ h => h) (fun _ _ _ h => h) (fun _ _ _ h => h)
    (fun xs ih v hf h => by
      obtain ⟨a, vs, e, n, ha, hr⟩ := h
      have nm : ¬ M' a := fun z => by
        obtain ⟨ws, e'⟩ := m a z
        rw [ha] at e'; cases e'
      exact ⟨a, vs, e, nm, ha, ih vs hf hr⟩)
    (fun _ _ _ h => by cases h) (fun _ _ h => by cases h) (fun _ _ _ _ h => by cases h) (fun _ _ h => by cases h) (fun _ _ h => by cases h)
    (fun vs _ h => h)
    (fun d ds ih ihs vs hf h => by
      simp only [flats, Bool.and_eq_true] at hf
      obtain ⟨v, r, e, h1, h2⟩ := h
      exact ⟨v, r, e, ih v hf.1 h1, ihs r hf.2 h2⟩) d) v
/-! ### ends -/
/-- what a statement's outcome gives -/
def Gd (K : PySem.W.Frag) (M : Addr → Prop) (G : Hp) (W : WS) (E : Ends) : Out → Prop
  | .nx e => ∀ A σ H, SR K M G A H σ e → E.nx σ H
  | .ret d fr => ∀ v H, Same G H → Rep K H M d v → (fr = true → Fr K G H M d v) → E.rt v H
  | .bk e => ∀ A σ H, SR K M G A H σ e → E.bk σ H
  | .ct e => ∀ A σ H, SR K M G A H σ e → E.ct σ H
  | .ex c _ => ∀ σ H, Same G H → W c σ H
  | .bad => False
theorem Gd.weak {W : WS} {E : Ends} {G0 : Hp} {o : Out} (s : Same G0 G) (h : Gd K M G0 W E o) : Gd K M G W E o := by
  cases o with
  | nx e => exact fun A σ H r => h A σ H (r.weak s)
  | ret d fr =>
    exact fun v H s' r f => h v H (s.trans s') r fun z xs e => by
      obtain ⟨a, vs, e1, e2, e3, e4⟩ := f z xs e
      exact ⟨a, vs, e1, s.free e2, e3, e4⟩
  | bk e => exact fun A σ H r => h A σ H (r.weak s)
  | ct e => exact fun A σ H r => h A σ H (r.weak s)
  | ex c e => exact fun σ H s' => h σ H (s.trans s')
  | bad => exact h
def tS (K : PySem.W.Frag) (W : WS) (φ : Phi) (p : PL.St) : TS := fun E σ H => ∃ M G A env, SR K M G A H σ env ∧ Gd K M G W E (exec φ p env)
def tSs (K : PySem.W.Frag) (W : WS) (φ : Phi) (p : Sts) : TS := fun E σ H => ∃ M G A env, SR K M G A H σ env ∧ Gd K M G W E (execs φ p env)
theorem _root_.L2.PS.imp {X : Cx} {e : Stmt} {t t' : TS} (h : PS X e t) (k : ∀ E σ H, t' E σ H → t E σ H) : PS X e t' := ⟨fun pins s σ H E I q => h.run pins s σ H E I (k _ _ _ q)⟩
theorem _root_.L2.PSs.imp {X : Cx} {e : List Stmt} {t t' : TS} (h : PSs X e t) (k : ∀ E σ H, t' E σ H → t E σ H) : PSs X e t' := ⟨fun pins s σ H E I q => h.run pins s σ H E I (k _ _ _ q)⟩
/-- a result that is used -/
theorem Gd.wp {α : Type} {W : WS} {E : Ends} {r : Res α} {k : α → Out} (g : Same G H) (h : Gd K M G W E (r.ou env k)) : wpR W σ H r fun a => Gd K M G W E (k a) := by
  cases r with
  | ok a => exact h
  | exn c => exact fun H' s => h σ H' (g.trans s)
  | bad => exact h
section
variable {W : WS} {E : Ends} {φ : Phi} {p q : Ex} {Q : VK}
/-- evaluated with all seen -/
theorem ev_vw {k : D → Out} (sr : SR K M G A H σ env) (h : Gd K M G W E ((eval φ p (env.map Sl.vw)).ou env k))
    (hk : ∀ d, eval φ p (env.map Sl.vw) = .ok d → Gd K M G W E (k d) → ∀ v H1, Same H H1 → SR K M G A H1 σ env → Rep K H1 M d v → (fresh p = true → Fr K H H1 M d v) → Q v H1) : tD K W φ p σ H Q :=
  tD.use sr.vw ((Gd.wp sr.g h).mono (Same.refl H) fun d e g v H1 s r f => hk d e g v H1 s (sr.same s) r f)
/-- evaluated for a store -/
theorem ev_st {fl : Bool} {k : D → Out} (sr : SR K M G A H σ env) (h : Gd K M G W E ((evalS φ fl p env).ou env k))
    (hk : ∀ d, Gd K M G W E (k d) → ∀ v H1, Same H H1 → SR K M G A H1 σ env → Rep K H1 (OM M A env) d v → (fresh p = true → Fr K H H1 (OM M A env) d v) → Q v H1) : tD K W φ p σ H Q := by
  cases fl with
  | false => exact tD.use sr.fg ((Gd.wp sr.g (show Gd K M G W E ((eval φ p (env.map Sl.fg)).ou env k) from h)).mono (Same.refl H) fun d e g v H1 s r f => hk d g v H1 s (sr.same s) r f)
  | true =>
    have h : wpR W σ H ((eval φ p (env.map Sl.vw)).rb fun d => if flat d = true then .ok d else .bad) fun a => Gd K M G W E (k a) := Gd.wp sr.g h
    refine tD.use sr.vw ((wpR.bind h).mono (Same.refl H) fun d e g v H1 s r f => ?_)
    by_cases hf : flat d = true
    · rw [if_pos hf] at g
      have sr1 := sr.same s
      exact hk d g v H1 s sr1 (rep_flat _ _ sr1.om hf r) fun _ xs e => by rw [e] at hf; cases hf
    · rw [if_neg hf] at g; exact g.elim
theorem ou_rb {α β : Type} (r : Res α) (f : α → Res β) (k : β → Out) : (r.rb f).ou env k = r.ou env fun a => (f a).ou env k := by cases r <;> rfl
end
end PL
-- C14
set_option Elab.async false
set_option linter.all false
set_option maxRecDepth 100000
set_option maxHeartbeats 8000000
/-! C14: the rule for statements. -/
namespace PL
open PySem PySem.Spec PyProof.Rows L2
variable {C : Cxt} {n : Nat} {cl : Str → Value} {W : WS} {sc : Scope} {X : Cx}
/-! ### the look -/
def isLC : Expr → Bool
  | .ListComp .. => true
  | _ => false
def swLC (sc : Scope) (x : Str) (p : Pos) : Expr → Bool
  | .ListComp _ _ s q => (match sc.names.lookup x with | some .local => true | _ => false) && (p.line == q.line) && !(s.names.any fun (n, k) => n == x && (k == .local || k == .cell))
  | _ => false
def lcl (sc : Scope) (x : Str) : Bool := match sc.names.lookup x with
  | some .local => true
  | _ => false
def nonLcl (sc : Scope) : Expr → Bool
  | .Name x _ => !lcl sc x
  | _ => true
def swN (sc : Scope) (ts : List Expr) : Expr → Bool
  | .Tuple vs _ _ => decide (3 < ts.length) || vs.all (foldedForSure 8) || ts.any (nonLcl sc)
  | _ => true
theorem lcl_of {x : Str} (h : lcl sc x = true) : sc.names.lookup x = some .local := by
  unfold lcl at h
  cases q : sc.names.lookup x with
  | none => rw [q] at h; cases h
  | some k => rw [q] at h; cases k <;> first | (cases h; done) | rfl
def nmTs : List (Nat × Bool) → Tgs
  | [] => .nil
  | (i, _) :: ts => .cons (.nm i) (nmTs ts)
mutual
def mS (C : Cxt) (sc : Scope) : PL.St → Stmt → Bool
  | .asg _ _ (.nm i) e, .Assign [.Name x _] v _ => decide (C.N[i]? = some x) && locB sc x && mE C e sc v
  | .asg _ _ (.tp ts) e, .Assign [.Tuple es _ _] v _ => mTgs C sc ts es && mE C e sc v && swN sc es v
  | .par [(i, _), (j, _)] (.cons p (.cons q .nil)), .Assign [.Tuple [.Name x px, .Name y py] _ _] (.Tuple [a, b] _ _) _ =>
    decide (C.N[i]? = some x) && decide (C.N[j]? = some y) && decide (i ≠ j) && lcl sc x && lcl sc y && decide (px.line = py.line) && decide (x ≠ y) && notStar a && notStar b && !([a, b].all (foldedForSure 8)) && !([a, b].all (constantsAlone 8)) && (mE C p sc a && mE C q sc b)
  | .par ts es, .Assign [.Tuple xs _ _] (.Tuple vs _ _) _ => decide (3 < xs.length) && decide (xs.length < 64) && mTgs C sc (nmTs ts) xs && mEs C es sc vs
  | .ex e, .Expr v _ => !isLC v && mE C e sc v
  | .app _ i e, .Expr (.Call (.Attribute (.Name x _) m ap) [v] [] cp) _ => decide (m = ("append" : Str)) && decide (C.N[i]? = some x) && visB sc x && okName x && (ap.endLine == cp.line) && notStar v && mE C e sc v
  | .ext _ i e, .Expr (.Call (.Attribute (.Name x _) m ap) [v] [] cp) _ => decide (m = ("extend" : Str)) && decide (C.N[i]? = some x) && visB sc x && okName x && (ap.endLine == cp.line) && notStar v && mE C e sc v
  | .set i k e, .Assign [.Subscript (.Name x _) kx _] v _ => decide (C.N[i]? = some x) && visB sc x && okName x && ixOk kx && (mE C k sc kx && mE C e sc v)
  | .ret e, .Return (some v) _ => mE C e sc v
  | .retN, .Return none _ => true
  | .ite c a b, .If c' a' b' _ => tstE c && mE C c sc c' && (mSs C sc a a' && mSs C sc b b')
  | .for_ tg it body _, .For t i b [] _ => mTg C sc tg t && tgOk it t && mI C it sc i && mSs C sc body b
  | .forR tg it body _, .For t i b [] _ => mTg C sc tg t && isRng it && mI C it sc i && mSs C sc body b
  | .whl 0 _ _ _, _ => true
  | .whl (_ + 1) c body _, .While c' b [] _ => tstE c && mE C c sc c' && mSs C sc body b
  | .brk, .Break _ => true
  | .cnt, .Continue _ => true
  | .pass, .Pass _ => true
  | _, _ => false
def mSs (C : Cxt) (sc : Scope) : Sts → List Stmt → Bool
  | .nil, [] => true
  | .cons (.share _) r, ss => mSs C sc r ss
  | .cons s r, x :: ss => mS C sc s x && mSs C sc r ss
  | _, _ => false
end
/-! ### stores -/
variable {K : PySem.W.Frag} {H H' H1 H2 G : Hp} {M M' : Addr → Prop} {A A1 : Nat → Addr} {σ : L2.St} {env env1 : SE} {φ : Phi}
theorem om_sh {i : Nat} {d : D} {a : Addr} (h : OM M A (env.set i (.sh d)) a) : OM M A env a := by
  rcases h with z | ⟨j, xs, e, ea⟩
  · exact .inl z
  · rcases set_get e with ⟨_, _, z⟩ | ⟨_, z⟩
    · cases z
    · exact .inr ⟨j, xs, z, ea⟩
theorem SR.putSh {d : D} {v : V} {B : Addr → Prop} (r : SR K M G A H σ env) (rv : Rep K H B d v) (hB : ∀ a, OM M A env a → B a) (i : Nat) : SR K M G A H (σ.set i (some v)) (env.set i (.sh d)) := by
  have k : Kp (OM M A env) (OM M A (env.set i (.sh d))) H H := kp_sub fun a o n _ z => n (om_sh z)
  have kB : Kp B (OM M A (env.set i (.sh d))) H H := kp_sub fun a o n _ z => n (hB a (om_sh z))
  refine ⟨r.m, r.g, by rw [List.length_set, List.length_set]; exact r.len, fun j xs e => ?_, fun j l xs ys e e' ea => ?_, fun j d' e => ?_⟩
  · rcases set_get e with ⟨_, _, z⟩ | ⟨ne, z⟩
    · cases z
    · obtain ⟨e1, e2, e3, vs, e4, e5⟩ := r.ow j xs z
      exact ⟨by rw [List.getElem?_set_ne ne]; exact e1, e2, e3, vs, e4, Reps.go k _ _ e5⟩
  · rcases set_get e with ⟨_, _, z⟩ | ⟨_, z⟩
    · cases z
    · rcases set_get e' with ⟨_, _, z'⟩ | ⟨_, z'⟩
      · cases z'
      · exact r.inj j l xs ys z z' ea
  · rcases set_get e with ⟨rfl, hl, z⟩ | ⟨ne, z⟩
    · cases z
      exact ⟨v, by rw [List.getElem?_set_self (by rw [r.len]; exact hl)], Rep.go kB _ _ rv⟩
    · obtain ⟨v', e1, e2⟩ := r.sh j d' z
      exact ⟨v', by rw [List.getElem?_set_ne ne]; exact e1, Rep.go k _ _ e2⟩
mutual
theorem nx_bindS : ∀ (t : Tg) (d : D) (env : SE), NX (bindS t d env)
  | .nm i, d, env => nx_ok _
  | .tp ts, d, env => by cases d <;> first | exact nx_bad | exact nx_bindSs ts _ env
theorem nx_bindSs : ∀ (ts : Tgs) (d : List D) (env : SE), NX (bindSs ts d env)
  | .nil, [], env => nx_ok _
  | .nil, _ :: _, env => nx_bad
  | .cons t ts, [], env => nx_bad
  | .cons t ts, d :: ds, env => nx_rb (nx_bindS t d env) fun e => nx_bindSs ts ds e
end
mutual
theorem gS : ∀ (t : Tg) (d : D) (x : V) (σ : L2.St) (env env1 : SE) (B : Addr → Prop) (Q : L2.St → Hp → Prop), SR K M G A H σ env → Rep K H B d x → (∀ a, OM M A env a → B a) → bindS t d env = .ok env1 → (∀ σ1, SR K M G A H σ1 env1 → (∀ a, OM M A env1 a → OM M A env a) → Q σ1 H) → gTg K t x σ H Q
  | .nm i, d, x, σ, env, env1, B, Q, sr, r, hB, e, q => by
    cases e
    exact q _ (sr.putSh r hB i) fun a h => om_sh h
  | .tp ts, d, x, σ, env, env1, B, Q, sr, r, hB, e, q => by
    cases d <;> first | (cases e; done) | skip
    rename_i xs
    obtain ⟨a, vs, rfl, _, ha, hr⟩ := r
    exact ⟨a, vs, rfl, SqT.of ha, by rw [hr.length]; exact bindSs_len e, gSs _ xs vs σ env env1 B Q sr hr hB e q⟩
theorem gSs : ∀ (ts : Tgs) (ds : List D) (xs : List V) (σ : L2.St) (env env1 : SE) (B : Addr → Prop) (Q : L2.St → Hp → Prop), SR K M G A H σ env → Reps K H B ds xs → (∀ a, OM M A env a → B a) → bindSs ts ds env = .ok env1 → (∀ σ1, SR K M G A H σ1 env1 → (∀ a, OM M A env1 a → OM M A env a) → Q σ1 H) → gTgs K ts xs σ H Q
  | .nil, ds, xs, σ, env, env1, B, Q, sr, r, hB, e, q => by
    cases ds with
    | cons d ds => cases e
    | nil =>
      cases e
      cases r
      exact ⟨rfl, q σ sr fun _ h => h⟩
  | .cons t ts, ds, xs, σ, env, env1, B, Q, sr, r, hB, e, q => by
    cases ds with
    | nil => cases e
    | cons d ds =>
      obtain ⟨v, vs, rfl, h1, h2⟩ := r
      obtain ⟨env2, e1, e2⟩ := rb_eq_ok (show (bindS t d env).rb _ = _ from e)
      exact ⟨v, vs, rfl, gS t d v σ env env2 B _ sr h1 hB e1 fun σ1 sr1 s1 => gSs ts ds vs σ1 env2 env1 B Q sr1 h2 (fun a h => hB a (s1 a h)) e2 fun σ2 sr2 s2 => q σ2 sr2 fun a h => s1 a (s2 a h)⟩
theorem bindSs_len : ∀ {ts : Tgs} {ds : List D} {env env1 : SE}, bindSs ts ds env = .ok env1 → ds.length = lenT ts
  | .nil, [], _, _, _ => rfl
  | .nil, _ :: _, _, _, e => by cases e
  | .cons t ts, [], _, _, e => by cases e
  | .cons t ts, d :: ds, env, env1, e => by
    obtain ⟨env2, e1, e2⟩ := rb_eq_ok (show (bindS t d env).rb _ = _ from e)
    rw [List.length_cons, bindSs_len e2]; rfl
end
end PL
-- C15
set_option Elab.async false
set_option linter.all false
set_option maxRecDepth 100000
set_option maxHeartbeats 8000000
/-! C15: the rule for statements, construct by construct. -/
namespace PL
open PySem PySem.Spec PyProof.Rows L2
variable {C : Cxt} {n : Nat} {cl : Str → Value} {W : WS} {sc : Scope} {X : Cx} {H H' H1 H2 G : Hp} {M M' : Addr → Prop} {A A1 : Nat → Addr} {σ : L2.St} {env env1 : SE} {φ : Phi}
structure XS (C : Cxt) (n : Nat) (cl : Str → Value) (W : WS) (sc : Scope) (X : Cx) : Prop where
  x : XOk C n cl W sc sc X
  hk : sc.kind = .function
  po : PassesOwn (model X.prog X.w) X.A X.env X.xe
theorem asg_imp {te te' : TE} {g : TG} {E : Ends} (h : ∀ σ H Q, te' σ H Q → te σ H Q) (k : tAsg te' g E σ H) : tAsg te g E σ H := h _ _ _ k
/-! ### text conditions -/
theorem sw_false {v : Expr} {t : Expr} {l : Nat} {env : Env} (h : isLC v = false) (hs : ∀ a b c d, v ≠ .SetComp a b c d) (hd : ∀ a b c d e, v ≠ .DictComp a b c d e) : swapsWith v (some t) l env = pure false := by
  cases v <;> first | rfl | (cases h; done) | exact absurd rfl (hs _ _ _ _) | exact absurd rfl (hd _ _ _ _ _)
theorem sw_falseN {v : Expr} {l : Nat} {env : Env} (h : isLC v = false) (hs : ∀ a b c d, v ≠ .SetComp a b c d) (hd : ∀ a b c d e, v ≠ .DictComp a b c d e) : swapsWith v none l env = pure false := by
  cases v <;> first | rfl | (cases h; done) | exact absurd rfl (hs _ _ _ _) | exact absurd rfl (hd _ _ _ _ _)
theorem no_set {p : Ex} {v : Expr} (h : mE C p sc v = true) : (∀ a b c d, v ≠ .SetComp a b c d) ∧ (∀ a b c d e, v ≠ .DictComp a b c d e) := by
  refine ⟨fun a b c d e => ?_, fun a b c d e z => ?_⟩
  · subst e
    cases p <;> simp [mE] at h
  · subst z
    cases p <;> simp [mE] at h
theorem sw_tup {v : Expr} {es : List Expr} {k : Nat} {p : Pos} {l : Nat} {env : Env} : swapsWithSole [.Tuple es k p] v l env = pure false := by
  cases v <;> rfl
theorem sw_sub {v a b : Expr} {p : Pos} {l : Nat} {env : Env} : swapsWithSole [.Subscript a b p] v l env = pure false := by
  cases v <;> rfl
theorem ss_sub {v a b : Expr} {p : Pos} {env : Env} : swappedStores [.Subscript a b p] v env = pure none := by
  cases v <;> rfl
theorem fm_len {α β : Type} {g : α → Option β} : ∀ {l : List α}, (l.filterMap g).length = l.length → ∀ x ∈ l, (g x).isSome = true
  | [], _, x, hx => nomatch hx
  | a :: l, h, x, hx => by
    have hle := List.length_filterMap_le g l
    cases q : g a with
    | none => rw [List.filterMap_cons_none q, List.length_cons] at h; omega
    | some b =>
      rw [List.filterMap_cons_some q, List.length_cons, List.length_cons] at h
      rcases List.mem_cons.mp hx with rfl | hx
      · rw [q]; rfl
      · exact fm_len (by omega) x hx
theorem ss_none {v : Expr} {es : List Expr} {k : Nat} {p : Pos} {env : Env} (hs : env.scope = sc) (h : swN sc es v = true) : swappedStores [.Tuple es k p] v env = pure none := by
  cases v <;> first | rfl | skip
  rename_i vs k2 p2
  unfold swN at h
  rw [Bool.or_eq_true, Bool.or_eq_true] at h
  unfold swappedStores
  simp only []
  rcases h with (h | h) | h
  · have h := of_decide_eq_true h
    have e : (!(es.length == 2 || es.length == 3)) = true := by
      simp only [Bool.not_eq_true', Bool.or_eq_false_iff, beq_eq_false_iff_ne]
      omega
    simp [e]
  · simp only [h]
    split
    · rfl
    · split
      · rfl
      · split <;> simp
  · split
    · rfl
    · split
      · rfl
      · split
        · rfl
        · rename_i hn
          exfalso
          rw [Bool.or_eq_true, not_or] at hn
          have hn := hn.1
          simp only [bne_iff_ne, ne_eq, Decidable.not_not] at hn
          obtain ⟨x, hx, hx2⟩ := List.any_eq_true.mp h
          have := fm_len hn x hx
          cases x <;> first | (cases this; done) | skip
          rename_i id pos
          simp only at this
          split at this
          · rename_i hc
            rw [Bool.and_eq_true] at hc
            have hk : env.scope.names.lookup id = some .local := by
              have := hc.1
              have e : env.kindOf id = env.scope.names.lookup id := rfl
              rw [e] at this
              exact eq_of_beq this
            rw [hs] at hk
            have hl : lcl sc id = true := by unfold lcl; rw [hk]
            have hx2 : (!lcl sc id) = true := hx2
            rw [hl] at hx2
            cases hx2
          · cases this
theorem dd2 {x y : Str} (h : x ≠ y) : [x, y].eraseDups.length = 2 := by
  have e : (y == x) = false := by simpa using Ne.symm h
  simp [List.eraseDups, List.eraseDupsBy, List.eraseDupsBy.loop, e]
theorem dd3 {x y z : Str} (h : x ≠ y) (h2 : x ≠ z) (h3 : y ≠ z) : [x, y, z].eraseDups.length = 3 := by
  have e : (y == x) = false := by simpa using Ne.symm h
  have e2 : (z == x) = false := by simpa using Ne.symm h2
  have e3 : (z == y) = false := by simpa using Ne.symm h3
  simp [List.eraseDups, List.eraseDupsBy, List.eraseDupsBy.loop, e, e2, e3]
theorem ss_two {x y : Str} {px py pt pt2 : Pos} {a b : Expr} {kt k2 : Nat} {env : Env} (hk : env.scope.kind = .function) (hx : env.scope.names.lookup x = some .local) (hy : env.scope.names.lookup y = some .local) (hl : px.line = py.line) (hxy : x ≠ y) (na : notStar a = true) (nb : notStar b = true)
    (f1 : [a, b].all (foldedForSure 8) = false) (f2 : [a, b].all (constantsAlone 8) = false) : swappedStores [.Tuple [.Name x px, .Name y py] kt pt] (.Tuple [a, b] k2 pt2) env = pure (some [x, y]) := by
  have kx : env.kindOf x = some .local := hx
  have ky : env.kindOf y = some .local := hy
  have hb : env.blockKind = .function := by unfold Env.blockKind; rw [hk]; rfl
  unfold swappedStores
  simp [hb, kx, ky, f1, f2, Expr.pos, hl]
  rw [if_neg, if_pos (dd2 hxy)]
  rintro (h | h)
  · cases a <;> first | (cases na; done) | (cases h; done)
  · cases b <;> first | (cases nb; done) | (cases h; done)
theorem ss_three {x y z : Str} {px py pz pt pt2 : Pos} {a b c : Expr} {kt k2 : Nat} {env : Env} (hk : env.scope.kind = .function) (hx : env.scope.names.lookup x = some .local) (hy : env.scope.names.lookup y = some .local) (hz : env.scope.names.lookup z = some .local) (hl : px.line = py.line) (hl2 : px.line = pz.line)
    (hxy : x ≠ y) (hxz : x ≠ z) (hyz : y ≠ z) (na : notStar a = true) (nb : notStar b = true) (nc : notStar c = true)
    (f1 : [a, b, c].all (foldedForSure 8) = false) (f2 : [a, b, c].all (constantsAlone 8) = false) : swappedStores [.Tuple [.Name x px, .Name y py, .Name z pz] kt pt] (.Tuple [a, b, c] k2 pt2) env = pure (some [x, y, z]) := by
  have kx : env.kindOf x = some .local := hx
  have ky : env.kindOf y = some .local := hy
  have kz : env.kindOf z = some .local := hz
  have hb : env.blockKind = .function := by unfold Env.blockKind; rw [hk]; rfl
  have l2 : pz.line = px.line := hl2.symm
  have l1 : py.line = px.line := hl.symm
  unfold swappedStores
  simp [hb, kx, ky, kz, f1, f2, Expr.pos, l1, l2]
  rw [if_neg, if_pos (dd3 hxy hxz hyz)]
  rintro (h | h | h)
  · cases a <;> first | (cases na; done) | (cases h; done)
  · cases b <;> first | (cases nb; done) | (cases h; done)
  · cases c <;> first | (cases nc; done) | (cases h; done)
theorem lc_sw {x : Str} {p : Pos} {v : Expr} {l : Nat} (hs : X.env.scope = sc) (hk : sc.kind = .function) (h : swLC sc x p v = true) : swapsWith v (some (.Name x p)) l X.env = pure true := by
  cases v <;> first | (cases h; done) | skip
  unfold swLC at h
  simp only [Bool.and_eq_true, Bool.not_eq_true'] at h
  exact sw_true (by rw [hs]; exact hk) (by rw [hs]; exact lcl_of h.1.1) h.1.2 h.2
theorem lc_nosw {x : Str} {p : Pos} {v : Expr} {l : Nat} (hs : X.env.scope = sc) (hk : sc.kind = .function) (h : swLC sc x p v = false) (z1 : ∀ a b c d, v ≠ .SetComp a b c d) (z2 : ∀ a b c d e, v ≠ .DictComp a b c d e) : swapsWith v (some (.Name x p)) l X.env = pure false := by
  by_cases hl : isLC v = true
  · cases v <;> first | (cases hl; done) | skip
    subst hs
    have hb : X.env.blockKind = .function := by unfold Env.blockKind; rw [hk]; rfl
    unfold swLC at h
    unfold swapsWith
    simp only [hb, Expr.pos]
    have e : (X.env.kindOf x == some NameKind.local) = (match X.env.scope.names.lookup x with | some .local => true | _ => false) := by
      show (X.env.scope.names.lookup x == some NameKind.local) = _
      cases X.env.scope.names.lookup x with
      | none => rfl
      | some k => cases k <;> rfl
    rw [e]
    show pure _ = pure false
    congr 1
  · exact sw_false (by simpa using hl) z1 z2
/-! ### the rules -/
/-- name = e -/
theorem p_name {i : Nat} {x : Str} {p pos : Pos} {e : Ex} {v : Expr} (h : XS C n cl W sc X) (hi : C.N[i]? = some x) (hl : locB sc x = true) (hm : mE C e sc v = true) : PS X (.Assign [.Name x p] v pos) (tAsg (tD X.K W (run C.T n) e) (gName i)) := by
  obtain ⟨t1, t2⟩ := h.x.tg x hl
  have z := no_set hm
  by_cases hs : swLC sc x p v = true
  · have hv : ∃ elt own tg it cond, e = .comp elt own tg it cond := by
      cases v <;> first | (cases hs; done) | skip
      cases e
      case comp => exact ⟨_, _, _, _, _, rfl⟩
      case bi b ps =>
        cases ps with
        | nil => cases hm
        | cons q l => cases l with
          | nil => cases hm
          | cons r l => cases l <;> cases hm
      case me m o ps =>
        cases ps with
        | nil => cases hm
        | cons q l => cases l <;> cases hm
      case rg tp it => cases it <;> cases hm
      all_goals cases hm
    obtain ⟨elt, own, tg, it, cond, rfl⟩ := hv
    obtain ⟨e1, t, i', ifs, scope, pos', rfl, h1, h2, h3, h4, h5, h6, h7⟩ := comp_of hm
    have hx : sc.names.lookup x = some .local := by
      unfold swLC at hs
      simp only [Bool.and_eq_true] at hs
      exact lcl_of hs.1.1
    have xx := h.x
    refine (ps_setLc (own := ownOf C own) xx.calm (xx.hN ▸ xx.nd) (by rw [xx.hN]; exact hi) (by rw [xx.hsc]; exact hx) (lc_sw xx.hsc h.hk hs) (snd_I it t i' xx h3 h5) (by rw [xx.hN, xx.hsc]; exact blkOk_by h1) (fun s H A cl' fp => ?_) (fun s H A cl' fp => ?_) (fun s H A cl' fp => ?_) (foldSet (mI_set h5))).imp fun E σ H k => asg_imp (fun σ H Q q => lc_imp h4 σ H Q q) k
    · have b := xx.blk s H scope A cl' fp
      exact s_tg b.hN b.nd b.calm (fun y hy => by rw [b.hsc]; exact b.tg y hy) tg t h2
    · exact snd_c cond _ (xx.blk s H scope A cl' fp) h7
    · exact snd_e elt _ (xx.blk s H scope A cl' fp) h6
  · exact ps_set (h.x.hN ▸ h.x.nd) (by rw [h.x.hN]; exact hi) (by rw [h.x.hsc]; exact t1) (snd_e e v h.x hm) (lc_nosw h.x.hsc h.hk (by simpa using hs) z.1 z.2) (by rw [h.x.hsc]; exact t2)
theorem r_name {fl ow : Bool} {i : Nat} {x : Str} {p pos : Pos} {e : Ex} {v : Expr} (h : XS C n cl W sc X) (hi : C.N[i]? = some x) (hl : locB sc x = true) (hm : mE C e sc v = true) : PS X (.Assign [.Name x p] v pos) (tS X.K W (run C.T n) (.asg fl ow (.nm i) e)) := by
  refine (p_name h hi hl hm).imp fun E σ H ⟨M, G, A, env, sr, k⟩ => ?_
  refine ev_st sr k fun d g v H1 s sr1 r f => ?_
  cases ow with
  | false =>
    exact g A _ _ (sr1.putSh r (fun a h => h) i)
  | true =>
    have g : Gd X.K M G W E (if fresh e = true then (mkS true d).ou env fun s => .nx (env.set i s) else .bad) := g
    by_cases hf : fresh e = true
    · rw [if_pos hf] at g
      cases hs : mkS true d with
      | ok s1 =>
        rw [hs] at g
        obtain ⟨A1, sr2, _⟩ := sr.put (ow := true) s r (fun _ => f hf) hs i
        exact g A1 _ _ sr2
      | exn c => cases d <;> cases hs
      | bad => rw [hs] at g; exact g.elim
    · rw [if_neg hf] at g; exact g.elim
theorem r_tup {fl ow : Bool} {ts : Tgs} {es : List Expr} {k : Nat} {p pos : Pos} {e : Ex} {v : Expr} (h : XS C n cl W sc X) (ht : mTgs C sc ts es = true) (hm : mE C e sc v = true) (hs : swN sc es v = true) : PS X (.Assign [.Tuple es k p] v pos) (tS X.K W (run C.T n) (.asg fl ow (.tp ts) e)) := by
  have g := s_tg h.x.hN h.x.nd h.x.calm (fun y hy => by rw [h.x.hsc]; exact h.x.tg y hy) (.tp ts) (.Tuple es k p) ht
  refine (ps_asg (snd_e e v h.x hm) g sw_tup (ss_none h.x.hsc hs)).imp fun E σ H ⟨M, G, A, env, sr, q⟩ => ?_
  refine ev_st sr q fun d g v H1 s sr1 r f => ?_
  cases ow with
  | true => exact g.elim
  | false =>
    have g : Gd X.K M G W E ((bindS (.tp ts) d env).ou env .nx) := g
    cases hb : bindS (.tp ts) d env with
    | ok env1 =>
      rw [hb] at g
      exact gS (.tp ts) d v σ env env1 _ _ sr1 r (fun _ h => h) hb fun σ1 sr2 _ => g A σ1 H1 sr2
    | exn c => exact absurd hb (nx_bindS _ _ _ c)
    | bad => rw [hb] at g; exact g.elim
theorem r_ex {e : Ex} {v : Expr} {pos : Pos} (h : XS C n cl W sc X) (hl : isLC v = false) (hm : mE C e sc v = true) : PS X (.Expr v pos) (tS X.K W (run C.T n) (.ex e)) := by
  have z := no_set hm
  refine (ps_expr (snd_e e v h.x hm) (sw_falseN hl z.1 z.2)).imp fun E σ H ⟨M, G, A, env, sr, q⟩ => ?_
  exact ev_vw sr q fun d _ g v H1 s sr1 r f => g A σ H1 sr1
theorem own_at {i : Nat} {xs : List D} (h : ownAt env i = some xs) : env[i]? = some (.own xs) := by
  unfold ownAt at h
  split at h
  · rename_i ys e
    cases h
    exact e
  · cases h
theorem Gd.own {E : Ends} {i : Nat} {k : List D → Out} {K : PySem.W.Frag} (h : Gd K M G W E ((ofO (ownAt env i)).ou env k)) : ∃ xs, env[i]? = some (.own xs) ∧ Gd K M G W E (k xs) := by
  cases q : ownAt env i with
  | none => rw [q] at h; exact h.elim
  | some xs => rw [q] at h; exact ⟨xs, own_at q, h⟩
theorem r_app {fl : Bool} {i : Nat} {e : Ex} {x : Str} {v : Expr} {p1 ap cp pos : Pos} (h : XS C n cl W sc X) (hi : C.N[i]? = some x) (hv : visB sc x = true) (ho : okName x = true) (hln : (ap.endLine == cp.line) = true) (hs : notStar v = true) (hm : mE C e sc v = true) :
    PS X (.Expr (.Call (.Attribute (.Name x p1) "append" ap) [v] [] cp) pos) (tS X.K W (run C.T n) (.app fl i e)) := by
  have base := pe_bm (cpos := cp) PySem.F.plainAttrs_list PySem.F.slot_list_append PySem.F.type_list_append mt_append (pe_var (X := X) (pos := p1) (by rw [h.x.hN]; exact hi) (by rw [h.x.hsc]; exact vis_of hv) (okName_1 ho) (okName_2 ho)) (pa_cons (snd_e e v h.x hm) pa_nil (star_cons hs)) rfl
    (by rw [star_cons hs]; rfl) hln (star_cons hs) rfl
  refine (ps_expr base rfl).imp fun E σ H ⟨M, G, A, env, sr, q⟩ => ?_
  obtain ⟨xs, e1, q⟩ := Gd.own (show Gd X.K M G W E ((ofO (ownAt env i)).ou env fun xs => (evalS (run C.T n) fl e env).ou env fun d => if xs.length < sz then .nx (env.set i (.own (xs ++ [d]))) else .bad) from q)
  obtain ⟨f1, f2, f3, vs, f4, f5⟩ := sr.ow i xs e1
  refine ⟨_, f1, .inl ⟨rfl, vs, SqL.of f4⟩, ?_⟩
  refine ev_st sr q fun d g y H1 s sr1 r f => ?_
  by_cases hz : xs.length < sz
  · rw [if_pos hz] at g
    refine ⟨A i, vs, y, rfl, rfl, s _ _ f4, by rw [f5.length, ← sz_eq]; exact hz, ?_⟩
    exact g A _ _ (sr1.mut e1 (Reps.append (f5.same s) (Reps.cons r Reps.nil)))
  · rw [if_neg hz] at g; exact g.elim
theorem r_ext {fl : Bool} {i : Nat} {e : Ex} {x : Str} {v : Expr} {p1 ap cp pos : Pos} (h : XS C n cl W sc X) (hi : C.N[i]? = some x) (hv : visB sc x = true) (ho : okName x = true) (hln : (ap.endLine == cp.line) = true) (hs : notStar v = true) (hm : mE C e sc v = true) :
    PS X (.Expr (.Call (.Attribute (.Name x p1) "extend" ap) [v] [] cp) pos) (tS X.K W (run C.T n) (.ext fl i e)) := by
  have base := pe_bm (cpos := cp) PySem.F.plainAttrs_list PySem.F.slot_list_extend PySem.F.type_list_extend mt_extend (pe_var (X := X) (pos := p1) (by rw [h.x.hN]; exact hi) (by rw [h.x.hsc]; exact vis_of hv) (okName_1 ho) (okName_2 ho)) (pa_cons (snd_e e v h.x hm) pa_nil (star_cons hs)) rfl
    (by rw [star_cons hs]; rfl) hln (star_cons hs) rfl
  refine (ps_expr base rfl).imp fun E σ H ⟨M, G, A, env, sr, q⟩ => ?_
  obtain ⟨xs, e1, q⟩ := Gd.own (show Gd X.K M G W E ((ofO (ownAt env i)).ou env fun xs => (evalS (run C.T n) fl e env).ou env fun d => match d with
    | .lst ys => if xs.length + ys.length ≤ sz then .nx (env.set i (.own (xs ++ ys))) else .bad
    | _ => .bad) from q)
  obtain ⟨f1, f2, f3, vs, f4, f5⟩ := sr.ow i xs e1
  refine ⟨_, f1, .inl ⟨rfl, vs, SqL.of f4⟩, ?_⟩
  refine ev_st sr q fun d g y H1 s sr1 r f => ?_
  cases d <;> first | (exact g.elim) | skip
  rename_i ys
  obtain ⟨b, ws, rfl, nb, hb, hr⟩ := r
  have g : Gd X.K M G W E (if xs.length + ys.length ≤ sz then .nx (env.set i (.own (xs ++ ys))) else .bad) := g
  by_cases hz : xs.length + ys.length ≤ sz
  · rw [if_pos hz] at g
    refine ⟨A i, b, vs, ws, rfl, rfl, s _ _ f4, hb, by rw [f5.length, hr.length, ← sz_eq]; exact hz, ?_⟩
    exact g A _ _ (sr1.mut e1 (Reps.append (f5.same s) hr))
  · rw [if_neg hz] at g; exact g.elim
end PL
-- C16
set_option Elab.async false
set_option linter.all false
set_option maxRecDepth 100000
set_option maxHeartbeats 8000000
/-! C16: the rule for statements. -/
namespace PL
open PySem PySem.Spec PyProof.Rows L2
variable {C : Cxt} {n : Nat} {cl : Str → Value} {W : WS} {sc : Scope} {X : Cx} {H H' H1 H2 G : Hp} {M M' : Addr → Prop} {A A1 : Nat → Addr} {σ : L2.St} {env env1 : SE} {φ : Phi}
theorem VRel.mov {K : PySem.W.Frag} {e : Ev} (vr : VRel K M H σ e) (k : Kp M M' H H') (m : MOk M' H') : VRel K M' H' σ e := vr.go k m
/-- one part of a parallel store: evaluated in the old slots, stored in the new -/
theorem par_one {ow : Bool} {p : Ex} {i : Nat} {σ1 : L2.St} {env0 env1 : SE} {M1 : Addr → Prop} {E : Ends} {K : PySem.W.Frag} {Q : VK} {k : Sl → Out} (sr : SR K M G A1 H1 σ1 env1) (vr : VRel K (OM M A1 env1) H1 σ (env0.map Sl.fg))
    (hf : (!ow || fresh p) = true) (h : wpR W σ H1 (eval φ p (env0.map Sl.fg)) fun d => Gd K M G W E ((mkS ow d).ou env0 k))
    (hq : ∀ s A2 v H2, Gd K M G W E (k s) → SR K M G A2 H2 (σ1.set i (some v)) (env1.set i s) → VRel K (OM M A2 (env1.set i s)) H2 σ (env0.map Sl.fg) → Q v H2) : tD K W φ p σ H1 Q := by
  refine tD.use vr (h.mono (Same.refl H1) fun d e g v H2 s r f => ?_)
  cases hs : mkS ow d with
  | ok s1 =>
    rw [hs] at g
    obtain ⟨A2, sr2, kp⟩ := sr.put (ow := ow) s r (fun z => f (by rw [z] at hf; exact hf)) hs i
    exact hq s1 A2 v H2 g sr2 (vr.go kp sr2.om)
  | exn c =>
    cases ow with
    | false => cases hs
    | true => cases d <;> cases hs
  | bad => rw [hs] at g; exact g.elim
theorem ou_rb' {α β : Type} (r : Res α) (f : α → Res β) (k : β → Out) : (r.rb f).ou env k = r.ou env fun a => (f a).ou env k := by cases r <;> rfl
theorem wp_ou {α : Type} {E : Ends} {K : PySem.W.Frag} {r : Res α} {k : α → Out} (g : Same G H) (h : Gd K M G W E (r.ou env k)) : wpR W σ H r fun a => Gd K M G W E (k a) := Gd.wp g h
theorem fin_par {K : PySem.W.Frag} {E : Ends} {σ1 : L2.St} {e1 : SE} (g : Gd K M G W E ((Res.ok e1 : Res SE).ou env .nx)) (sr : SR K M G A H σ1 e1) : E.nx σ1 H := g A σ1 H sr
theorem mk_ou {ow : Bool} {d : D} {f : Sl → Res SE} {env : SE} : ((mkS ow d).rb f).ou env .nx = (mkS ow d).ou env fun s => (f s).ou env .nx := ou_rb' _ _ _
theorem r_par2 {i j : Nat} {o1 o2 : Bool} {x y : Str} {p q : Ex} {a b : Expr} {px py pt pt2 pos : Pos} {kt k2 : Nat} (h : XS C n cl W sc X) (hi : C.N[i]? = some x) (hj : C.N[j]? = some y) (hij : i ≠ j) (hx : lcl sc x = true) (hy : lcl sc y = true) (hl : px.line = py.line) (hxy : x ≠ y) (na : notStar a = true) (nb : notStar b = true)
    (f1 : [a, b].all (foldedForSure 8) = false) (f2 : [a, b].all (constantsAlone 8) = false) (hp : mE C p sc a = true) (hq : mE C q sc b = true) :
    PS X (.Assign [.Tuple [.Name x px, .Name y py] kt pt] (.Tuple [a, b] k2 pt2) pos) (tS X.K W (run C.T n) (.par [(i, o1), (j, o2)] (.cons p (.cons q .nil)))) := by
  have lx : X.env.scope.names.lookup x = some .local := by rw [h.x.hsc]; exact lcl_of hx
  have ly : X.env.scope.names.lookup y = some .local := by rw [h.x.hsc]; exact lcl_of hy
  have hN := h.x.hN
  refine (ps_par h.x.calm (hN ▸ h.x.nd) (by rw [hN]; exact hi) (by rw [hN]; exact hj) hij lx ly (pa_cons (snd_e p a h.x hp) (pa_cons (snd_e q b h.x hq) pa_nil (star_cons nb)) (star_cons na)) (ss_two (by rw [h.x.hsc]; exact h.hk) lx ly hl hxy na nb f1 f2) sw_tup).imp fun E σ H ⟨M, G, A, env, sr, g⟩ => ?_
  have g : Gd X.K M G W E (if freshP [(i, o1), (j, o2)] (.cons p (.cons q .nil)) = true then (evals (run C.T n) (.cons p (.cons q .nil)) (env.map Sl.fg)).ou env fun ds => (storeP [(i, o1), (j, o2)] ds env).ou env .nx else .bad) := g
  by_cases hf : freshP [(i, o1), (j, o2)] (.cons p (.cons q .nil)) = true
  · rw [if_pos hf] at g
    simp only [freshP, Bool.and_eq_true] at hf
    have g : Gd X.K M G W E (((eval (run C.T n) p (env.map Sl.fg)).rb fun x => ((eval (run C.T n) q (env.map Sl.fg)).rb fun y => (Res.ok []).rb fun xs => .ok (y :: xs)).rb fun xs => .ok (x :: xs)).ou env fun ds => (storeP [(i, o1), (j, o2)] ds env).ou env .nx) := g
    rw [ou_rb'] at g
    refine tD.use sr.fg ((Gd.wp sr.g g).mono (Same.refl H) fun d1 e1 g v1 H1 s1 r1 fr1 => ?_)
    rw [ou_rb', ou_rb'] at g
    have sr1 := sr.same s1
    -- the first is stored in mind
    have hm1 : ∀ s, mkS o1 d1 = .ok s → ∃ A1, SR X.K M G A1 H1 (σ.set i (some v1)) (env.set i s) ∧ VRel X.K (OM M A1 (env.set i s)) H1 σ (env.map Sl.fg) := fun s hs => by
      obtain ⟨A1, sr2, kp⟩ := sr.put (ow := o1) s1 r1 (fun z => fr1 (by have := hf.1; rw [z] at this; exact this)) hs i
      exact ⟨A1, sr2, sr.fg.go kp sr2.om⟩
    cases hs : mkS o1 d1 with
    | ok t1 =>
      obtain ⟨A1, sr2, vr2⟩ := hm1 t1 hs
      refine tD.use vr2 ((Gd.wp sr1.g g).mono (Same.refl H1) fun d2 e2 g v2 H2 s2 r2 fr2 => ?_)
      have g : Gd X.K M G W E ((storeP [(i, o1), (j, o2)] [d1, d2] env).ou env .nx) := g
      have g : Gd X.K M G W E ((((mkS o1 d1).rb fun s => (mkS o2 d2).rb fun s' => .ok ((env.set i s).set j s'))).ou env .nx) := g
      rw [hs] at g
      have g : Gd X.K M G W E (((mkS o2 d2).rb fun s' => .ok ((env.set i t1).set j s')).ou env .nx) := g
      cases hs2 : mkS o2 d2 with
      | ok t2 =>
        rw [hs2] at g
        obtain ⟨A2, sr3, _⟩ := sr2.put (ow := o2) s2 r2 (fun z => fr2 (by have := hf.2.1; rw [z] at this; exact this)) hs2 j
        exact ⟨v1, v2, rfl, g A2 _ _ sr3⟩
      | exn c =>
        cases o2 with
        | false => cases hs2
        | true => cases d2 <;> cases hs2
      | bad => rw [hs2] at g; exact g.elim
    | exn c =>
      cases o1 with
      | false => cases hs
      | true => cases d1 <;> cases hs
    | bad =>
      refine tD.use sr1.fg ((Gd.wp sr1.g g).mono (Same.refl H1) fun d2 e2 g v2 H2 s2 r2 fr2 => ?_)
      have g : Gd X.K M G W E ((((mkS o1 d1).rb fun s => (mkS o2 d2).rb fun s' => .ok ((env.set i s).set j s'))).ou env .nx) := g
      rw [hs] at g
      exact g.elim
  · rw [if_neg hf] at g; exact g.elim
/-! ### more than three names at once: by the tuple -/
def tEs (K : PySem.W.Frag) (W : WS) (φ : Phi) : Exs → TA
  | .nil => tNil
  | .cons p ps => tCons (tD K W φ p) (tEs K W φ ps)
theorem snd_tes : ∀ (ps : Exs) {W : WS} {sc osc : Scope} {X : Cx} (es : List Expr), XOk C n cl W sc osc X → mEs C ps sc es = true → PA X es (tEs X.K W (run C.T n) ps)
  | .nil, W, sc, osc, X, es, x, h => by
    cases es with
    | nil => exact pa_nil
    | cons e es => cases h
  | .cons p ps, W, sc, osc, X, es, x, h => by
    cases es with
    | nil => cases h
    | cons e es =>
      simp only [mEs, Bool.and_eq_true] at h
      exact pa_cons (snd_e p _ x h.2.1) (snd_tes ps _ x h.2.2) (star_cons h.1)
def setAll : List (Nat × Bool) → List V → L2.St → L2.St
  | (i, _) :: ts, v :: vs, σ => setAll ts vs (σ.set i (some v))
  | _, _, σ => σ
theorem gset {K : PySem.W.Frag} : ∀ (ts : List (Nat × Bool)) (vs : List V) (σ : L2.St) (H : Hp) (Q : L2.St → Hp → Prop), vs.length = ts.length → Q (setAll ts vs σ) H → gTgs K (nmTs ts) vs σ H Q
  | [], [], σ, H, Q, _, q => ⟨rfl, q⟩
  | [], v :: vs, σ, H, Q, h, _ => nomatch h
  | (i, o) :: ts, [], σ, H, Q, h, _ => nomatch h
  | (i, o) :: ts, v :: vs, σ, H, Q, h, q => ⟨v, vs, rfl, gset ts vs _ H Q (by simpa using h) q⟩
theorem par_bad {K : PySem.W.Frag} {E : Ends} {env0 : SE} {Mx : Addr → Prop} : ∀ (es : Exs) {H1 : Hp} {Q : List V → Hp → Prop}, Same G H1 → VRel K Mx H1 σ (env0.map Sl.fg) → Gd K M G W E ((evals φ es (env0.map Sl.fg)).ou env0 fun _ => .bad) → tEs K W φ es σ H1 Q
  | .nil, H1, Q, s, vr, g => False.elim g
  | .cons p ps, H1, Q, s, vr, g => by
    have g : Gd K M G W E (((eval φ p (env0.map Sl.fg)).rb fun x => (evals φ ps (env0.map Sl.fg)).rb fun xs => .ok (x :: xs)).ou env0 fun _ => .bad) := g
    rw [ou_rb'] at g
    refine tD.use vr ((Gd.wp s g).mono (Same.refl H1) fun d e g v H2 s2 r f => ?_)
    rw [ou_rb'] at g
    exact par_bad ps (s.trans s2) (vr.same s2) g
theorem par_go {K : PySem.W.Frag} {E : Ends} {env0 : SE} : ∀ (es : Exs) (ts : List (Nat × Bool)) {σ1 : L2.St} {env1 : SE} {A1 : Nat → Addr} {H1 : Hp} {Q : List V → Hp → Prop}, SR K M G A1 H1 σ1 env1 → VRel K (OM M A1 env1) H1 σ (env0.map Sl.fg) → freshP ts es = true →
    Gd K M G W E ((evals φ es (env0.map Sl.fg)).ou env0 fun ds => (storeP ts ds env1).ou env0 .nx) → (∀ vs H2, vs.length = ts.length → (∀ H3, Same H2 H3 → E.nx (setAll ts vs σ1) H3) → Q vs H2) → tEs K W φ es σ H1 Q
  | .nil, [], σ1, env1, A1, H1, Q, sr, vr, hf, g, hq => hq [] H1 rfl fun H3 s => g A1 σ1 H3 (sr.same s)
  | .nil, t :: ts, σ1, env1, A1, H1, Q, sr, vr, hf, g, hq => False.elim g
  | .cons p ps, [], σ1, env1, A1, H1, Q, sr, vr, hf, g, hq => by
    have g : Gd K M G W E (((eval φ p (env0.map Sl.fg)).rb fun x => (evals φ ps (env0.map Sl.fg)).rb fun xs => .ok (x :: xs)).ou env0 fun ds => (storeP [] ds env1).ou env0 .nx) := g
    rw [ou_rb'] at g
    refine tD.use vr ((Gd.wp sr.g g).mono (Same.refl H1) fun d e g v H2 s2 r f => ?_)
    rw [ou_rb'] at g
    exact par_bad ps (sr.g.trans s2) (vr.same s2) g
  | .cons p ps, (i, ow) :: ts, σ1, env1, A1, H1, Q, sr, vr, hf, g, hq => by
    have hf : ((!ow || fresh p) && freshP ts ps) = true := hf
    rw [Bool.and_eq_true] at hf
    have g : Gd K M G W E (((eval φ p (env0.map Sl.fg)).rb fun x => (evals φ ps (env0.map Sl.fg)).rb fun xs => .ok (x :: xs)).ou env0 fun ds => (storeP ((i, ow) :: ts) ds env1).ou env0 .nx) := g
    rw [ou_rb'] at g
    refine tD.use vr ((Gd.wp sr.g g).mono (Same.refl H1) fun d e g v H2 s2 r f => ?_)
    rw [ou_rb'] at g
    have g : Gd K M G W E ((evals φ ps (env0.map Sl.fg)).ou env0 fun ds => ((mkS ow d).rb fun s => storeP ts ds (env1.set i s)).ou env0 .nx) := g
    cases hs : mkS ow d with
    | ok t =>
      rw [hs] at g
      obtain ⟨A2, sr2, kp⟩ := sr.put (ow := ow) s2 r (fun z => f (by have := hf.1; rw [z] at this; exact this)) hs i
      exact par_go ps ts sr2 (vr.go kp sr2.om) hf.2 g fun vs H3 hl h => hq (v :: vs) H3 (by simp [hl]) h
    | exn c =>
      cases ow with
      | false => cases hs
      | true => cases d <;> cases hs
    | bad =>
      rw [hs] at g
      exact par_bad ps (sr.g.trans s2) (vr.same s2) g
theorem nm_len : ∀ ts : List (Nat × Bool), lenT (nmTs ts) = ts.length
  | [] => rfl
  | (i, o) :: ts => by
    show lenT (nmTs ts) + 1 = ts.length + 1
    rw [nm_len ts]
theorem mTgs_el : ∀ {ts : Tgs} {es : List Expr}, mTgs C sc ts es = true → es.length = lenT ts
  | .nil, [], _ => rfl
  | .nil, e :: es, h => nomatch h
  | .cons t ts, [], h => nomatch h
  | .cons t ts, e :: es, h => by
    simp only [mTgs, Bool.and_eq_true] at h
    show es.length + 1 = lenT ts + 1
    rw [mTgs_el h.2.2]
theorem r_parN {ts : List (Nat × Bool)} {es : Exs} {xs vs : List Expr} {k k2 : Nat} {p p2 pos : Pos} (h : XS C n cl W sc X) (hl : 3 < xs.length) (hl2 : xs.length < 64) (ht : mTgs C sc (nmTs ts) xs = true) (hm : mEs C es sc vs = true) :
    PS X (.Assign [.Tuple xs k p] (.Tuple vs k2 p2) pos) (tS X.K W (run C.T n) (.par ts es)) := by
  have g := s_tg h.x.hN h.x.nd h.x.calm (fun y hy => by rw [h.x.hsc]; exact h.x.tg y hy) (.tp (nmTs ts)) (.Tuple xs k p) ht
  refine (ps_asg (pe_tup (snd_tes es vs h.x hm)) g sw_tup (ss_none h.x.hsc (by unfold swN; rw [decide_eq_true hl]; rfl))).imp fun E σ H ⟨M, G, A, env, sr, q⟩ => ?_
  have q : Gd X.K M G W E (if freshP ts es = true then (evals (run C.T n) es (env.map Sl.fg)).ou env fun ds => (storeP ts ds env).ou env .nx else .bad) := q
  have hn := mTgs_el ht
  rw [nm_len] at hn
  by_cases hf : freshP ts es = true
  · rw [if_pos hf] at q
    refine par_go es ts sr sr.fg hf q fun vs H2 hlen hE => ⟨by rw [hlen, sizeLine_eq]; omega, fun l hl => ⟨l, vs, rfl, SqT.of upd_same, by rw [nm_len]; exact hlen, gset ts vs _ _ _ hlen (hE _ (same_upd hl))⟩⟩
  · rw [if_neg hf] at q; exact False.elim q
theorem r_ret {e : Ex} {v : Expr} {pos : Pos} (h : XS C n cl W sc X) (hm : mE C e sc v = true) : PS X (.Return (some v) pos) (tS X.K W (run C.T n) (.ret e)) := by
  by_cases hv : ∃ i, e = .var i
  · obtain ⟨i, rfl⟩ := hv
    cases v <;> first | (cases hm; done) | skip
    simp only [mE, Bool.and_eq_true] at hm
    refine (ps_ret (pe_var (by rw [h.x.hN]; exact of_decide_eq_true hm.1.1) (by rw [h.x.hsc]; exact vis_of hm.1.2) (okName_1 hm.2) (okName_2 hm.2))).imp fun E σ H ⟨M, G, A, env, sr, g⟩ => ?_
    have g : Gd X.K M G W E ((match (env.map Sl.vw)[i]? with | some (some d) => Res.ok d | _ => .bad).ou env fun d => .ret d (false || isOwn env (.var i))) := g
    rw [List.getElem?_map] at g
    have kM : Kp (OM M A env) M H H := kp_sub fun a o n _ z => n (.inl z)
    cases q : env[i]? with
    | none => rw [q] at g; exact g.elim
    | some s =>
      rw [q] at g
      cases s with
      | no => exact g.elim
      | sh d =>
        obtain ⟨v, e1, e2⟩ := sr.sh i d q
        refine ⟨v, e1, ?_⟩
        have eo : isOwn env (.var i) = false := by simp [isOwn, ownAt, q]
        have g : ∀ v H, Same G H → Rep X.K H M d v → ((false || isOwn env (.var i)) = true → Fr X.K G H M d v) → E.rt v H := g
        rw [eo] at g
        exact g v H sr.g (Rep.go kM _ _ e2) fun z => nomatch z
      | own xs =>
        obtain ⟨f1, f2, f3, vs, f4, f5⟩ := sr.ow i xs q
        refine ⟨_, f1, ?_⟩
        have g : ∀ v H, Same G H → Rep X.K H M (.lst xs) v → ((false || isOwn env (.var i)) = true → Fr X.K G H M (.lst xs) v) → E.rt v H := g
        have kA : Kp (OM M A env) (fun b => M b ∨ b = A i) H H := kp_sub fun a o n _ z => n (z.elim .inl fun z => .inr ⟨i, xs, q, z.symm⟩)
        refine g _ H sr.g ⟨A i, vs, rfl, f3, f4, Reps.go kM _ _ f5⟩ fun _ ys ey => ?_
        cases ey
        exact ⟨A i, vs, rfl, f2, f4, Reps.go kA _ _ f5⟩
  · refine (ps_ret (snd_e e v h.x hm)).imp fun E σ H ⟨M, G, A, env, sr, g⟩ => ?_
    refine ev_vw sr g fun d _ g v H1 s sr1 r f => ?_
    have eo : isOwn env e = false := by cases e <;> first | rfl | exact absurd ⟨_, rfl⟩ hv
    have g : ∀ v H, Same G H → Rep X.K H M d v → ((fresh e || isOwn env e) = true → Fr X.K G H M d v) → E.rt v H := g
    rw [eo, Bool.or_false] at g
    refine g v H1 sr1.g r fun z xs ex => ?_
    obtain ⟨a, vs, e1, e2, e3, e4⟩ := f z xs ex
    exact ⟨a, vs, e1, sr.g.free e2, e3, e4⟩
theorem r_retN {pos : Pos} : PS X (.Return none pos) (tS X.K W φ .retN) := ps_retN.imp fun E σ H ⟨M, G, A, env, sr, g⟩ =>
  (show ∀ v H, Same G H → Rep X.K H M .non v → (false = true → Fr X.K G H M .non v) → E.rt v H from g) .non H sr.g rfl fun z => nomatch z
theorem asg_sub {o i : Expr} {pos : Pos} {env : Env} (h : ixOk i = true) : ∀ v, assign (.Subscript o i pos) env v = (do
      let ov ← holding [v] (PySem.eval o env)
      let iv ← holding [v, ov] (PySem.eval i env)
      standAt pos
      holding [v, ov, iv] (setItem ov iv v)
      release [v, ov, iv] []) := by
  intro v
  cases i <;> first | rfl | (cases h; done)
theorem r_set {i : Nat} {k e : Ex} {x : Str} {kx v : Expr} {p1 p2 pos : Pos} (h : XS C n cl W sc X) (hi : C.N[i]? = some x) (hv : visB sc x = true) (ho : okName x = true) (hk : ixOk kx = true) (hmk : mE C k sc kx = true) (hm : mE C e sc v = true) :
    PS X (.Assign [.Subscript (.Name x p1) kx p2] v pos) (tS X.K W (run C.T n) (.set i k e)) := by
  refine (ps_asg (snd_e e v h.x hm) (pg_sub (pe_var (X := X) (pos := p1) (by rw [h.x.hN]; exact hi) (by rw [h.x.hsc]; exact vis_of hv) (okName_1 ho) (okName_2 ho)) (snd_e k kx h.x hmk) set_list (asg_sub hk)) sw_sub ss_sub).imp fun E σ H ⟨M, G, A, env, sr, q⟩ => ?_
  obtain ⟨xs, e1, q⟩ := Gd.own (show Gd X.K M G W E ((ofO (ownAt env i)).ou env fun xs => (evalS (run C.T n) true e env).ou env fun d => (eval (run C.T n) k (env.map Sl.vw)).ou env fun x => (asInt x).ou env fun n =>
      match L2.ixN xs.length n with
      | some j => .nx (env.set i (.own (xs.set j d)))
      | none => .bad) from q)
  refine ev_st sr q fun d g y H1 s sr1 r f => ?_
  obtain ⟨f1, f2, f3, vs, f4, f5⟩ := sr1.ow i xs e1
  refine ⟨_, f1, ?_⟩
  refine ev_vw sr1 g fun dk _ g kv H2 s2 sr2 rk _ => ?_
  cases dk <;> first | (exact g.elim) | skip
  cases rk
  rename_i m _ _
  have g : Gd X.K M G W E (match L2.ixN xs.length m with
      | some j => .nx (env.set i (.own (xs.set j d)))
      | none => .bad) := g
  cases hj : L2.ixN xs.length m with
  | none => rw [hj] at g; exact g.elim
  | some j =>
    rw [hj] at g
    refine ⟨A i, vs, m, j, rfl, rfl, s2 _ _ f4, by rw [f5.length]; exact hj, ?_⟩
    exact g A _ _ (sr2.mut e1 (Reps.set (r.same s2) j (f5.same s2)))
end PL
-- C17
set_option Elab.async false
set_option linter.all false
set_option maxRecDepth 100000
set_option maxHeartbeats 8000000
/-! C17: the rule for statements: blocks, loops, all. -/
namespace PL
open PySem PySem.Spec PyProof.Rows L2
variable {C : Cxt} {n : Nat} {cl : Str → Value} {W : WS} {sc : Scope} {X : Cx} {H H' H1 H2 G : Hp} {M M' : Addr → Prop} {A A1 : Nat → Addr} {σ : L2.St} {env env1 : SE} {φ : Phi}
theorem r_ite {c : Ex} {a b : Sts} {c' : Expr} {a' b' : List Stmt} {pos : Pos} (hc : PT X c' (tDt X.K W φ c)) (ha : PSs X a' (tSs X.K W φ a)) (hb : PSs X b' (tSs X.K W φ b)) : PS X (.If c' a' b' pos) (tS X.K W φ (.ite c a b)) := by
  refine (ps_if hc ha hb).imp fun E σ H ⟨M, G, A, env, sr, g⟩ => ?_
  refine ⟨M, _, sr.vw, (Gd.wp sr.g g).mono (Same.refl H) fun d e1 g => ?_⟩
  cases d <;> first | (exact g.elim) | skip
  rename_i t
  refine ⟨t, rfl, fun H1 s => ?_⟩
  cases t with
  | true => exact iteT ⟨M, G, A, env, sr.same s, g⟩
  | false => exact iteF ⟨M, G, A, env, sr.same s, g⟩
theorem r_nil : PSs X [] (tSs X.K W φ .nil) := pss_nil.imp fun E σ H ⟨M, G, A, env, sr, g⟩ => g A σ H sr
theorem r_cons {s : PL.St} {r : Sts} {x : Stmt} {ss : List Stmt} (h1 : PS X x (tS X.K W φ s)) (h2 : PSs X ss (tSs X.K W φ r)) : PSs X (x :: ss) (tSs X.K W φ (.cons s r)) := by
  refine (pss_cons h1 h2).imp fun E σ H ⟨M, G, A, env, sr, g⟩ => ⟨M, G, A, env, sr, ?_⟩
  have g : Gd X.K M G W E ((exec φ s env).th fun e => execs φ r e) := g
  cases q : exec φ s env with
  | nx e => rw [q] at g; exact fun A1 σ1 H1 sr1 => ⟨M, G, A1, e, sr1, g⟩
  | ret d f => rw [q] at g; exact g
  | bk e => rw [q] at g; exact g
  | ct e => rw [q] at g; exact g
  | ex c e => rw [q] at g; exact g
  | bad => rw [q] at g; exact g
theorem r_share {l : List Nat} {r : Sts} {ss : List Stmt} (h2 : PSs X ss (tSs X.K W φ r)) : PSs X ss (tSs X.K W φ (.cons (.share l) r)) :=
  h2.imp fun E σ H ⟨M, G, A, env, sr, g⟩ => ⟨M, G, A, _, sr.share l, g⟩
theorem loop_cons {step : D → SE → Out} {kill : List Nat} {d : D} {ds : List D} {e : SE} : loopF step kill (d :: ds) e = match step d e with
    | .nx e => loopF step kill ds (kl kill e)
    | .ct e => loopF step kill ds (kl kill e)
    | .bk e => .nx (kl kill e)
    | o => o := rfl
theorem own_kl : ∀ (l : List Nat) {env : SE} {j : Nat} {xs : List D}, (kl l env)[j]? = some (.own xs) → env[j]? = some (.own xs)
  | [], _, _, _, h => h
  | i :: l, _, _, _, h => by
    rcases set_get (own_kl l h) with ⟨_, _, z⟩ | ⟨_, z⟩
    · cases z
    · exact z
/-- the body's ends within a loop -/
theorem loop_end {E : Ends} {N : L2.St → Hp → Prop} {K : PySem.W.Frag} {G' : Hp} {o : Out} {f : SE → Out} {kill : List Nat} (s : Same G G') (hN : ∀ A σ H e, SR K M G' A H σ e → Gd K M G W E (f e) → N σ H)
    (g : Gd K M G W E (match o with
      | .nx e => f (kl kill e)
      | .ct e => f (kl kill e)
      | .bk e => .nx (kl kill e)
      | o => o)) : Gd K M G' W { E with nx := N, ct := N, bk := E.nx } o := by
  cases o with
  | nx e => exact fun A σ H sr => hN A σ H _ (sr.kl kill) g
  | ct e => exact fun A σ H sr => hN A σ H _ (sr.kl kill) g
  | bk e => exact fun A σ H sr => g A σ H ((sr.kl kill).weak s)
  | ret d f =>
    exact fun v H s' r fr => g v H (s.trans s') r fun z xs e => by
      obtain ⟨a, vs, e1, e2, e3, e4⟩ := fr z xs e
      exact ⟨a, vs, e1, s.free e2, e3, e4⟩
  | ex c e => exact fun σ H s' => g σ H (s.trans s')
  | bad => exact g
theorem Gd.end_ {E : Ends} {K : PySem.W.Frag} {e : SE} (g : Gd K M G W E (.nx e)) (sr : SR K M G A H σ e) : E.nx σ H := g A σ H sr
open Classical in
theorem r_for {tg : Tg} {it : PL.It} {body : Sts} {kill : List Nat} {t i : Expr} {b : List Stmt} {pos : Pos} (h : XS C n cl W sc X) (hset : notSet i = true) (hi : PI X t i (tDi X.K W φ it)) (hg : PG X t (gTg X.K tg)) (hb : PSs X b (tSs X.K W φ body)) :
    PS X (.For t i b [] pos) (tS X.K W φ (.for_ tg it body kill)) := by
  refine (ps_for h.po h.x.calm hi hg hb (foldSet hset)).imp fun E σ H ⟨M, G, A, env, sr, g⟩ => ?_
  refine ⟨_, _, sr.fg, (Gd.wp sr.g g).mono (Same.refl H) fun ds e1 g J H1 s1 wk => ?_⟩
  have sr1 := sr.same s1
  have sr2 := sr1.kl kill
  generalize hstep : (fun (d : D) (e : SE) => (bindS tg d e).ou e fun e1 => execs φ body e1) = step at g
  have hG0 : Same (hid (OM M A env) H1) (hid (OW A (kl kill env)) H1) := fun a o e => by
    by_cases ha : OM M A env a
    · rw [hid_none ha] at e; cases e
    · refine hid_at (fun z => ha ?_) (hid_same a o e)
      obtain ⟨j, xs, ej, rfl⟩ := z
      exact .inr ⟨j, xs, own_kl kill ej, rfl⟩
  have hM0 : ∀ a, OM M A env a → hid (OM M A env) H1 a = none := fun a ha => hid_none ha
  refine ⟨fun i m σ H => m = ds.length - i ∧ i ≤ ds.length ∧ ∃ A' e, SR X.K M (hid (OW A (kl kill env)) H1) A' H σ e ∧ Gd X.K M G W E (loopF step kill (ds.drop i) e), ⟨ds.length, rfl, Nat.zero_le _, A, kl kill env, sr2.strong, g⟩, ?_⟩
  rintro i m σ2 H2 ⟨rfl, hi, A', e, sr3, g⟩
  have hG : Same (hid (OM M A env) H1) H2 := hG0.trans sr3.g
  obtain ⟨w1, w2⟩ := wk H2 hG
  have gw : Same G (hid (OW A (kl kill env)) H1) := sr2.gh
  by_cases hlt : i < ds.length
  · refine .inr ?_
    obtain ⟨go, yl⟩ := w1 i ds[i] (List.getElem?_eq_getElem hlt)
    rw [List.drop_eq_getElem_cons hlt, loop_cons] at g
    refine ⟨go, fun σ H => ∃ A' e, SR X.K M (hid (OW A (kl kill env)) H1) A' H σ e ∧ Gd X.K M G W E (loopF step kill (ds.drop (i + 1)) e), fun σ' H' ⟨A', e, z1, z2⟩ => ⟨ds.length - (i + 1), by omega, rfl, hlt, A', e, z1, z2⟩, fun x H3 y => ?_⟩
    obtain ⟨s3, rx⟩ := yl x H3 y
    have hMn : ∀ a, OM M A' e a → hid (OM M A env) H1 a = none := fun a ha => by
      rcases ha with ha | ⟨j, xs, ej, rfl⟩
      · exact hM0 a (.inl ha)
      · obtain ⟨_, f2, _⟩ := sr3.ow j xs ej
        exact hG0.free f2
    have r3 := rx _ sr3.om hMn
    have sr4 := sr3.same s3
    subst hstep
    cases hb : bindS tg ds[i] e with
    | ok e2 =>
      refine gS tg ds[i] x σ2 e e2 _ _ sr4 r3 (fun _ h => h) hb fun σ5 sr5 _ => ⟨M, _, A', e2, sr5, ?_⟩
      have g : Gd X.K M G W E (match (bindS tg ds[i] e).ou e fun e1 => execs φ body e1 with
        | .nx e => loopF _ kill (ds.drop (i + 1)) (kl kill e)
        | .ct e => loopF _ kill (ds.drop (i + 1)) (kl kill e)
        | .bk e => .nx (kl kill e)
        | o => o) := g
      rw [hb] at g
      exact loop_end (f := fun e => loopF _ kill (ds.drop (i + 1)) e) gw (fun A6 σ6 H6 e6 s6 g6 => ⟨A6, e6, s6, g6⟩) g
    | exn c => exact absurd hb (nx_bindS _ _ _ c)
    | bad =>
      have g : Gd X.K M G W E (match (bindS tg ds[i] e).ou e fun e1 => execs φ body e1 with
        | .nx e => loopF _ kill (ds.drop (i + 1)) (kl kill e)
        | .ct e => loopF _ kill (ds.drop (i + 1)) (kl kill e)
        | .bk e => .nx (kl kill e)
        | o => o) := g
      rw [hb] at g; exact g.elim
  · refine .inl ?_
    have ei : i = ds.length := by omega
    subst ei
    rw [List.drop_length] at g
    exact ⟨w2, Gd.end_ g (sr3.weak gw)⟩
open Classical in
theorem r_forR {tg : Tg} {it : PL.It} {body : Sts} {kill : List Nat} {t i : Expr} {b : List Stmt} {pos : Pos} (h : XS C n cl W sc X) (hset : notSet i = true) (hr : isRng it = true) (hi : PI X t i (tDiR X.K W φ it)) (hg : PG X t (gTg X.K tg)) (hb : PSs X b (tSs X.K W φ body)) :
    PS X (.For t i b [] pos) (tS X.K W φ (.forR tg it body kill)) := by
  refine (ps_for h.po h.x.calm hi hg hb (foldSet hset)).imp fun E σ H ⟨M, G, A, env, sr, g⟩ => ?_
  have g : Gd X.K M G W E (if isRng it = true then (evalI φ it (env.map Sl.vw)).ou env fun ds => loopF (fun d e => (bindS tg d e).ou e fun e1 => execs φ body e1) kill ds (kl kill env) else .bad) := g
  rw [if_pos hr] at g
  refine ⟨_, _, sr.vw, (Gd.wp sr.g g).mono (Same.refl H) fun ds e1 g J H1 s1 wk => ?_⟩
  have wk := wk fun _ => none
  have sr1 := sr.same s1
  have sr2 := sr1.kl kill
  generalize hstep : (fun (d : D) (e : SE) => (bindS tg d e).ou e fun e1 => execs φ body e1) = step at g
  have hG0 : Same (fun _ => none) (hid (OW A (kl kill env)) H1) := fun a o e => nomatch e
  have hM0 : ∀ a, OM M A env a → (fun _ => none : Hp) a = none := fun a ha => rfl
  refine ⟨fun i m σ H => m = ds.length - i ∧ i ≤ ds.length ∧ ∃ A' e, SR X.K M (hid (OW A (kl kill env)) H1) A' H σ e ∧ Gd X.K M G W E (loopF step kill (ds.drop i) e), ⟨ds.length, rfl, Nat.zero_le _, A, kl kill env, sr2.strong, g⟩, ?_⟩
  rintro i m σ2 H2 ⟨rfl, hi, A', e, sr3, g⟩
  have hG : Same (fun _ => none) H2 := fun a o e => nomatch e
  obtain ⟨w1, w2⟩ := wk H2 hG
  have gw : Same G (hid (OW A (kl kill env)) H1) := sr2.gh
  by_cases hlt : i < ds.length
  · refine .inr ?_
    obtain ⟨go, yl⟩ := w1 i ds[i] (List.getElem?_eq_getElem hlt)
    rw [List.drop_eq_getElem_cons hlt, loop_cons] at g
    refine ⟨go, fun σ H => ∃ A' e, SR X.K M (hid (OW A (kl kill env)) H1) A' H σ e ∧ Gd X.K M G W E (loopF step kill (ds.drop (i + 1)) e), fun σ' H' ⟨A', e, z1, z2⟩ => ⟨ds.length - (i + 1), by omega, rfl, hlt, A', e, z1, z2⟩, fun x H3 y => ?_⟩
    obtain ⟨s3, rx⟩ := yl x H3 y
    have hMn : ∀ a, OM M A' e a → (fun _ => none : Hp) a = none := fun a ha => rfl
    have r3 := rx _ sr3.om hMn
    have sr4 := sr3.same s3
    subst hstep
    cases hb : bindS tg ds[i] e with
    | ok e2 =>
      refine gS tg ds[i] x σ2 e e2 _ _ sr4 r3 (fun _ h => h) hb fun σ5 sr5 _ => ⟨M, _, A', e2, sr5, ?_⟩
      have g : Gd X.K M G W E (match (bindS tg ds[i] e).ou e fun e1 => execs φ body e1 with
        | .nx e => loopF _ kill (ds.drop (i + 1)) (kl kill e)
        | .ct e => loopF _ kill (ds.drop (i + 1)) (kl kill e)
        | .bk e => .nx (kl kill e)
        | o => o) := g
      rw [hb] at g
      exact loop_end (f := fun e => loopF _ kill (ds.drop (i + 1)) e) gw (fun A6 σ6 H6 e6 s6 g6 => ⟨A6, e6, s6, g6⟩) g
    | exn c => exact absurd hb (nx_bindS _ _ _ c)
    | bad =>
      have g : Gd X.K M G W E (match (bindS tg ds[i] e).ou e fun e1 => execs φ body e1 with
        | .nx e => loopF _ kill (ds.drop (i + 1)) (kl kill e)
        | .ct e => loopF _ kill (ds.drop (i + 1)) (kl kill e)
        | .bk e => .nx (kl kill e)
        | o => o) := g
      rw [hb] at g; exact g.elim
  · refine .inl ?_
    have ei : i = ds.length := by omega
    subst ei
    rw [List.drop_length] at g
    exact ⟨w2, Gd.end_ g (sr3.weak gw)⟩
theorem while_succ {test : SE → Res Bool} {step : SE → Out} {kill : List Nat} {m : Nat} {e : SE} : whileF test step kill (m + 1) e = (test e).ou e fun t => if t then (match step e with
    | .nx e => whileF test step kill m (kl kill e)
    | .ct e => whileF test step kill m (kl kill e)
    | .bk e => .nx (kl kill e)
    | o => o) else .nx e := rfl
theorem r_while {k : Nat} {c : Ex} {body : Sts} {kill : List Nat} {c' : Expr} {b : List Stmt} {pos : Pos} (h : XS C n cl W sc X) (hc : PT X c' (tDt X.K W φ c)) (hb : PSs X b (tSs X.K W φ body)) :
    PS X (.While c' b [] pos) (tS X.K W φ (.whl k c body kill)) := by
  refine (ps_while h.po hc hb).imp fun E σ H ⟨M, G, A, env, sr, g⟩ => ?_
  have g : Gd X.K M G W E (whileF (fun e => (eval φ c (e.map Sl.vw)).rb asBl) (fun e => execs φ body e) kill k (kl kill env)) := g
  refine ⟨fun m σ H => ∃ A e, SR X.K M G A H σ e ∧ Gd X.K M G W E (whileF (fun e => (eval φ c (e.map Sl.vw)).rb asBl) (fun e => execs φ body e) kill m e), ⟨k, A, _, sr.kl kill, g⟩, ?_⟩
  rintro m σ1 H1 ⟨A1, e, sr1, g⟩
  cases m with
  | zero => exact g.elim
  | succ m =>
    rw [while_succ] at g
    rw [ou_rb'] at g
    refine ⟨M, _, sr1.vw, (Gd.wp sr1.g g).mono (Same.refl H1) fun d e1 g => ?_⟩
    cases d <;> first | (exact g.elim) | skip
    rename_i t
    refine ⟨t, rfl, fun H2 s2 => ?_⟩
    have g : Gd X.K M G W E (if t = true then (match execs φ body e with
      | .nx e => whileF (fun e => (eval φ c (e.map Sl.vw)).rb asBl) (fun e => execs φ body e) kill m (kl kill e)
      | .ct e => whileF (fun e => (eval φ c (e.map Sl.vw)).rb asBl) (fun e => execs φ body e) kill m (kl kill e)
      | .bk e => .nx (kl kill e)
      | o => o) else .nx e) := g
    cases t with
    | false => exact iteF (Gd.end_ g (sr1.same s2))
    | true =>
      refine iteT ⟨fun σ H => ∃ A e, SR X.K M G A H σ e ∧ Gd X.K M G W E (whileF (fun e => (eval φ c (e.map Sl.vw)).rb asBl) (fun e => execs φ body e) kill m e), fun σ' H' z => ⟨m, Nat.lt_succ_self m, z⟩, M, G, A1, e, sr1.same s2, ?_⟩
      exact loop_end (f := fun e => whileF (fun e => (eval φ c (e.map Sl.vw)).rb asBl) (fun e => execs φ body e) kill m e) (Same.refl G) (fun A6 σ6 H6 e6 s6 g6 => ⟨A6, e6, s6, g6⟩) g
end PL
-- C18
set_option Elab.async false
set_option linter.all false
set_option maxRecDepth 100000
set_option maxHeartbeats 8000000
/-! C18: what the look took is worth what the pure statements are. -/
namespace PL
open PySem PySem.Spec PyProof.Rows L2
variable {C : Cxt} {n : Nat} {cl : Str → Value} {W : WS} {sc : Scope} {X : Cx}
theorem b4 {a b : Bool} (h : (a && b) = true) : a = true ∧ b = true := by simpa using h
theorem nt {a : Bool} (h : (!a) = true) : a = false := by simpa using h
theorem mS_name {fl ow : Bool} {i : Nat} {e : Ex} {st : Stmt} (h : mS C sc (.asg fl ow (.nm i) e) st = true) : ∃ x p v pos, st = .Assign [.Name x p] v pos ∧ C.N[i]? = some x ∧ locB sc x = true ∧ mE C e sc v = true := by
  unfold mS at h
  split at h
  all_goals first | (cases h; done) | (rename_i z; cases z; done) | (rename_i z _; cases z; done) | skip
  rename_i z; cases z
  simp only [Bool.and_eq_true] at h
  exact ⟨_, _, _, _, rfl, of_decide_eq_true h.1.1, h.1.2, h.2⟩
theorem mS_tup {fl ow : Bool} {ts : Tgs} {e : Ex} {st : Stmt} (h : mS C sc (.asg fl ow (.tp ts) e) st = true) : ∃ es k p v pos, st = .Assign [.Tuple es k p] v pos ∧ mTgs C sc ts es = true ∧ mE C e sc v = true ∧ swN sc es v = true := by
  unfold mS at h
  split at h
  all_goals first | (cases h; done) | (rename_i z; cases z; done) | (rename_i z _; cases z; done) | skip
  rename_i z; cases z
  simp only [Bool.and_eq_true] at h
  exact ⟨_, _, _, _, _, rfl, h.1.1, h.1.2, h.2⟩
theorem mS_par {ts : List (Nat × Bool)} {es : Exs} {st : Stmt} (h : mS C sc (.par ts es) st = true) (hx : XS C n cl W sc X) : PS X st (tS X.K W (run C.T n) (.par ts es)) := by
  unfold mS at h
  split at h
  all_goals first | (cases h; done) | (rename_i z; cases z; done) | (rename_i z _; cases z; done) | skip
  · rename_i z; cases z
    simp only [Bool.and_eq_true] at h
    obtain ⟨⟨⟨⟨⟨⟨⟨⟨⟨⟨⟨h1, h2⟩, h3⟩, h4⟩, h5⟩, h6⟩, h7⟩, h8⟩, h9⟩, h10⟩, h11⟩, h12, h13⟩ := h
    exact r_par2 hx (of_decide_eq_true h1) (of_decide_eq_true h2) (of_decide_eq_true h3) h4 h5 (of_decide_eq_true h6) (of_decide_eq_true h7) h8 h9 (nt h10) (nt h11) h12 h13
  · rename_i z; cases z
    simp only [Bool.and_eq_true] at h
    obtain ⟨⟨⟨h1, h2⟩, h3⟩, h4⟩ := h
    exact r_parN hx (of_decide_eq_true h1) (of_decide_eq_true h2) h3 h4
theorem mS_ex {e : Ex} {st : Stmt} (h : mS C sc (.ex e) st = true) : ∃ v pos, st = .Expr v pos ∧ isLC v = false ∧ mE C e sc v = true := by
  unfold mS at h
  split at h
  all_goals first | (cases h; done) | (rename_i z; cases z; done) | (rename_i z _; cases z; done) | skip
  rename_i z; cases z
  simp only [Bool.and_eq_true] at h
  exact ⟨_, _, rfl, nt h.1, h.2⟩
theorem mS_app {fl : Bool} {i : Nat} {e : Ex} {st : Stmt} (h : mS C sc (.app fl i e) st = true) (hx : XS C n cl W sc X) : PS X st (tS X.K W (run C.T n) (.app fl i e)) := by
  unfold mS at h
  split at h
  all_goals first | (cases h; done) | (rename_i z; cases z; done) | (rename_i z _; cases z; done) | skip
  rename_i z; cases z
  simp only [Bool.and_eq_true] at h
  obtain ⟨⟨⟨⟨⟨⟨h1, h2⟩, h3⟩, h4⟩, h5⟩, h6⟩, h7⟩ := h
  obtain rfl := of_decide_eq_true h1
  exact r_app hx (of_decide_eq_true h2) h3 h4 h5 h6 h7
theorem mS_ext {fl : Bool} {i : Nat} {e : Ex} {st : Stmt} (h : mS C sc (.ext fl i e) st = true) (hx : XS C n cl W sc X) : PS X st (tS X.K W (run C.T n) (.ext fl i e)) := by
  unfold mS at h
  split at h
  all_goals first | (cases h; done) | (rename_i z; cases z; done) | (rename_i z _; cases z; done) | skip
  rename_i z; cases z
  simp only [Bool.and_eq_true] at h
  obtain ⟨⟨⟨⟨⟨⟨h1, h2⟩, h3⟩, h4⟩, h5⟩, h6⟩, h7⟩ := h
  obtain rfl := of_decide_eq_true h1
  exact r_ext hx (of_decide_eq_true h2) h3 h4 h5 h6 h7
theorem mS_set {i : Nat} {k e : Ex} {st : Stmt} (h : mS C sc (.set i k e) st = true) (hx : XS C n cl W sc X) : PS X st (tS X.K W (run C.T n) (.set i k e)) := by
  unfold mS at h
  split at h
  all_goals first | (cases h; done) | (rename_i z; cases z; done) | (rename_i z _; cases z; done) | skip
  rename_i z; cases z
  simp only [Bool.and_eq_true] at h
  obtain ⟨⟨⟨⟨h1, h2⟩, h3⟩, h4⟩, h5, h6⟩ := h
  exact r_set hx (of_decide_eq_true h1) h2 h3 h4 h5 h6
theorem mS_for {tg : Tg} {it : PL.It} {body : Sts} {kill : List Nat} {st : Stmt} (h : mS C sc (.for_ tg it body kill) st = true) : ∃ t i b pos, st = .For t i b [] pos ∧ mTg C sc tg t = true ∧ tgOk it t = true ∧ mI C it sc i = true ∧ mSs C sc body b = true := by
  unfold mS at h
  split at h
  all_goals first | (cases h; done) | (rename_i z; cases z; done) | (rename_i z _; cases z; done) | skip
  rename_i z; cases z
  simp only [Bool.and_eq_true] at h
  exact ⟨_, _, _, _, rfl, h.1.1.1, h.1.1.2, h.1.2, h.2⟩
theorem mS_forR {tg : Tg} {it : PL.It} {body : Sts} {kill : List Nat} {st : Stmt} (h : mS C sc (.forR tg it body kill) st = true) : ∃ t i b pos, st = .For t i b [] pos ∧ mTg C sc tg t = true ∧ isRng it = true ∧ mI C it sc i = true ∧ mSs C sc body b = true := by
  unfold mS at h
  split at h
  all_goals first | (cases h; done) | (rename_i z; cases z; done) | (rename_i z _; cases z; done) | skip
  rename_i z; cases z
  simp only [Bool.and_eq_true] at h
  exact ⟨_, _, _, _, rfl, h.1.1.1, h.1.1.2, h.1.2, h.2⟩
theorem mS_while {k : Nat} {c : Ex} {body : Sts} {kill : List Nat} {st : Stmt} (h : mS C sc (.whl (k + 1) c body kill) st = true) : ∃ c' b pos, st = .While c' b [] pos ∧ tstE c = true ∧ mE C c sc c' = true ∧ mSs C sc body b = true := by
  unfold mS at h
  split at h
  all_goals first | (cases h; done) | (rename_i z; cases z; done) | (rename_i z _; cases z; done) | skip
  rename_i z; cases z
  simp only [Bool.and_eq_true] at h
  exact ⟨_, _, _, rfl, h.1.1, h.1.2, h.2⟩
theorem never (φ : Phi) {c : Ex} {body : Sts} {kill : List Nat} {st : Stmt} : PS X st (tS X.K W φ (.whl 0 c body kill)) := ps_never.imp fun E σ H ⟨M, G, A, env, sr, g⟩ => g
theorem mSs_share {l : List Nat} {r : Sts} {ss : List Stmt} (h : mSs C sc (.cons (.share l) r) ss = true) : mSs C sc r ss = true := by
  cases ss <;> exact h
theorem mSs_cons {s : PL.St} {r : Sts} {ss : List Stmt} (h : mSs C sc (.cons s r) ss = true) (hs : ∀ l, s ≠ .share l) : ∃ x xs, ss = x :: xs ∧ mS C sc s x = true ∧ mSs C sc r xs = true := by
  cases ss with
  | nil => cases s <;> first | (cases h; done) | exact absurd rfl (hs _)
  | cons x xs =>
    cases s <;> first | exact absurd rfl (hs _) | exact ⟨x, xs, rfl, b4 h⟩
mutual
theorem snd_s : ∀ (s : PL.St) (st : Stmt), XS C n cl W sc X → mS C sc s st = true → PS X st (tS X.K W (run C.T n) s)
  | .asg fl ow (.nm i) e, st, hx, h => by
    obtain ⟨x, p, v, pos, rfl, h1, h2, h3⟩ := mS_name h
    exact r_name hx h1 h2 h3
  | .asg fl ow (.tp ts) e, st, hx, h => by
    obtain ⟨es, k, p, v, pos, rfl, h1, h2, h3⟩ := mS_tup h
    exact r_tup hx h1 h2 h3
  | .par ts es, st, hx, h => mS_par h hx
  | .ex e, st, hx, h => by
    obtain ⟨v, pos, rfl, h1, h2⟩ := mS_ex h
    exact r_ex hx h1 h2
  | .app fl i e, st, hx, h => mS_app h hx
  | .ext fl i e, st, hx, h => mS_ext h hx
  | .set i k e, st, hx, h => mS_set h hx
  | .ret e, st, hx, h => by
    cases st <;> first | (cases h; done) | skip
    rename_i v pos
    cases v with
    | none => cases h
    | some v => exact r_ret hx h
  | .retN, st, hx, h => by
    cases st <;> first | (cases h; done) | skip
    rename_i v pos
    cases v with
    | some v => cases h
    | none => exact r_retN
  | .ite c a b, st, hx, h => by
    cases st <;> first | (cases h; done) | skip
    obtain ⟨h1, h2⟩ := b4 h
    obtain ⟨h3, h4⟩ := b4 h1
    obtain ⟨h5, h6⟩ := b4 h2
    exact r_ite (snd_t c _ hx.x h3 h4) (snd_ss a _ hx h5) (snd_ss b _ hx h6)
  | .for_ tg it body kill, st, hx, h => by
    obtain ⟨t, i, b, pos, rfl, h1, h2, h3, h4⟩ := mS_for h
    exact r_for hx (mI_set h3) (snd_I it t i hx.x h2 h3) (s_tg hx.x.hN hx.x.nd hx.x.calm (fun y hy => by rw [hx.x.hsc]; exact hx.x.tg y hy) tg t h1) (snd_ss body b hx h4)
  | .forR tg it body kill, st, hx, h => by
    obtain ⟨t, i, b, pos, rfl, h1, h2, h3, h4⟩ := mS_forR h
    exact r_forR hx (mI_set h3) h2 (snd_IR it t i hx.x h2 h3) (s_tg hx.x.hN hx.x.nd hx.x.calm (fun y hy => by rw [hx.x.hsc]; exact hx.x.tg y hy) tg t h1) (snd_ss body b hx h4)
  | .whl 0 c body kill, st, hx, h => never _
  | .whl (k + 1) c body kill, st, hx, h => by
    obtain ⟨c', b, pos, rfl, h1, h2, h3⟩ := mS_while h
    exact r_while hx (snd_t c c' hx.x h1 h2) (snd_ss body b hx h3)
  | .brk, st, hx, h => by
    cases st <;> first | (cases h; done) | skip
    exact ps_break.imp fun E σ H ⟨M, G, A, env, sr, g⟩ => g A σ H sr
  | .cnt, st, hx, h => by
    cases st <;> first | (cases h; done) | skip
    exact ps_continue.imp fun E σ H ⟨M, G, A, env, sr, g⟩ => g A σ H sr
  | .pass, st, hx, h => by
    cases st <;> first | (cases h; done) | skip
    exact ps_pass.imp fun E σ H ⟨M, G, A, env, sr, g⟩ => g A σ H sr
  | .raise c, st, hx, h => by cases st <;> cases h
  | .share l, st, hx, h => by cases st <;> cases h
theorem snd_ss : ∀ (s : Sts) (st : List Stmt), XS C n cl W sc X → mSs C sc s st = true → PSs X st (tSs X.K W (run C.T n) s)
  | .nil, st, hx, h => by
    cases st with
    | nil => exact r_nil
    | cons _ _ => cases h
  | .cons s r, st, hx, h => by
    by_cases hs : ∃ l, s = .share l
    · obtain ⟨l, rfl⟩ := hs
      exact r_share (snd_ss r st hx (mSs_share h))
    · obtain ⟨x, xs, rfl, h1, h2⟩ := mSs_cons h (fun l e => hs ⟨l, e⟩)
      exact r_cons (snd_s s x hx h1) (snd_ss r xs hx h2)
end
end PL
-- C19
set_option Elab.async false
set_option linter.all false
set_option maxRecDepth 100000
set_option maxHeartbeats 8000000
/-! C19: every def keeps the promise of its pure form; the law's end. -/
namespace PL
open PySem PySem.Spec PyProof.Rows L2
/-- a def's text is that of its pure form -/
structure DefOk (K : PySem.W.Frag) (mg : Str → Option Value) (T : List FnD) (cs : List (Str × D)) (f : FnD) (a : Addr) (fd : FuncData) : Prop where
  ex : ∃ (qual : Str) (params : Arguments) (body : List Stmt) (scope : Scope), FunD K f.name qual params body scope [] [] a fd ∧ mg f.name = some (.ref a) ∧ Binds K fd (f.names.take f.np) [] ∧
    FnScope f.names (f.names.take f.np) scope ∧ mSs ⟨f.names, T, cs⟩ scope f.body body = true
  np : f.np ≤ f.names.length
theorem start_sr {K : PySem.W.Frag} {M : Addr → Prop} {H : Hp} {ds : List D} {vs : List V} {N : List Str} (m : MOk M H) (r : Reps K H M ds vs) (hl : vs.length ≤ N.length) :
    SR K M H (fun _ => 0) H (L2.start N vs) (ds.map .sh ++ List.replicate (N.length - ds.length) .no) := by
  have hlen := r.length
  have key : ∀ (i : Nat) (s : Sl), (ds.map Sl.sh ++ List.replicate (N.length - ds.length) .no)[i]? = some s → s = .no ∨ ∃ d, s = .sh d ∧ ds[i]? = some d := fun i s e => by
    by_cases hi : i < ds.length
    · rw [List.getElem?_append_left (by simpa using hi), List.getElem?_map] at e
      cases q : ds[i]? with
      | none => rw [q] at e; cases e
      | some d => rw [q] at e; cases e; exact .inr ⟨d, rfl, rfl⟩
    · rw [List.getElem?_append_right (by simpa using hi), List.getElem?_replicate] at e
      split at e
      · cases e; exact .inl rfl
      · cases e
  have noow : ∀ (i : Nat) (xs : List D), (ds.map Sl.sh ++ List.replicate (N.length - ds.length) .no)[i]? ≠ some (.own xs) := fun i xs e => by
    rcases key i _ e with z | ⟨d, z, _⟩ <;> cases z
  refine ⟨m, Same.refl H, ?_, fun i xs e => absurd e (noow i xs), fun i j xs ys e => absurd e (noow i xs), fun i d e => ?_⟩
  · unfold L2.start
    simp only [List.length_append, List.length_map, List.length_replicate, hlen]
  · rcases key i _ e with z | ⟨d', z, ed⟩
    · cases z
    · cases z
      obtain ⟨v, e1, e2⟩ := r.get ed
      refine ⟨v, ?_, Rep.go (kp_sub fun a o n _ z => z.elim n fun ⟨j, xs, ej, _⟩ => noow j xs ej) _ _ e2⟩
      unfold L2.start
      have hi : i < vs.length := by
        by_cases h : i < vs.length
        · exact h
        · rw [List.getElem?_eq_none (by omega)] at e1; cases e1
      rw [List.getElem?_append_left (by simpa using hi), List.getElem?_map, e1]; rfl
theorem fns_ok {P : Program} {w : World} {K : PySem.W.Frag} {mg : Str → Option Value} {base : Heap} {T : List FnD} {cs : List (Str × D)} (cl : Str → Value)
    (hD : ∀ (i : Nat) (f : FnD), T[i]? = some f → ∃ a fd, DefOk K mg T cs f a fd) (hbu : ∀ x ∈ buNames, mg x = none)
    (hco : ∀ x d, cs.lookup x = some d → ∃ v u, mg x = some u ∧ RelV v u ∧ ∀ H M, Rep K H M d v) :
    ∀ (n i : Nat) (f : FnD) (a : Addr) (fd : FuncData), T[i]? = some f → DefOk K mg T cs f a fd → FnOk P w K mg base (L2.CX P w) n a fd (f.names.take f.np) (spD K cl (run T n i) f.fr f.np)
  | 0, i, f, a, fd, hf, hd => by
    obtain ⟨⟨qual, params, body, scope, F, hm, hb, S, _⟩, hnp⟩ := hd
    refine ⟨fun vs H Q E h => ?_, fun A outer s H args us vs Q E _ _ _ _ h => ?_⟩
    · rw [h.1, List.length_take]; omega
    · obtain ⟨_, M, ds, _, _, z⟩ := h
      exact z.elim
  | n + 1, i, f, a, fd, hf, hd => by
    obtain ⟨⟨qual, params, body, scope, F, hm, hb, S, look⟩, hnp⟩ := hd
    refine F.ok S (fun vs H Q E h => by rw [h.1, List.length_take]; omega) (fun cdv A outer s H vs Q E hr h => ⟨tSs K (fun c _ H' => E (cl c) none H') (run T n) f.body, ?_, ?_⟩)
    · refine snd_ss (C := ⟨f.names, T, cs⟩) (n := n) (cl := cl) f.body body ⟨⟨rfl, S.nd, rfl, fun x hx => ⟨loc_of hx, .inl rfl⟩, rfl, hr, ?_, hbu, hco, fun j g hg => ?_⟩, S.kind, ?_⟩ look
      · refine (takes_of rfl rfl rfl rfl).imp fun c d σ H' z => ?_
        obtain ⟨rfl, c', rfl, z⟩ := z
        exact z
      · obtain ⟨a', fd', d'⟩ := hD j g hg
        have k := fns_ok (P := P) (w := w) (base := base) cl hD hbu hco n j g a' fd' hg d'
        obtain ⟨⟨_, _, _, _, F', hm', hb', _, _⟩, _⟩ := d'
        exact ⟨a', fd', k, hm', F'.kp, hb'⟩
      · exact passes_of rfl
    · obtain ⟨hl, M, ds, m, r, z⟩ := h
      have hdl : ds.length = f.np := by rw [← r.length]; exact hl
      refine ⟨M, H, fun _ => 0, _, start_sr m r (by omega), ?_⟩
      have e : run T (n + 1) i ds = match execs (run T n) f.body (ds.map .sh ++ List.replicate (f.names.length - ds.length) .no) with
          | .ret d b => if f.fr && !b then .bad else .ok d
          | .nx _ => if f.fr then .bad else .ok .non
          | .ex c _ => .exn c
          | _ => .bad := by
        show (match T[i]? with | some f => runFn (run T n) f ds | none => .bad) = _
        rw [hf]
        show runFn (run T n) f ds = _
        unfold runFn
        refine (if_pos hdl).trans ?_
        cases execs (run T n) f.body (ds.map .sh ++ List.replicate (f.names.length - ds.length) .no) <;> rfl
      rw [e] at z
      cases q : execs (run T n) f.body (ds.map .sh ++ List.replicate (f.names.length - ds.length) .no) with
      | ret d b =>
        rw [q] at z
        have z : (match (if (f.fr && !b) = true then Res.bad else Res.ok d : Res D) with
          | .ok d => Vl K M H Q f.fr d
          | .exn c => ∀ H', Same H H' → E (cl c) none H'
          | .bad => False) := z
        by_cases hfb : (f.fr && !b) = true
        · rw [if_pos hfb] at z; exact z.elim
        · rw [if_neg hfb] at z
          refine fun v H' s r' fr => z v H' s r' fun hfr => fr ?_
          cases b with
          | true => rfl
          | false => rw [hfr] at hfb; exact absurd rfl hfb
      | nx e' =>
        rw [q] at z
        have z : (match (if f.fr = true then Res.bad else Res.ok D.non : Res D) with
          | .ok d => Vl K M H Q f.fr d
          | .exn c => ∀ H', Same H H' → E (cl c) none H'
          | .bad => False) := z
        by_cases hfr : f.fr = true
        · rw [if_pos hfr] at z; exact z.elim
        · rw [if_neg hfr] at z
          exact fun A' σ' H' sr => z .non H' sr.g rfl fun y => absurd y hfr
      | ex c e' => rw [q] at z; exact fun σ' H' s => z H' s
      | bk e' => rw [q] at z; exact z.elim
      | ct e' => rw [q] at z; exact z.elim
      | bad => rw [q] at z; exact z.elim
/-- what any world's call may let out -/
def CXa (P : Program) : CXT := fun outer H s E u s' => ∃ w, L2.CX P w outer H s E u s'
theorem FnOk.any {P : Program} {w : World} {K : PySem.W.Frag} {mg : Str → Option Value} {base : Heap} {k : Nat} {f : Addr} {fd : FuncData} {ps : List Str} {sp : Sp} (F : FnOk P w K mg base (L2.CX P w) k f fd ps sp) : FnOk P w K mg base (CXa P) k f fd ps sp :=
  ⟨F.len, fun A outer s H args us vs Q E hr he hb hv hs => codeAny_mono (F.run A outer s H args us vs Q E hr he hb hv hs) fun r s' hq => by
    cases r with
    | error e => exact ⟨w, hq⟩
    | ok fl => cases fl <;> exact hq⟩
theorem CXa_end {P : Program} {H : Hp} {s : Shared} {e : Value} {s' : Shared} (h : CXa P [] H s (fun _ _ _ => False) e s') : False := by
  obtain ⟨w, a, B, H', cls, d, _, _, _, _, _, _, _, z⟩ := h
  exact z
/-- the law's own call -/
theorem law_sp {K : PySem.W.Frag} {cl : Str → Value} {g : List D → Res D} {H : Hp} {a : Addr} {ns : List Int} (hO : Only H) (hS : SqL K H a (ns.map V.int)) (h : g [.scr ns] = .ok (.bl true)) :
    spD K cl g false 1 [.ref a] H (fun v _ => v = .bl true) fun _ _ _ => False := by
  refine ⟨rfl, fun _ => False, [.scr ns], fun a z => z.elim, ⟨.ref a, [], rfl, ⟨a, rfl, ?_⟩, rfl⟩, ?_⟩
  · rcases hS with (z | z) | z
    · rcases hO a with e | ⟨o, xs, e⟩ <;> (rw [e] at z; cases z)
    · exact .inl z
    · exact .inr (.inr z)
  · rw [h]
    exact fun v H' s r _ => r
theorem co_int {mg : Str → Option Value} {K : PySem.W.Frag} {x : Str} {i : Int} (h : ∃ t, mg x = some (.int i t)) : ∃ v u, mg x = some u ∧ RelV v u ∧ ∀ H M, Rep K H M (.int i) v := by
  obtain ⟨t, e⟩ := h
  exact ⟨.int i, _, e, ⟨t, rfl⟩, fun _ _ => rfl⟩
theorem co_str {mg : Str → Option Value} {K : PySem.W.Frag} {x z : Str} (h : ∃ t, mg x = some (.str z t)) : ∃ v u, mg x = some u ∧ RelV v u ∧ ∀ H M, Rep K H M (.str z) v := by
  obtain ⟨t, e⟩ := h
  exact ⟨.str z, _, e, ⟨t, rfl⟩, fun _ _ => rfl⟩
theorem co_of {mg : Str → Option Value} {K : PySem.W.Frag} {cs : List (Str × D)} (h : ∀ p ∈ cs, ∃ v u, mg p.1 = some u ∧ RelV v u ∧ ∀ H M, Rep K H M p.2 v) : ∀ x d, cs.lookup x = some d → ∃ v u, mg x = some u ∧ RelV v u ∧ ∀ H M, Rep K H M d v :=
  fun x d e => h (x, d) (PySem.mem_of_lookup e)
def sq : List PL.St → Sts
  | [] => .nil
  | s :: r => .cons s (sq r)
end PL
-- K36_T
set_option Elab.async false
set_option linter.all false
set_option maxRecDepth 100000
set_option maxHeartbeats 0
/-! the pure form of the defs of law_k36_whole_fewest -/
namespace K36
open PySem PL
def f0 : FnD :=
  ⟨"is_int", ["value", "least", "most"], 3, false,
   (sq [(.ret (.and (.isI .int (.var 0)) (.and (.not (.isI .bool (.var 0))) (.chain .le .le (.var 1) (.var 0) (.var 2)))))])⟩
def f1 : FnD :=
  ⟨"are_borders", ["candidate", "one", "other", "border"], 1, false,
   (sq [(.ite (.or (.not (.isI .tuple (.var 0))) (.not (.chain .le .le (.con (.int 2)) (.bi .len (.cons (.var 0) .nil)) (.gl "MAX_BORDERS" (.int 12)))))
      (sq [(.ret (.con (.bl false)))])
      .nil),
    (.ite (.not (.bi .all (.cons (.comp (.call 0 false (.cons (.var 3) (.cons (.con (.int 0)) (.cons (.gl "MAX_BORDER" (.int 1000)) .nil)))) [3] (.nm 3) (.ex (.var 0)) .no) .nil)))
      (sq [(.ret (.con (.bl false)))])
      .nil),
    (.ret (.bi .all (.cons (.comp (.cmp .lt (.var 1) (.var 2)) [1, 2] (.tp (.cons (.nm 1) (.cons (.nm 2) .nil))) (.zip2 (.var 0) (.sl (.var 0) (.so (.con (.int 1))) .no)) .no) .nil)))])⟩
def f2 : FnD :=
  ⟨"is_histogram", ["candidate", "borders", "counts", "count"], 1, false,
   (sq [(.ite (.or (.not (.isI .tuple (.var 0))) (.or (.cmp .ne (.bi .len (.cons (.var 0) .nil)) (.con (.int 2))) (.not (.call 1 false (.cons (.ix (.var 0) (.con (.int 0))) .nil)))))
      (sq [(.ret (.con (.bl false)))])
      .nil),
    (.asg false false (.tp (.cons (.nm 1) (.cons (.nm 2) .nil))) (.var 0)),
    (.ite (.or (.not (.isI .tuple (.var 2))) (.cmp .ne (.bi .len (.cons (.var 2) .nil)) (.bin .sub (.bi .len (.cons (.var 1) .nil)) (.con (.int 1)))))
      (sq [(.ret (.con (.bl false)))])
      .nil),
    (.ret (.and (.bi .all (.cons (.comp (.call 0 false (.cons (.var 3) (.cons (.con (.int 0)) (.cons (.gl "MAX_COUNT" (.int 60)) .nil)))) [3] (.nm 3) (.ex (.var 2)) .no) .nil)) (.cmp .le (.bi .sum (.cons (.var 2) .nil)) (.gl "MAX_DATA" (.int 200)))))])⟩
def f3 : FnD :=
  ⟨"check_borders", ["value"], 1, false,
   (sq [(.ite (.not (.call 1 false (.cons (.var 0) .nil)))
      (sq [(.whl 0 (.con .non) .nil [])])
      .nil)])⟩
def f4 : FnD :=
  ⟨"check_histogram", ["value"], 1, false,
   (sq [(.ite (.not (.call 2 false (.cons (.var 0) .nil)))
      (sq [(.whl 0 (.con .non) .nil [])])
      .nil)])⟩
def f5 : FnD :=
  ⟨"size_of", ["histogram"], 1, false,
   (sq [(.ret (.bi .sum (.cons (.ix (.var 0) (.con (.int 1))) .nil)))])⟩
def f6 : FnD :=
  ⟨"filled", ["histogram", "values", "found", "value", "count"], 2, true,
   (sq [(.asg false true (.nm 2) (.lst .nil)),
    (.for_ (.tp (.cons (.nm 3) (.cons (.nm 4) .nil))) (.zip2 (.var 1) (.ix (.var 0) (.con (.int 1))))
      (sq [(.ext false 2 (.bin .mul (.lst (.cons (.var 3) .nil)) (.var 4)))])
      [3, 4]),
    (.ret (.var 2))])⟩
def f7 : FnD :=
  ⟨"lowest", ["histogram"], 1, true,
   (sq [(.ret (.call 6 true (.cons (.var 0) (.cons (.sl (.ix (.var 0) (.con (.int 0))) .no (.so (.neg (.con (.int 1))))) .nil))))])⟩
def f8 : FnD :=
  ⟨"highest", ["histogram", "border"], 1, true,
   (sq [(.ret (.call 6 true (.cons (.var 0) (.cons (.comp (.bin .sub (.var 1) (.con (.int 1))) [1] (.nm 1) (.ex (.sl (.ix (.var 0) (.con (.int 0))) (.so (.con (.int 1))) .no)) .no) .nil))))])⟩
def f9 : FnD :=
  ⟨"find_bounds", ["histogram", "rank"], 2, false,
   (sq [(.ret (.tup (.cons (.ix (.call 7 true (.cons (.var 0) .nil)) (.bin .sub (.var 1) (.con (.int 1)))) (.cons (.ix (.call 8 true (.cons (.var 0) .nil)) (.bin .sub (.var 1) (.con (.int 1)))) .nil))))])⟩
def f10 : FnD :=
  ⟨"find_range", ["histogram", "value", "least", "one"], 2, false,
   (sq [(.asg false false (.nm 2) (.bi .len (.cons (.comp (.var 3) [3] (.nm 3) (.ex (.call 8 true (.cons (.var 0) .nil))) (.so (.cmp .lt (.var 3) (.var 1)))) .nil))),
    (.ret (.tup (.cons (.var 2) (.cons (.bi .len (.cons (.comp (.var 3) [3] (.nm 3) (.ex (.call 7 true (.cons (.var 0) .nil))) (.so (.cmp .lt (.var 3) (.var 1)))) .nil)) .nil))))])⟩
def f11 : FnD :=
  ⟨"find_sums", ["histogram"], 1, false,
   (sq [(.ret (.tup (.cons (.bi .sum (.cons (.call 7 true (.cons (.var 0) .nil)) .nil)) (.cons (.bi .sum (.cons (.call 8 true (.cons (.var 0) .nil)) .nil)) .nil))))])⟩
def f12 : FnD :=
  ⟨"is_total", ["value"], 1, false,
   (sq [(.ret (.and (.isI .int (.var 0)) (.and (.not (.isI .bool (.var 0))) (.cmp .ge (.var 0) (.con (.int 0))))))])⟩
def f13 : FnD :=
  ⟨"is_statement_for", ["many", "candidate", "word", "rest"], 2, false,
   (sq [(.ite (.or (.not (.isI .tuple (.var 1))) (.or (.cmp .eq (.var 1) (.tup .nil)) (.not (.isI .str (.ix (.var 1) (.con (.int 0)))))))
      (sq [(.ret (.con (.bl false)))])
      .nil),
    (.par [(2, false), (3, false)] (.cons (.ix (.var 1) (.con (.int 0))) (.cons (.sl (.var 1) (.so (.con (.int 1))) .no) .nil))),
    (.ite (.and (.cmp .eq (.var 2) (.gl "RANK" (.str "rank"))) (.cmp .eq (.bi .len (.cons (.var 3) .nil)) (.con (.int 3))))
      (sq [(.ret (.and (.call 0 false (.cons (.ix (.var 3) (.con (.int 0))) (.cons (.con (.int 1)) (.cons (.var 0) .nil)))) (.and (.call 0 false (.cons (.ix (.var 3) (.con (.int 1))) (.cons (.con (.int 0)) (.cons (.gl "MAX_VALUE" (.int 999)) .nil)))) (.call 0 false (.cons (.ix (.var 3) (.con (.int 2))) (.cons (.con (.int 0)) (.cons (.gl "MAX_VALUE" (.int 999)) .nil)))))))])
      .nil),
    (.ite (.and (.cmp .eq (.var 2) (.gl "LESS" (.str "less"))) (.cmp .eq (.bi .len (.cons (.var 3) .nil)) (.con (.int 3))))
      (sq [(.ret (.and (.call 0 false (.cons (.ix (.var 3) (.con (.int 0))) (.cons (.con (.int 0)) (.cons (.gl "MAX_BORDER" (.int 1000)) .nil)))) (.and (.call 0 false (.cons (.ix (.var 3) (.con (.int 1))) (.cons (.con (.int 0)) (.cons (.gl "MAX_DATA" (.int 200)) .nil)))) (.call 0 false (.cons (.ix (.var 3) (.con (.int 2))) (.cons (.con (.int 0)) (.cons (.gl "MAX_DATA" (.int 200)) .nil)))))))])
      .nil),
    (.ret (.and (.cmp .eq (.var 2) (.gl "SUM" (.str "sum"))) (.and (.cmp .eq (.bi .len (.cons (.var 3) .nil)) (.con (.int 2))) (.and (.call 12 false (.cons (.ix (.var 3) (.con (.int 0))) .nil)) (.call 12 false (.cons (.ix (.var 3) (.con (.int 1))) .nil))))))])⟩
def f14 : FnD :=
  ⟨"number_bounds", ["histogram", "statement"], 2, false,
   (sq [(.ite (.cmp .eq (.ix (.var 1) (.con (.int 0))) (.gl "RANK" (.str "rank")))
      (sq [(.ret (.call 9 false (.cons (.var 0) (.cons (.ix (.var 1) (.con (.int 1))) .nil))))])
      .nil),
    (.ret (.ife (.cmp .eq (.ix (.var 1) (.con (.int 0))) (.gl "LESS" (.str "less"))) (.call 10 false (.cons (.var 0) (.cons (.ix (.var 1) (.con (.int 1))) .nil))) (.call 11 false (.cons (.var 0) .nil))))])⟩
def f15 : FnD :=
  ⟨"surely_holds", ["histogram", "statement", "least", "most"], 2, false,
   (sq [(.asg false false (.tp (.cons (.nm 2) (.cons (.nm 3) .nil))) (.call 14 false (.cons (.var 0) (.cons (.var 1) .nil)))),
    (.ret (.and (.cmp .le (.ix (.var 1) (.neg (.con (.int 2)))) (.var 2)) (.cmp .le (.var 3) (.ix (.var 1) (.neg (.con (.int 1)))))))])⟩
def f16 : FnD :=
  ⟨"are_coarser", ["one", "other", "border"], 2, false,
   (sq [(.ret (.and (.cmp .eq (.ix (.var 0) (.con (.int 0))) (.ix (.var 1) (.con (.int 0)))) (.and (.cmp .eq (.ix (.var 0) (.neg (.con (.int 1)))) (.ix (.var 1) (.neg (.con (.int 1))))) (.bi .all (.cons (.comp (.cmp .in_ (.var 2) (.var 1)) [2] (.nm 2) (.ex (.var 0)) .no) .nil)))))])⟩
def f17 : FnD :=
  ⟨"merged", ["histogram", "borders", "pairs", "counts", "first", "after", "border", "count"], 2, false,
   (sq [(.asg false false (.nm 2) (.rg false (.zip2 (.ix (.var 0) (.con (.int 0))) (.ix (.var 0) (.con (.int 1)))))),
    (.asg false true (.nm 3) (.lst .nil)),
    (.for_ (.tp (.cons (.nm 4) (.cons (.nm 5) .nil))) (.zip2 (.var 1) (.sl (.var 1) (.so (.con (.int 1))) .no))
      (sq [(.app false 3 (.bi .sum (.cons (.comp (.var 7) [6, 7] (.tp (.cons (.nm 6) (.cons (.nm 7) .nil))) (.ex (.var 2)) (.so (.chain .le .lt (.var 4) (.var 6) (.var 5)))) .nil)))])
      [4, 5]),
    (.ret (.tup (.cons (.var 1) (.cons (.bi .tuple (.cons (.var 3) .nil)) .nil))))])⟩
def f18 : FnD :=
  ⟨"coarsened", ["histogram", "borders", "found"], 2, false,
   (sq [(.ex (.call 4 false (.cons (.var 0) .nil))),
    (.ex (.call 3 false (.cons (.var 1) .nil))),
    (.ite (.not (.call 16 false (.cons (.var 1) (.cons (.ix (.var 0) (.con (.int 0))) .nil))))
      (sq [(.whl 0 (.con .non) .nil [])])
      .nil),
    (.asg false false (.nm 2) (.call 17 false (.cons (.var 0) (.cons (.var 1) .nil)))),
    (.ite (.cmp .gt (.bi .max (.cons (.ix (.var 2) (.con (.int 1))) .nil)) (.gl "MAX_COUNT" (.int 60)))
      (sq [(.whl 0 (.con .non) .nil [])])
      .nil),
    (.ret (.var 2))])⟩
def f19 : FnD :=
  ⟨"all_coarser", ["borders", "found", "border", "many", "outer", "inner"], 1, true,
   (sq [(.asg false false (.nm 1) (.lst (.cons (.tup .nil) .nil))),
    (.for_ (.nm 2) (.ex (.sl (.var 0) (.so (.con (.int 1))) (.so (.neg (.con (.int 1))))))
      (sq [(.asg false false (.nm 1) (.bin .add (.var 1) (.comp (.bin .add (.var 5) (.tup (.cons (.var 2) .nil))) [5] (.nm 5) (.ex (.var 1)) .no)))])
      [2]),
    (.asg false false (.nm 1) (.bi .sorted (.cons (.comp (.tup (.cons (.bi .len (.cons (.var 5) .nil)) (.cons (.bin .add (.bin .add (.sl (.var 0) .no (.so (.con (.int 1)))) (.var 5)) (.sl (.var 0) (.so (.neg (.con (.int 1)))) .no)) .nil))) [5] (.nm 5) (.ex (.var 1)) .no) .nil))),
    (.ret (.comp (.var 4) [3, 4] (.tp (.cons (.nm 3) (.cons (.nm 4) .nil))) (.ex (.var 1)) .no))])⟩
def f20 : FnD :=
  ⟨"fewest_borders", ["histogram", "statements", "many", "borders", "found", "statement"], 2, false,
   (sq [(.ex (.call 4 false (.cons (.var 0) .nil))),
    (.ite (.or (.not (.isI .list (.var 1))) (.cmp .gt (.bi .len (.cons (.var 1) .nil)) (.gl "MAX_STATEMENTS" (.int 6))))
      (sq [(.whl 0 (.con .non) .nil [])])
      .nil),
    (.asg false false (.nm 2) (.call 5 false (.cons (.var 0) .nil))),
    (.ite (.not (.bi .all (.cons (.comp (.call 13 false (.cons (.var 2) (.cons (.var 5) .nil))) [5] (.nm 5) (.ex (.var 1)) .no) .nil)))
      (sq [(.whl 0 (.con .non) .nil [])])
      .nil),
    (.for_ (.nm 3) (.ex (.call 19 true (.cons (.ix (.var 0) (.con (.int 0))) .nil)))
      (sq [(.asg false false (.nm 4) (.call 17 false (.cons (.var 0) (.cons (.var 3) .nil)))),
       (.ite (.and (.cmp .le (.bi .max (.cons (.ix (.var 4) (.con (.int 1))) .nil)) (.gl "MAX_COUNT" (.int 60))) (.bi .all (.cons (.comp (.call 15 false (.cons (.var 4) (.cons (.var 5) .nil))) [5] (.nm 5) (.ex (.var 1)) .no) .nil)))
         (sq [(.ret (.var 3))])
         .nil)])
      [3, 4]),
    (.ret (.con .non))])⟩
def f21 : FnD :=
  ⟨"looseness", ["histogram", "least", "most"], 1, false,
   (sq [(.asg false false (.tp (.cons (.nm 1) (.cons (.nm 2) .nil))) (.call 11 false (.cons (.var 0) .nil))),
    (.ret (.bin .sub (.var 2) (.var 1)))])⟩
def f22 : FnD :=
  ⟨"least_loss", ["histogram", "borders", "found", "index", "coarse"], 1, false,
   (sq [(.ex (.call 4 false (.cons (.var 0) .nil))),
    (.par [(1, false), (2, true)] (.cons (.ix (.var 0) (.con (.int 0))) (.cons (.lst .nil) .nil))),
    (.for_ (.nm 3) (.rng2 (.con (.int 1)) (.bin .sub (.bi .len (.cons (.var 1) .nil)) (.con (.int 1))))
      (sq [(.asg false false (.nm 4) (.call 17 false (.cons (.var 0) (.cons (.bin .add (.sl (.var 1) .no (.so (.var 3))) (.sl (.var 1) (.so (.bin .add (.var 3) (.con (.int 1)))) .no)) .nil)))),
       (.ite (.cmp .le (.bi .max (.cons (.ix (.var 4) (.con (.int 1))) .nil)) (.gl "MAX_COUNT" (.int 60)))
         (sq [(.app false 2 (.tup (.cons (.bin .sub (.call 21 false (.cons (.var 4) .nil)) (.call 21 false (.cons (.var 0) .nil))) (.cons (.var 3) .nil))))])
         .nil)])
      [3, 4]),
    (.ret (.ife (.cmp .ne (.var 2) (.lst .nil)) (.rev (.bi .min (.cons (.var 2) .nil))) (.con .non)))])⟩
def f23 : FnD :=
  ⟨"_law_ends", ["_law_histogram_here", "_law_borders_here", "_law_counts", "_law_low", "_law_high", "_law_i"], 1, false,
   (sq [(.asg false false (.tp (.cons (.nm 1) (.cons (.nm 2) .nil))) (.var 0)),
    (.par [(3, true), (4, true)] (.cons (.lst .nil) (.cons (.lst .nil) .nil))),
    (.for_ (.nm 5) (.rng1 (.bi .len (.cons (.var 2) .nil)))
      (sq [(.ext false 3 (.bin .mul (.lst (.cons (.ix (.var 1) (.var 5)) .nil)) (.ix (.var 2) (.var 5)))),
       (.ext false 4 (.bin .mul (.lst (.cons (.bin .sub (.ix (.var 1) (.bin .add (.var 5) (.con (.int 1)))) (.con (.int 1))) .nil)) (.ix (.var 2) (.var 5))))])
      [5]),
    (.ret (.tup (.cons (.var 3) (.cons (.var 4) .nil))))])⟩
def f24 : FnD :=
  ⟨"_law_number", ["_law_data", "_law_statement_here", "_law_value"], 2, false,
   (sq [(.ite (.cmp .eq (.ix (.var 1) (.con (.int 0))) (.con (.str "rank")))
      (sq [(.ret (.ix (.var 0) (.bin .sub (.ix (.var 1) (.con (.int 1))) (.con (.int 1)))))])
      .nil),
    (.ite (.cmp .eq (.ix (.var 1) (.con (.int 0))) (.con (.str "less")))
      (sq [(.ret (.bi .len (.cons (.comp (.var 2) [2] (.nm 2) (.ex (.var 0)) (.so (.cmp .lt (.var 2) (.ix (.var 1) (.con (.int 1)))))) .nil)))])
      .nil),
    (.ret (.bi .sum (.cons (.var 0) .nil)))])⟩
def f25 : FnD :=
  ⟨"_law_true", ["_law_data", "_law_statement_here", "_law_number_here"], 2, false,
   (sq [(.asg false false (.nm 2) (.call 24 false (.cons (.var 0) (.cons (.var 1) .nil)))),
    (.ret (.and (.cmp .le (.ix (.var 1) (.neg (.con (.int 2)))) (.var 2)) (.cmp .le (.var 2) (.ix (.var 1) (.neg (.con (.int 1)))))))])⟩
def f26 : FnD :=
  ⟨"_law_pick", ["_law_script", "_law_k", "_law_many", "_law_cell", "_law_rest", "_law_again", "_law_drawn"], 3, false,
   (sq [(.asg false false (.nm 3) (.ife (.cmp .ne (.var 0) (.lst .nil)) (.ix (.var 0) (.bin .mod (.var 1) (.bi .len (.cons (.var 0) .nil)))) (.con (.int 0)))),
    (.par [(4, false), (5, false)] (.cons (.bin .fdiv (.var 3) (.bin .pow (.con (.int 10)) (.con (.int 18)))) (.cons (.bin .fdiv (.var 1) (.bi .max (.cons (.bi .len (.cons (.var 0) .nil)) (.cons (.con (.int 1)) .nil)))) .nil))),
    (.whl 100000 (.and (.cmp .gt (.var 4) (.con (.int 0))) (.cmp .gt (.var 5) (.con (.int 0))))
      (sq [(.par [(4, false), (5, false)] (.cons (.bin .fdiv (.var 4) (.con (.int 840))) (.cons (.bin .sub (.var 5) (.con (.int 1))) .nil)))])
      []),
    (.ite (.cmp .gt (.var 4) (.con (.int 0)))
      (sq [(.ret (.bin .mod (.bin .mod (.var 4) (.con (.int 840))) (.var 2)))])
      .nil),
    (.asg false false (.nm 6) (.bin .mod (.bin .mul (.bin .add (.bin .mul (.var 3) (.con (.int 31))) (.bin .mul (.con (.int 6151)) (.bin .add (.var 1) (.con (.int 1))))) (.con (.int 40692))) (.con (.int 2147483399)))),
    (.ret (.bin .mod (.bin .mod (.bin .add (.bin .mul (.var 6) (.var 6)) (.bin .fdiv (.var 6) (.con (.int 31)))) (.con (.int 2147483629))) (.var 2)))])⟩
def f27 : FnD :=
  ⟨"_law_borders", ["_law_script", "_law_place", "_law_most", "_law_at", "_law_found", "_law_i"], 3, false,
   (sq [(.asg false false (.nm 3) (.ix (.tup (.cons (.con (.int 0)) (.cons (.con (.int 0)) (.cons (.con (.int 3)) (.cons (.con (.int 960)) .nil))))) (.call 26 false (.cons (.var 0) (.cons (.var 1) (.cons (.con (.int 4)) .nil)))))),
    (.asg false true (.nm 4) (.lst (.cons (.var 3) .nil))),
    (.for_ (.nm 5) (.rng1 (.bin .add (.con (.int 1)) (.call 26 false (.cons (.var 0) (.cons (.bin .add (.var 1) (.con (.int 1))) (.cons (.var 2) .nil))))))
      (sq [(.asg false false (.nm 3) (.bin .add (.bin .add (.var 3) (.con (.int 1))) (.call 26 false (.cons (.var 0) (.cons (.bin .add (.bin .add (.var 1) (.con (.int 2))) (.var 5)) (.cons (.ix (.tup (.cons (.con (.int 2)) (.cons (.con (.int 5)) (.cons (.con (.int 9)) .nil)))) (.call 26 false (.cons (.var 0) (.cons (.bin .add (.var 1) (.con (.int 12))) (.cons (.con (.int 3)) .nil))))) .nil)))))),
       (.app false 4 (.bi .min (.cons (.var 3) (.cons (.con (.int 1000)) .nil))))])
      [5]),
    (.ret (.bi .tuple (.cons (.sset (.var 4)) .nil)))])⟩
def f28 : FnD :=
  ⟨"_law_histogram", ["_law_script", "_law_place", "_law_most", "_law_borders_here", "_law_counts", "_law_i"], 3, false,
   (sq [(.asg false false (.nm 3) (.call 27 false (.cons (.var 0) (.cons (.var 1) (.cons (.var 2) .nil))))),
    (.asg false false (.nm 4) (.comp (.ix (.tup (.cons (.con (.int 0)) (.cons (.con (.int 1)) (.cons (.con (.int 2)) (.cons (.con (.int 1)) (.cons (.con (.int 3)) (.cons (.con (.int 4)) .nil))))))) (.call 26 false (.cons (.var 0) (.cons (.bin .add (.bin .add (.var 1) (.con (.int 13))) (.var 5)) (.cons (.con (.int 6)) .nil))))) [5] (.nm 5) (.rng1 (.bin .sub (.bi .len (.cons (.var 3) .nil)) (.con (.int 1)))) .no)),
    (.ret (.tup (.cons (.var 3) (.cons (.bi .tuple (.cons (.var 4) .nil)) .nil))))])⟩
def f29 : FnD :=
  ⟨"_law_statement", ["_law_script", "_law_place", "_law_many", "_law_kind", "_law_low", "_law_wide", "_law_least"], 3, false,
   (sq [(.asg false false (.nm 3) (.call 26 false (.cons (.var 0) (.cons (.var 1) (.cons (.con (.int 3)) .nil))))),
    (.par [(4, false), (5, false)] (.cons (.call 26 false (.cons (.var 0) (.cons (.bin .add (.var 1) (.con (.int 1))) (.cons (.con (.int 40)) .nil)))) (.cons (.call 26 false (.cons (.var 0) (.cons (.bin .add (.var 1) (.con (.int 2))) (.cons (.con (.int 30)) .nil)))) .nil))),
    (.ite (.and (.cmp .eq (.var 3) (.con (.int 0))) (.cmp .gt (.var 2) (.con (.int 0))))
      (sq [(.ret (.tup (.cons (.con (.str "rank")) (.cons (.bin .add (.con (.int 1)) (.call 26 false (.cons (.var 0) (.cons (.bin .add (.var 1) (.con (.int 3))) (.cons (.var 2) .nil))))) (.cons (.var 4) (.cons (.bin .add (.var 4) (.var 5)) .nil))))))])
      .nil),
    (.ite (.cmp .eq (.var 3) (.con (.int 1)))
      (sq [(.asg false false (.nm 6) (.call 26 false (.cons (.var 0) (.cons (.bin .add (.var 1) (.con (.int 4))) (.cons (.bin .add (.var 2) (.con (.int 1))) .nil))))),
       (.ret (.tup (.cons (.con (.str "less")) (.cons (.call 26 false (.cons (.var 0) (.cons (.bin .add (.var 1) (.con (.int 5))) (.cons (.con (.int 50)) .nil)))) (.cons (.var 6) (.cons (.bin .add (.var 6) (.call 26 false (.cons (.var 0) (.cons (.bin .add (.var 1) (.con (.int 6))) (.cons (.con (.int 6)) .nil))))) .nil))))))])
      .nil),
    (.asg false false (.nm 4) (.bin .mul (.call 26 false (.cons (.var 0) (.cons (.bin .add (.var 1) (.con (.int 7))) (.cons (.con (.int 60)) .nil)))) (.call 26 false (.cons (.var 0) (.cons (.bin .add (.var 1) (.con (.int 8))) (.cons (.con (.int 5)) .nil)))))),
    (.ret (.tup (.cons (.con (.str "sum")) (.cons (.var 4) (.cons (.bin .add (.var 4) (.bin .mul (.var 5) (.con (.int 10)))) .nil)))))])⟩
def f30 : FnD :=
  ⟨"_law_folded", ["_law_histogram_here", "_law_borders_here", "_law_counts", "_law_low", "_law_high", "_law_marks", "_law_border", "_law_count"], 2, false,
   (sq [(.asg false true (.nm 2) (.lst .nil)),
    (.for_ (.tp (.cons (.nm 3) (.cons (.nm 4) .nil))) (.zip2 (.var 1) (.sl (.var 1) (.so (.con (.int 1))) .no))
      (sq [(.asg false false (.nm 5) (.comp (.var 7) [6, 7] (.tp (.cons (.nm 6) (.cons (.nm 7) .nil))) (.zip2 (.ix (.var 0) (.con (.int 0))) (.ix (.var 0) (.con (.int 1)))) (.so (.and (.cmp .le (.var 3) (.var 6)) (.cmp .lt (.var 6) (.var 4)))))),
       (.app false 2 (.bi .sum (.cons (.var 5) .nil)))])
      [3, 4, 5]),
    (.ret (.tup (.cons (.var 1) (.cons (.bi .tuple (.cons (.var 2) .nil)) .nil))))])⟩
def f31 : FnD :=
  ⟨"_law_sure", ["_law_histogram_here", "_law_statement_here", "_law_low", "_law_high"], 2, false,
   (sq [(.asg false false (.tp (.cons (.nm 2) (.cons (.nm 3) .nil))) (.call 23 false (.cons (.var 0) .nil))),
    (.ret (.and (.call 25 false (.cons (.var 2) (.cons (.var 1) .nil))) (.call 25 false (.cons (.var 3) (.cons (.var 1) .nil)))))])⟩
def f32 : FnD :=
  ⟨"law", ["_law_script", "_law_i", "_law_histogram_here", "_law_borders_here", "_law_many", "_law_inner", "_law_border", "_law_rows", "_law_words", "_law_j", "_law_word", "_law_low", "_law_high", "_law_ends_here", "_law_slack", "_law_good", "_law_losses", "_law_index", "_law_due", "_law_full", "_law_few", "_law_row", "_law_part"], 1, false,
   (sq [(.for_ (.nm 1) (.rng1 (.con (.int 3)))
      (sq [(.asg false false (.nm 2) (.call 28 false (.cons (.var 0) (.cons (.bin .mul (.con (.int 100)) (.var 1)) (.cons (.con (.int 5)) .nil))))),
       (.asg false false (.tp (.cons (.nm 3) (.cons (.nm 4) .nil))) (.tup (.cons (.ix (.var 2) (.con (.int 0))) (.cons (.bi .sum (.cons (.ix (.var 2) (.con (.int 1))) .nil)) .nil)))),
       (.asg false false (.nm 5) (.lst (.cons (.tup .nil) .nil))),
       (.for_ (.nm 6) (.ex (.sl (.var 3) (.so (.con (.int 1))) (.so (.neg (.con (.int 1))))))
         (sq [(.asg false false (.nm 5) (.bin .add (.var 5) (.comp (.bin .add (.var 22) (.tup (.cons (.var 6) .nil))) [22] (.nm 22) (.ex (.var 5)) .no)))])
         [6]),
       (.asg false false (.nm 7) (.bi .sorted (.cons (.comp (.tup (.cons (.bi .len (.cons (.var 22) .nil)) (.cons (.bin .add (.bin .add (.sl (.var 3) .no (.so (.con (.int 1)))) (.var 22)) (.sl (.var 3) (.so (.neg (.con (.int 1)))) .no)) .nil))) [22] (.nm 22) (.ex (.var 5)) .no) .nil))),
       (.asg false true (.nm 8) (.lst .nil)),
       (.for_ (.nm 9) (.rng1 (.call 26 false (.cons (.var 0) (.cons (.bin .add (.bin .mul (.con (.int 100)) (.var 1)) (.con (.int 40))) (.cons (.con (.int 4)) .nil)))))
         (sq [(.asg false false (.nm 10) (.call 29 false (.cons (.var 0) (.cons (.bin .add (.bin .add (.bin .mul (.con (.int 100)) (.var 1)) (.con (.int 41))) (.bin .mul (.con (.int 9)) (.var 9))) (.cons (.var 4) .nil))))),
          (.asg false false (.tp (.cons (.nm 11) (.cons (.nm 12) .nil))) (.call 23 false (.cons (.var 2) .nil))),
          (.asg false false (.nm 13) (.bi .sorted (.cons (.lst (.cons (.call 24 false (.cons (.var 11) (.cons (.var 10) .nil))) (.cons (.call 24 false (.cons (.var 12) (.cons (.var 10) .nil))) .nil))) .nil))),
          (.asg false false (.nm 14) (.ix (.tup (.cons (.con (.int 0)) (.cons (.con (.int 3)) (.cons (.con (.int 20)) .nil)))) (.call 26 false (.cons (.var 0) (.cons (.bin .add (.bin .add (.bin .mul (.con (.int 100)) (.var 1)) (.con (.int 80))) (.var 9)) (.cons (.con (.int 3)) .nil)))))),
          (.app false 8 (.bin .add (.sl (.var 10) .no (.so (.neg (.con (.int 2))))) (.tup (.cons (.bi .max (.cons (.bin .sub (.ix (.var 13) (.con (.int 0))) (.var 14)) (.cons (.con (.int 0)) .nil))) (.cons (.bi .min (.cons (.bin .add (.ix (.var 13) (.con (.int 1))) (.var 14)) (.cons (.ife (.cmp .eq (.ix (.var 10) (.con (.int 0))) (.con (.str "less"))) (.con (.int 200)) (.con (.int 999))) .nil))) .nil)))))])
         [9, 10, 11, 12, 13, 14]),
       (.share [8]),
       (.asg false false (.nm 15) (.comp (.var 21) [20, 21] (.tp (.cons (.nm 20) (.cons (.nm 21) .nil))) (.ex (.var 7)) (.so (.bi .all (.cons (.comp (.call 31 false (.cons (.call 30 false (.cons (.var 2) (.cons (.var 21) .nil))) (.cons (.var 10) .nil))) [10] (.nm 10) (.ex (.var 8)) .no) .nil))))),
       (.ite (.cmp .ne (.call 20 false (.cons (.var 2) (.cons (.var 8) .nil))) (.ife (.cmp .ne (.var 15) (.lst .nil)) (.ix (.var 15) (.con (.int 0))) (.con .non)))
         (sq [(.ret (.con (.bl false)))])
         .nil),
       (.asg false true (.nm 16) (.lst .nil)),
       (.for_ (.nm 17) (.rng2 (.con (.int 1)) (.bin .sub (.bi .len (.cons (.var 3) .nil)) (.con (.int 1))))
         (sq [(.asg false false (.tp (.cons (.nm 11) (.cons (.nm 12) .nil))) (.call 23 false (.cons (.call 30 false (.cons (.var 2) (.cons (.bin .add (.sl (.var 3) .no (.so (.var 17))) (.sl (.var 3) (.so (.bin .add (.var 17) (.con (.int 1)))) .no)) .nil))) .nil))),
          (.app false 16 (.bin .sub (.bi .sum (.cons (.var 12) .nil)) (.bi .sum (.cons (.var 11) .nil))))])
         [11, 12, 17]),
       (.asg false false (.tp (.cons (.nm 11) (.cons (.nm 12) .nil))) (.call 23 false (.cons (.var 2) .nil))),
       (.asg false false (.nm 18) (.con .non)),
       (.ite (.cmp .ne (.var 16) (.lst .nil))
         (sq [(.asg true false (.nm 18) (.tup (.cons (.bin .add (.con (.int 1)) (.me .index (.var 16) (.cons (.bi .min (.cons (.var 16) .nil)) .nil))) (.cons (.bin .add (.bin .sub (.bi .min (.cons (.var 16) .nil)) (.bi .sum (.cons (.var 12) .nil))) (.bi .sum (.cons (.var 11) .nil))) .nil))))])
         .nil),
       (.ite (.cmp .ne (.call 22 false (.cons (.var 2) .nil)) (.var 18))
         (sq [(.ret (.con (.bl false)))])
         .nil)])
      [1, 2, 3, 4, 5, 6, 7, 8, 9, 10, 11, 12, 13, 14, 15, 16, 17, 18]),
    (.asg false false (.nm 19) (.tup (.cons (.tup (.cons (.con (.int 0)) (.cons (.con (.int 5)) (.cons (.con (.int 9)) (.cons (.con (.int 12)) .nil))))) (.cons (.tup (.cons (.con (.int 60)) (.cons (.con (.int 50)) (.cons (.con (.int 3)) .nil)))) .nil)))),
    (.ite (.or (.cmp .isn (.call 22 false (.cons (.tup (.cons (.tup (.cons (.con (.int 0)) (.cons (.con (.int 5)) (.cons (.con (.int 9)) .nil)))) (.cons (.tup (.cons (.con (.int 60)) (.cons (.con (.int 60)) .nil))) .nil))) .nil)) (.con .non)) (.cmp .ne (.call 20 false (.cons (.var 19) (.cons (.lst .nil) .nil))) (.tup (.cons (.con (.int 0)) (.cons (.con (.int 5)) (.cons (.con (.int 12)) .nil))))))
      (sq [(.ret (.con (.bl false)))])
      .nil),
    (.ite (.or (.cmp .ne (.call 18 false (.cons (.tup (.cons (.tup (.cons (.con (.int 0)) (.cons (.con (.int 5)) (.cons (.con (.int 9)) .nil)))) (.cons (.tup (.cons (.con (.int 30)) (.cons (.con (.int 30)) .nil))) .nil))) (.cons (.tup (.cons (.con (.int 0)) (.cons (.con (.int 9)) .nil))) .nil))) (.tup (.cons (.tup (.cons (.con (.int 0)) (.cons (.con (.int 9)) .nil))) (.cons (.tup (.cons (.con (.int 60)) .nil)) .nil)))) (.cmp .ne (.ix (.call 22 false (.cons (.var 19) .nil)) (.con (.int 0))) (.con (.int 2))))
      (sq [(.ret (.con (.bl false)))])
      .nil),
    (.ite (.cmp .ne (.call 20 false (.cons (.tup (.cons (.tup (.cons (.con (.int 0)) (.cons (.con (.int 5)) (.cons (.con (.int 9)) (.cons (.con (.int 12)) .nil))))) (.cons (.tup (.cons (.con (.int 3)) (.cons (.con (.int 50)) (.cons (.con (.int 60)) .nil)))) .nil))) (.cons (.bin .mul (.lst (.cons (.tup (.cons (.con (.str "sum")) (.cons (.con (.int 0)) (.cons (.con (.int 9999)) .nil)))) .nil)) (.con (.int 6))) .nil))) (.tup (.cons (.con (.int 0)) (.cons (.con (.int 9)) (.cons (.con (.int 12)) .nil)))))
      (sq [(.ret (.con (.bl false)))])
      .nil),
    (.ret (.cmp .eq (.call 22 false (.cons (.tup (.cons (.tup (.cons (.con (.int 0)) (.cons (.con (.int 50)) (.cons (.con (.int 51)) (.cons (.con (.int 52)) .nil))))) (.cons (.tup (.cons (.con (.int 3)) (.cons (.con (.int 50)) (.cons (.con (.int 60)) .nil)))) .nil))) .nil)) (.tup (.cons (.con (.int 1)) (.cons (.con (.int 2503)) .nil)))))])⟩
def T : List FnD := [f0, f1, f2, f3, f4, f5, f6, f7, f8, f9, f10, f11, f12, f13, f14, f15, f16, f17, f18, f19, f20, f21, f22, f23, f24, f25, f26, f27, f28, f29, f30, f31, f32]
def cs : List (Str × D) := [("MAX_VALUE", (.int 999)), ("MAX_DATA", (.int 200)), ("MAX_BORDERS", (.int 12)), ("MAX_BORDER", (.int 1000)), ("MAX_COUNT", (.int 60)), ("RANK", (.str "rank")), ("LESS", (.str "less")), ("SUM", (.str "sum")), ("MAX_STATEMENTS", (.int 6))]
end K36
-- P1
set_option Elab.async false
set_option linter.all false
set_option maxRecDepth 100000
set_option maxHeartbeats 4000000
/-! P1: plain lemmas about the pure language. -/
namespace PL
open PySem
theorem run_at {T : List FnD} {i : Nat} {f : FnD} {as : List D} {m : Nat} (hf : T[i]? = some f) (hm : 0 < m) : run T m i as = runFn (run T (m - 1)) f as := by
  cases m with
  | zero => omega
  | succ n =>
    show (match T[i]? with | some f => runFn (run T n) f as | none => .bad) = _
    rw [hf]; rfl
def I (xs : List Int) : List D := xs.map .int
def B (xs : List Bool) : List D := xs.map .bl
@[simp] theorem I_len (xs : List Int) : (I xs).length = xs.length := List.length_map ..
@[simp] theorem B_len (xs : List Bool) : (B xs).length = xs.length := List.length_map ..
theorem I_cons (x : Int) (xs : List Int) : I (x :: xs) = .int x :: I xs := rfl
theorem I_app (xs ys : List Int) : I xs ++ I ys = I (xs ++ ys) := (List.map_append ..).symm
theorem intsD_I : ∀ xs : List Int, intsD (I xs) = some xs
  | [] => rfl
  | x :: xs => by
    show (intsD (I xs)).map (x :: ·) = _
    rw [intsD_I xs]; rfl
theorem boolsD_B : ∀ xs : List Bool, boolsD (B xs) = some xs
  | [] => rfl
  | x :: xs => by
    show (boolsD (B xs)).map (x :: ·) = _
    rw [boolsD_B xs]; rfl
theorem compF_map {α : Type} {step : D → Res (Option D)} {f : α → D} {g : α → D} : ∀ {xs : List α}, (∀ x ∈ xs, step (f x) = .ok (some (g x))) → compF step (xs.map f) = .ok (xs.map g)
  | [], _ => rfl
  | x :: xs, h => by
    show ((step (f x)).rb fun o => (compF step (xs.map f)).rb fun ys => _) = _
    rw [h x (List.mem_cons_self ..), compF_map fun y hy => h y (List.mem_cons_of_mem _ hy)]; rfl
theorem compF_filter {α : Type} {step : D → Res (Option D)} {f : α → D} {p : α → Bool} {g : α → D} : ∀ {xs : List α}, (∀ x ∈ xs, step (f x) = .ok (if p x then some (g x) else none)) → compF step (xs.map f) = .ok ((xs.filter p).map g)
  | [], _ => rfl
  | x :: xs, h => by
    show ((step (f x)).rb fun o => (compF step (xs.map f)).rb fun ys => _) = _
    rw [h x (List.mem_cons_self ..), compF_filter fun y hy => h y (List.mem_cons_of_mem _ hy)]
    cases q : p x <;> simp [q]
theorem loop_run {step : D → SE → Out} {kill : List Nat} {α : Type} {f : α → D} : ∀ {xs : List α} (S : Nat → SE), (∀ i x, xs[i]? = some x → ∃ e, step (f x) (S i) = .nx e ∧ kl kill e = S (i + 1)) → loopF step kill (xs.map f) (S 0) = .nx (S xs.length)
  | [], S, _ => rfl
  | x :: xs, S, h => by
    obtain ⟨e, h1, h2⟩ := h 0 x rfl
    show (match step (f x) (S 0) with
      | .nx e => loopF step kill (xs.map f) (kl kill e)
      | .ct e => loopF step kill (xs.map f) (kl kill e)
      | .bk e => .nx (kl kill e)
      | o => o) = _
    rw [h1]
    show loopF step kill (xs.map f) (kl kill e) = _
    rw [h2]
    exact loop_run (xs := xs) (fun i => S (i + 1)) fun i y hy => h (i + 1) y hy
theorem rng_map : ∀ (n : Nat) (lo : Int), rngN n lo 1 = (List.range n).map fun i : Nat => D.int (lo + i)
  | 0, _ => rfl
  | n + 1, lo => by
    show D.int lo :: rngN n (lo + 1) 1 = _
    rw [rng_map n, List.range_succ_eq_map, List.map_cons, List.map_map]
    congr 1
    · simp
    · apply List.map_congr_left
      intro i _
      show D.int (lo + 1 + i) = D.int (lo + ((i + 1 : Nat) : Int))
      congr 1; omega
/-! ### operations, one by one -/
section
variable {a b : Int} {xs ys : List D} {x y : D} {p q : Bool} {ns : List Int}
@[simp] theorem add_ii : binF .add (.int a) (.int b) = .ok (.int (a + b)) := rfl
@[simp] theorem sub_ii : binF .sub (.int a) (.int b) = .ok (.int (a - b)) := rfl
theorem add_ll (h : xs.length + ys.length ≤ sz) : binF .add (.lst xs) (.lst ys) = .ok (.lst (xs ++ ys)) := by
  show (if (xs ++ ys).length ≤ sz then _ else _) = _
  rw [if_pos (by rw [List.length_append]; exact h)]
theorem add_tt (h : xs.length + ys.length ≤ sz) : binF .add (.tup xs) (.tup ys) = .ok (.tup (xs ++ ys)) := by
  show (if (xs ++ ys).length ≤ sz then _ else _) = _
  rw [if_pos (by rw [List.length_append]; exact h)]
theorem mul_l (h : small a = true) : binF .mul (.int a) (.int b) = .ok (.int (a * b)) := by
  show (if (small a || small b) = true then _ else _) = _
  rw [h]; rfl
theorem mul_r (h : small b = true) : binF .mul (.int a) (.int b) = .ok (.int (a * b)) := by
  show (if (small a || small b) = true then _ else _) = _
  rw [h, Bool.or_true]; rfl
theorem small_of (h : -(2 ^ 64) < a) (h2 : a < 2 ^ 64) : small a = true := by
  unfold small
  rw [decide_eq_true h, decide_eq_true h2]; rfl
theorem fdiv_ii (h : 0 < b) (h2 : b < 2 ^ 64) : binF .fdiv (.int a) (.int b) = .ok (.int (a / b)) := by
  show (if (decide (0 < b) && decide (b < 2 ^ 64)) = true then _ else _) = _
  rw [decide_eq_true h, decide_eq_true h2]; rfl
theorem mod_ii (h : 0 < b) : binF .mod (.int a) (.int b) = .ok (.int (a % b)) := by
  show (if decide (0 < b) = true then _ else _) = _
  rw [decide_eq_true h]; rfl
@[simp] theorem lt_ii : cmpF .lt (.int a) (.int b) = .ok (.bl (decide (a < b))) := rfl
@[simp] theorem le_ii : cmpF .le (.int a) (.int b) = .ok (.bl (decide (a ≤ b))) := rfl
@[simp] theorem gt_ii : cmpF .gt (.int a) (.int b) = .ok (.bl (decide (b < a))) := rfl
@[simp] theorem ge_ii : cmpF .ge (.int a) (.int b) = .ok (.bl (decide (b ≤ a))) := rfl
theorem eq_of (h : cmpb dep x = true) (h2 : cmpb dep y = true) : cmpF .eq x y = .ok (.bl (eqD x y)) := by
  show (if (cmpb dep x && cmpb dep y) = true then _ else _) = _
  rw [h, h2]; rfl
theorem ne_of' (h : cmpb dep x = true) (h2 : cmpb dep y = true) : cmpF .ne x y = .ok (.bl (!eqD x y)) := by
  show (if (cmpb dep x && cmpb dep y) = true then _ else _) = _
  rw [h, h2]; rfl
@[simp] theorem eq_ii : cmpF .eq (.int a) (.int b) = .ok (.bl (decide (a = b))) := rfl
@[simp] theorem ne_ii : cmpF .ne (.int a) (.int b) = .ok (.bl (!decide (a = b))) := rfl
@[simp] theorem is_non : cmpF .is_ x .non = .ok (.bl (isNon x)) := by cases x <;> rfl
@[simp] theorem isn_non : cmpF .isn x .non = .ok (.bl (!isNon x)) := by cases x <;> rfl
@[simp] theorem is_bl : cmpF .is_ (.bl p) (.bl q) = .ok (.bl (decide (p = q))) := rfl
@[simp] theorem isn_bl : cmpF .isn (.bl p) (.bl q) = .ok (.bl (!decide (p = q))) := rfl
@[simp] theorem bi_1 {o : Bi} : biF o [x] = bi1 o x := rfl
@[simp] theorem bi_2 {o : Bi} : biF o [x, y] = bi2 o x y := rfl
@[simp] theorem len_l : bi1 .len (.lst xs) = .ok (.int xs.length) := rfl
@[simp] theorem len_t : bi1 .len (.tup xs) = .ok (.int xs.length) := rfl
@[simp] theorem len_s : bi1 .len (.scr ns) = .ok (.int ns.length) := rfl
@[simp] theorem sum_l : bi1 .sum (.lst (I ns)) = .ok (.int ns.sum) := by
  show (intsOf (.lst (I ns))).rb _ = _
  show (ofO (intsD (I ns))).rb _ = _
  rw [intsD_I]; rfl
@[simp] theorem sum_t : bi1 .sum (.tup (I ns)) = .ok (.int ns.sum) := by
  show (ofO (intsD (I ns))).rb _ = _
  rw [intsD_I]; rfl
@[simp] theorem all_l {bs : List Bool} : bi1 .all (.lst (B bs)) = .ok (.bl (bs.all id)) := by
  show (ofO (boolsD (B bs))).rb _ = _
  rw [boolsD_B]; rfl
@[simp] theorem any_l {bs : List Bool} : bi1 .any (.lst (B bs)) = .ok (.bl (bs.any id)) := by
  show (ofO (boolsD (B bs))).rb _ = _
  rw [boolsD_B]; rfl
@[simp] theorem sorted_l : bi1 .sorted (.lst (I ns)) = .ok (.lst (I (sortI ns))) := by
  show sortA (I ns) = _
  unfold sortA
  rw [intsD_I]; rfl
@[simp] theorem tuple_l : bi1 .tuple (.lst xs) = .ok (.tup xs) := rfl
@[simp] theorem tuple_t : bi1 .tuple (.tup xs) = .ok (.tup xs) := rfl
@[simp] theorem list_l : bi1 .list (.lst xs) = .ok (.lst xs) := rfl
@[simp] theorem list_t : bi1 .list (.tup xs) = .ok (.lst xs) := rfl
@[simp] theorem max_ii : bi2 .max (.int a) (.int b) = .ok (.int (if b > a then b else a)) := rfl
@[simp] theorem min_ii : bi2 .min (.int a) (.int b) = .ok (.int (if b < a then b else a)) := rfl
@[simp] theorem ix_l : ixF (.lst xs) (.int a) = ofO (L2.atI xs a) := rfl
@[simp] theorem ix_t : ixF (.tup xs) (.int a) = ofO (L2.atI xs a) := rfl
@[simp] theorem ix_s : ixF (.scr ns) (.int a) = (ofO (L2.atI ns a)).rb fun n => .ok (.int n) := rfl
@[simp] theorem sl_l {lo hi : Option Int} : slF (.lst xs) lo hi = .ok (.lst (cut xs lo hi)) := rfl
@[simp] theorem sl_t {lo hi : Option Int} : slF (.tup xs) lo hi = .ok (.tup (cut xs lo hi)) := rfl
@[simp] theorem seq_l : seqD (.lst xs) = .ok xs := rfl
@[simp] theorem seq_t : seqD (.tup xs) = .ok xs := rfl
@[simp] theorem walk_l : walkF (.lst xs) = .ok xs := rfl
@[simp] theorem walk_t : walkF (.tup xs) = .ok xs := rfl
theorem okL_of (h : xs.length ≤ sz) : okL xs = .ok (.lst xs) := if_pos h
theorem okT_of (h : xs.length ≤ sz) : okT xs = .ok (.tup xs) := if_pos h
end
theorem atI_nn {α : Type} {xs : List α} {i : Nat} (h : i < xs.length) : L2.atI xs (i : Int) = some xs[i] := by
  unfold L2.atI L2.ixN
  rw [if_pos (by omega), if_pos (by omega)]
  simp
theorem atI_pos {α : Type} {xs : List α} {i : Int} (h0 : 0 ≤ i) (h : i < xs.length) : L2.atI xs i = some (xs[i.toNat]'(by omega)) := by
  obtain ⟨n, rfl⟩ := Int.eq_ofNat_of_zero_le h0
  have h : n < xs.length := by omega
  have e := atI_nn h
  simpa using e
theorem atI_last {α : Type} {xs : List α} (h : xs ≠ []) : L2.atI xs (-1) = some (xs.getLast h) := by
  have hl : 0 < xs.length := List.length_pos_iff.mpr h
  unfold L2.atI L2.ixN
  rw [if_neg (by omega), if_pos (by omega)]
  have e : ((-1 : Int) + (xs.length : Int)).toNat = xs.length - 1 := by omega
  show xs[((-1 : Int) + (xs.length : Int)).toNat]? = _
  rw [e, List.getLast_eq_getElem, List.getElem?_eq_getElem]
theorem cut1 {α : Type} (xs : List α) : cut xs (some 1) none = xs.tail := by
  cases xs with
  | nil => rfl
  | cons x r =>
    unfold cut HT.sIx
    simp
/-! ### blocks step by step -/
theorem ex_nx {φ : Phi} {s : St} {r : Sts} {env e : SE} (h : exec φ s env = .nx e) : execs φ (.cons s r) env = execs φ r e := by
  show (exec φ s env).th _ = _
  rw [h]; rfl
theorem ex_rt {φ : Phi} {s : St} {r : Sts} {env : SE} {d : D} {b : Bool} (h : exec φ s env = .ret d b) : execs φ (.cons s r) env = .ret d b := by
  show (exec φ s env).th _ = _
  rw [h]; rfl
theorem if_nx {φ : Phi} {c : Ex} {a b r : Sts} {env : SE} {t : Bool} (h : eval φ c (env.map Sl.vw) = .ok (.bl t)) : execs φ (.cons (.ite c a b) r) env = (if t then execs φ a env else execs φ b env).th fun e => execs φ r e := by
  show ((eval φ c (env.map Sl.vw)).ou env _).th _ = _
  rw [h]; rfl
theorem while_run {test : SE → Res Bool} {step : SE → Out} {kill : List Nat} (Inv : SE → Prop) (mu : SE → Nat)
    (h : ∀ e, Inv e → (test e = .ok false) ∨ (test e = .ok true ∧ ∃ e1, step e = .nx e1 ∧ Inv (kl kill e1) ∧ mu (kl kill e1) < mu e)) : ∀ (n : Nat) (e : SE), mu e < n → Inv e → ∃ e1, whileF test step kill n e = .nx e1 ∧ Inv e1 ∧ test e1 = .ok false
  | 0, e, hn, _ => by omega
  | n + 1, e, hn, hi => by
    rcases h e hi with ht | ⟨ht, e1, h1, h2, h3⟩
    · exact ⟨e, by show (test e).ou e _ = _; rw [ht]; rfl, hi, ht⟩
    · obtain ⟨e2, h4, h5⟩ := while_run Inv mu h n (kl kill e1) (by omega) h2
      refine ⟨e2, ?_, h5⟩
      show (test e).ou e _ = _
      rw [ht]
      show (match step e with
        | .nx e => whileF test step kill n (kl kill e)
        | .ct e => whileF test step kill n (kl kill e)
        | .bk e => .nx (kl kill e)
        | o => o) = _
      rw [h1]; exact h4
theorem run_ret {T : List FnD} {i : Nat} {f : FnD} {as : List D} {m : Nat} {d : D} {b : Bool} (hf : T[i]? = some f) (hm : 0 < m) (hn : as.length = f.np) (h : execs (run T (m - 1)) f.body (as.map .sh ++ List.replicate (f.names.length - as.length) .no) = .ret d b) (hb : (f.fr && !b) = false) : run T m i as = .ok d := by
  rw [run_at hf hm]
  unfold runFn
  rw [if_pos hn, h]
  show (if (f.fr && !b) = true then _ else _) = _
  rw [hb]; rfl
theorem run_nx {T : List FnD} {i : Nat} {f : FnD} {as : List D} {m : Nat} {e : SE} (hf : T[i]? = some f) (hm : 0 < m) (hn : as.length = f.np) (h : execs (run T (m - 1)) f.body (as.map .sh ++ List.replicate (f.names.length - as.length) .no) = .nx e) (hb : f.fr = false) : run T m i as = .ok .non := by
  rw [run_at hf hm]
  unfold runFn
  rw [if_pos hn, h]
  show (if f.fr = true then _ else _) = _
  rw [hb]; rfl
theorem while_step {test : SE → Res Bool} {step : SE → Out} {kill : List Nat} {n : Nat} {e e1 : SE} (ht : test e = .ok true) (hs : step e = .nx e1) : whileF test step kill (n + 1) e = whileF test step kill n (kl kill e1) := by
  show (test e).ou e _ = _
  rw [ht]
  show (match step e with
        | .nx e => whileF test step kill n (kl kill e)
        | .ct e => whileF test step kill n (kl kill e)
        | .bk e => .nx (kl kill e)
        | o => o) = _
  rw [hs]
theorem while_stop {test : SE → Res Bool} {step : SE → Out} {kill : List Nat} {n : Nat} {e : SE} (ht : test e = .ok false) : whileF test step kill (n + 1) e = .nx e := by
  show (test e).ou e _ = _
  rw [ht]; rfl
theorem loop_inv {step : D → SE → Out} {kill : List Nat} {α : Type} {f : α → D} (Inv : Nat → SE → Prop) : ∀ {xs : List α} {k : Nat} {e0 : SE}, (∀ i x e, xs[i]? = some x → Inv (k + i) e → ∃ e1, step (f x) e = .nx e1 ∧ Inv (k + i + 1) (kl kill e1)) → Inv k e0 → ∃ e, loopF step kill (xs.map f) e0 = .nx e ∧ Inv (k + xs.length) e
  | [], k, e0, _, h0 => ⟨e0, rfl, h0⟩
  | x :: xs, k, e0, h, h0 => by
    obtain ⟨e1, h1, h2⟩ := h 0 x e0 rfl h0
    obtain ⟨e, h3, h4⟩ := loop_inv (xs := xs) (k := k + 1) Inv (fun i y e hy hI => by
      have := h (i + 1) y e hy (by rw [show k + (i + 1) = k + 1 + i by omega]; exact hI)
      rw [show k + (i + 1) + 1 = k + 1 + i + 1 by omega] at this
      exact this) h2
    refine ⟨e, ?_, by rw [List.length_cons, show k + (xs.length + 1) = k + 1 + xs.length by omega]; exact h4⟩
    show (match step (f x) e0 with
      | .nx e => loopF step kill (xs.map f) (kl kill e)
      | .ct e => loopF step kill (xs.map f) (kl kill e)
      | .bk e => .nx (kl kill e)
      | o => o) = _
    rw [h1]; exact h3
theorem for_inv {φ : Phi} {tg : Tg} {it : It} {body : Sts} {kill : List Nat} {env : SE} {α : Type} {f : α → D} {xs : List α} (Inv : Nat → SE → Prop) (hi : evalI φ it (env.map Sl.fg) = .ok (xs.map f)) (h0 : Inv 0 (kl kill env))
    (h : ∀ i x e, xs[i]? = some x → Inv i e → ∃ e0 e1, bindS tg (f x) e = .ok e0 ∧ execs φ body e0 = .nx e1 ∧ Inv (i + 1) (kl kill e1)) : ∃ e, exec φ (.for_ tg it body kill) env = .nx e ∧ Inv xs.length e := by
  show ∃ e, (evalI φ it (env.map Sl.fg)).ou env _ = .nx e ∧ _
  rw [hi]
  obtain ⟨e, h1, h2⟩ := loop_inv (step := fun d e => (bindS tg d e).ou e fun e1 => execs φ body e1) (kill := kill) (f := f) Inv (xs := xs) (k := 0) (e0 := kl kill env) (fun i x e hx hI => by
    rw [Nat.zero_add] at hI ⊢
    obtain ⟨e0, e1, h1, h2, h3⟩ := h i x e hx hI
    refine ⟨e1, ?_, h3⟩
    show (bindS tg (f x) e).ou e _ = _
    rw [h1]; exact h2) h0
  exact ⟨e, h1, by rw [Nat.zero_add] at h2; exact h2⟩
theorem ev_comp {φ : Phi} {elt : Ex} {own : List Nat} {tg : Tg} {it : It} {cond : Eo} {env : Ev} {α : Type} {f g : α → D} {xs : List α} (hi : evalI φ it env = .ok (xs.map f)) (hl : xs.length ≤ sz)
    (h : ∀ x ∈ xs, ((bindT tg (f x) (wipeE own env)).rb fun e1 => (evalc φ cond e1).rb fun t => if t then oneD (eval φ elt e1) else .ok none) = .ok (some (g x))) : eval φ (.comp elt own tg it cond) env = .ok (.lst (xs.map g)) := by
  show (evalI φ it env).rb _ = _
  rw [hi]
  show ((compF _ (xs.map f)).nox.rb fun xs => okL xs) = _
  rw [compF_map h]
  exact okL_of (by rw [List.length_map]; exact hl)
theorem ev_filter {φ : Phi} {elt : Ex} {own : List Nat} {tg : Tg} {it : It} {cond : Eo} {env : Ev} {α : Type} {f g : α → D} {p : α → Bool} {xs : List α} (hi : evalI φ it env = .ok (xs.map f)) (hl : xs.length ≤ sz)
    (h : ∀ x ∈ xs, ((bindT tg (f x) (wipeE own env)).rb fun e1 => (evalc φ cond e1).rb fun t => if t then oneD (eval φ elt e1) else .ok none) = .ok (if p x then some (g x) else none)) : eval φ (.comp elt own tg it cond) env = .ok (.lst ((xs.filter p).map g)) := by
  show (evalI φ it env).rb _ = _
  rw [hi]
  show ((compF _ (xs.map f)).nox.rb fun xs => okL xs) = _
  rw [compF_filter h]
  exact okL_of (by rw [List.length_map]; exact Nat.le_trans (List.length_filter_le _ _) hl)
theorem zip2_I : ∀ xs ys : List Int, zip2 (I xs) (I ys) = (xs.zip ys).map fun p => D.tup [.int p.1, .int p.2]
  | [], _ => rfl
  | _ :: _, [] => rfl
  | x :: xs, y :: ys => by
    show D.tup [.int x, .int y] :: zip2 (I xs) (I ys) = _
    rw [zip2_I xs ys]; rfl
theorem tail_I (xs : List Int) : (I xs).tail = I xs.tail := by cases xs <;> rfl
theorem eqDs_I : ∀ xs ys : List Int, eqDs (I xs) (I ys) = decide (xs = ys)
  | [], [] => rfl
  | [], _ :: _ => rfl
  | _ :: _, [] => rfl
  | x :: xs, y :: ys => by
    show (eqD (.int x) (.int y) && eqDs (I xs) (I ys)) = _
    rw [eqDs_I xs ys]
    show (decide (x = y) && decide (xs = ys)) = _
    by_cases h : x = y <;> by_cases h2 : xs = ys <;> simp [h, h2]
theorem cmpbs_I (n : Nat) : ∀ xs : List Int, cmpbs n (I xs) = true
  | [] => by cases n <;> rfl
  | x :: xs => by
    show (cmpb n (.int x) && cmpbs n (I xs)) = true
    rw [cmpbs_I n xs]
    cases n <;> rfl
theorem atoms_I : ∀ xs : List Int, (I xs).all atom = true
  | [] => rfl
  | x :: xs => by
    show (atom (.int x) && (I xs).all atom) = true
    rw [atoms_I xs]; rfl
/-! ### the meaning, piece by piece (no comprehension is opened) -/
section
variable {φ : Phi} {env : Ev} {a b c : Ex} {es : Exs} {sv : SE}
@[simp] theorem ev_con {d : D} : eval φ (.con d) env = .ok d := rfl
@[simp] theorem ev_gl {x : PySem.Str} {d : D} : eval φ (.gl x d) env = .ok d := rfl
@[simp] theorem ev_v0 {o : Option D} {r : Ev} {d : D} : eval φ (.var 0) (some d :: r) = .ok d := rfl
@[simp] theorem ev_vs {o : Option D} {r : Ev} {i : Nat} : eval φ (.var (i + 1)) (o :: r) = eval φ (.var i) r := rfl
theorem ev_var {i : Nat} : eval φ (.var i) env = (match env[i]? with
    | some (some d) => .ok d
    | _ => .bad) := rfl
@[simp] theorem ev_bin {o : BOp} : eval φ (.bin o a b) env = (eval φ a env).rb fun x => (eval φ b env).rb fun y => binF o x y := rfl
@[simp] theorem ev_neg : eval φ (.neg a) env = (eval φ a env).rb fun x => (asInt x).rb fun i => .ok (.int (-i)) := rfl
@[simp] theorem ev_not : eval φ (.not a) env = (eval φ a env).rb fun x => (asBl x).rb fun b => .ok (.bl (!b)) := rfl
@[simp] theorem ev_cmp {o : COp} : eval φ (.cmp o a b) env = (eval φ a env).rb fun x => (eval φ b env).rb fun y => cmpF o x y := rfl
@[simp] theorem ev_chain {o p : COp} : eval φ (.chain o p a b c) env = (eval φ a env).rb fun x => (eval φ b env).rb fun y => (cmpF o x y).rb fun r => (asBl r).rb fun t => if t then (eval φ c env).rb fun z => cmpF p y z else .ok (.bl false) := rfl
@[simp] theorem ev_and : eval φ (.and a b) env = (eval φ a env).rb fun x => (asBl x).rb fun t => if t then eval φ b env else .ok (.bl false) := rfl
@[simp] theorem ev_or : eval φ (.or a b) env = (eval φ a env).rb fun x => (asBl x).rb fun t => if t then .ok (.bl true) else eval φ b env := rfl
@[simp] theorem ev_ife : eval φ (.ife c a b) env = (eval φ c env).rb fun x => (asBl x).rb fun t => if t then eval φ a env else eval φ b env := rfl
@[simp] theorem ev_tup : eval φ (.tup es) env = (evals φ es env).rb fun xs => okT xs := rfl
@[simp] theorem ev_lst : eval φ (.lst es) env = (evals φ es env).rb fun xs => okL xs := rfl
@[simp] theorem ev_call {i : Nat} {fr : Bool} : eval φ (.call i fr es) env = (evals φ es env).rb fun xs => φ i xs := rfl
@[simp] theorem ev_bi {o : Bi} : eval φ (.bi o es) env = (evals φ es env).rb fun xs => biF o xs := rfl
@[simp] theorem ev_isI {t : Ty} : eval φ (.isI t a) env = (eval φ a env).rb fun x => (isF t x).rb fun b => .ok (.bl b) := rfl
@[simp] theorem ev_me {m : Me} : eval φ (.me m a es) env = (eval φ a env).rb fun x => (recv m x).rb fun _ => (evals φ es env).rb fun xs => meF m x xs := rfl
@[simp] theorem ev_ix : eval φ (.ix a b) env = (eval φ a env).rb fun x => (eval φ b env).rb fun y => ixF x y := rfl
@[simp] theorem ev_sl {lo hi : Eo} : eval φ (.sl a lo hi) env = (eval φ a env).rb fun x => (evalo φ lo env).rb fun l => (evalo φ hi env).rb fun h => slF x l h := rfl
@[simp] theorem ev_rev : eval φ (.rev a) env = (eval φ a env).rb fun x => revF x := rfl
@[simp] theorem ev_ss : eval φ (.sset a) env = (eval φ a env).rb fun x => ssF x := rfl
@[simp] theorem evs_nil : evals φ .nil env = .ok [] := rfl
@[simp] theorem evs_cons : evals φ (.cons a es) env = (eval φ a env).rb fun x => (evals φ es env).rb fun xs => .ok (x :: xs) := rfl
@[simp] theorem evo_no : evalo φ .no env = .ok none := rfl
@[simp] theorem evo_so : evalo φ (.so a) env = (eval φ a env).rb fun x => (asInt x).rb fun i => .ok (some i) := rfl
@[simp] theorem evc_no : evalc φ .no env = .ok true := rfl
@[simp] theorem evc_so : evalc φ (.so a) env = (eval φ a env).rb fun x => asBl x := rfl
@[simp] theorem evI_ex : evalI φ (.ex a) env = (eval φ a env).rb fun x => walkF x := rfl
@[simp] theorem evI_r1 : evalI φ (.rng1 a) env = (eval φ a env).rb fun x => (asInt x).rb fun i => rngF 0 i := rfl
@[simp] theorem evI_r2 : evalI φ (.rng2 a b) env = (eval φ a env).rb fun x => (asInt x).rb fun i => (eval φ b env).rb fun y => (asInt y).rb fun j => rngF i j := rfl
@[simp] theorem evI_z2 : evalI φ (.zip2 a b) env = (eval φ a env).rb fun x => (eval φ b env).rb fun y => zipF x y := rfl
@[simp] theorem zipF_l {xs ys : List D} : zipF (.lst xs) (.lst ys) = .ok (zip2 xs ys) := rfl
@[simp] theorem zipF_lt {xs ys : List D} : zipF (.lst xs) (.tup ys) = .ok (zip2 xs ys) := rfl
@[simp] theorem zipF_tl {xs ys : List D} : zipF (.tup xs) (.lst ys) = .ok (zip2 xs ys) := rfl
@[simp] theorem zipF_t {xs ys : List D} : zipF (.tup xs) (.tup ys) = .ok (zip2 xs ys) := rfl
@[simp] theorem vw_cons {s : Sl} {r : SE} : List.map Sl.vw (s :: r) = s.vw :: List.map Sl.vw r := rfl
@[simp] theorem fg_cons {s : Sl} {r : SE} : List.map Sl.fg (s :: r) = s.fg :: List.map Sl.fg r := rfl
@[simp] theorem vw_no : Sl.no.vw = none := rfl
@[simp] theorem vw_sh {d : D} : (Sl.sh d).vw = some d := rfl
@[simp] theorem vw_own {xs : List D} : (Sl.own xs).vw = some (.lst xs) := rfl
@[simp] theorem fg_no : Sl.no.fg = none := rfl
@[simp] theorem fg_sh {d : D} : (Sl.sh d).fg = some d := rfl
@[simp] theorem fg_own {xs : List D} : (Sl.own xs).fg = none := rfl
@[simp] theorem evS_f : evalS φ false a sv = eval φ a (sv.map Sl.fg) := rfl
@[simp] theorem evS_t : evalS φ true a sv = (eval φ a (sv.map Sl.vw)).rb fun d => if flat d then .ok d else .bad := rfl
variable {s : St} {r x y : Sts}
@[simp] theorem exs_nil : execs φ .nil sv = .nx sv := rfl
@[simp] theorem exs_cons : execs φ (.cons s r) sv = (exec φ s sv).th fun e => execs φ r e := rfl
@[simp] theorem exs_sq0 : execs φ (sq []) sv = .nx sv := rfl
@[simp] theorem exs_sq {l : List St} : execs φ (sq (s :: l)) sv = (exec φ s sv).th fun e => execs φ (sq l) e := rfl
@[simp] theorem ex_ret {e : Ex} : exec φ (.ret e) sv = (eval φ e (sv.map Sl.vw)).ou sv fun d => .ret d (fresh e || isOwn sv e) := rfl
@[simp] theorem ex_retN : exec φ .retN sv = .ret .non false := rfl
@[simp] theorem ex_ite {c : Ex} : exec φ (.ite c x y) sv = (eval φ c (sv.map Sl.vw)).ou sv fun d => (asBl d).ou sv fun t => if t then execs φ x sv else execs φ y sv := rfl
@[simp] theorem ex_nm {fl : Bool} {i : Nat} {e : Ex} : exec φ (.asg fl false (.nm i) e) sv = (evalS φ fl e sv).ou sv fun d => .nx (sv.set i (.sh d)) := rfl
@[simp] theorem ex_own {fl : Bool} {i : Nat} {e : Ex} : exec φ (.asg fl true (.nm i) e) sv = (evalS φ fl e sv).ou sv fun d => if fresh e then (mkS true d).ou sv fun s => .nx (sv.set i s) else .bad := rfl
@[simp] theorem ex_tp {fl : Bool} {ts : Tgs} {e : Ex} : exec φ (.asg fl false (.tp ts) e) sv = (evalS φ fl e sv).ou sv fun d => (bindS (.tp ts) d sv).ou sv .nx := rfl
@[simp] theorem ex_par {ts : List (Nat × Bool)} : exec φ (.par ts es) sv = if freshP ts es then (evals φ es (sv.map Sl.fg)).ou sv fun ds => (storeP ts ds sv).ou sv .nx else .bad := rfl
@[simp] theorem ex_ex {e : Ex} : exec φ (.ex e) sv = (eval φ e (sv.map Sl.vw)).ou sv fun _ => .nx sv := rfl
@[simp] theorem ex_app {fl : Bool} {i : Nat} {e : Ex} : exec φ (.app fl i e) sv = (ofO (ownAt sv i)).ou sv fun xs => (evalS φ fl e sv).ou sv fun d => if xs.length < sz then .nx (sv.set i (.own (xs ++ [d]))) else .bad := rfl
@[simp] theorem mk_t {xs : List D} : mkS true (.lst xs) = .ok (.own xs) := rfl
@[simp] theorem mk_f {d : D} : mkS false d = .ok (.sh d) := rfl
end
section
variable {sv : SE} {env : Ev} {d x : D} {xs : List D} {t : Tg} {ts : Tgs} {i : Nat}
@[simp] theorem bS_nm : bindS (.nm i) d sv = .ok (sv.set i (.sh d)) := rfl
@[simp] theorem bS_tp : bindS (.tp ts) (.tup xs) sv = bindSs ts xs sv := rfl
@[simp] theorem bS_0 : bindSs .nil [] sv = .ok sv := rfl
@[simp] theorem bS_c : bindSs (.cons t ts) (x :: xs) sv = (bindS t x sv).rb fun e => bindSs ts xs e := rfl
@[simp] theorem bT_nm : bindT (.nm i) d env = .ok (env.set i (some d)) := rfl
@[simp] theorem bT_tp : bindT (.tp ts) (.tup xs) env = bindTs ts xs env := rfl
@[simp] theorem bT_0 : bindTs .nil [] env = .ok env := rfl
@[simp] theorem bT_c : bindTs (.cons t ts) (x :: xs) env = (bindT t x env).rb fun e => bindTs ts xs e := rfl
@[simp] theorem wp_0 : wipeE [] env = env := rfl
@[simp] theorem wp_c {l : List Nat} : wipeE (i :: l) env = (wipeE l env).set i none := rfl
@[simp] theorem kl_0 : kl [] sv = sv := rfl
@[simp] theorem kl_c {l : List Nat} : kl (i :: l) sv = kl l (sv.set i .no) := rfl
end
theorem runFn_of {φ : Phi} {f : FnD} {as : List D} (h : as.length = f.np) : runFn φ f as = match execs φ f.body (as.map .sh ++ List.replicate (f.names.length - as.length) .no) with
    | .ret d b => if f.fr && !b then .bad else .ok d
    | .nx _ => if f.fr then .bad else .ok .non
    | .ex c _ => .exn c
    | _ => .bad := if_pos h
theorem rngF_nat {n : Nat} (h : n ≤ 1000000) : rngF 0 (n : Int) = .ok ((List.range n).map fun i : Nat => D.int i) := by
  unfold rngF
  have s1 : small62 0 = true := by decide
  have s2 : small62 (n : Int) = true := by
    unfold small62
    rw [decide_eq_true (by omega), decide_eq_true (by omega)]; rfl
  rw [s1, s2, rng_map]
  have e : ((n : Int) - 0).toNat = n := by omega
  rw [e]
  simp
theorem cmp_tI (xs : List Int) : cmpb dep (.tup (I xs)) = true := cmpbs_I 59 xs
theorem cmp_lI (xs : List Int) : cmpb dep (.lst (I xs)) = true := cmpbs_I 59 xs
@[simp] theorem eq_tI (xs ys : List Int) : cmpF .eq (.tup (I xs)) (.tup (I ys)) = .ok (.bl (decide (xs = ys))) := by
  rw [eq_of (cmp_tI _) (cmp_tI _)]
  show Res.ok (D.bl (eqDs _ _)) = _
  rw [eqDs_I]
@[simp] theorem ne_tI (xs ys : List Int) : cmpF .ne (.tup (I xs)) (.tup (I ys)) = .ok (.bl (!decide (xs = ys))) := by
  rw [ne_of' (cmp_tI _) (cmp_tI _)]
  show Res.ok (D.bl (!eqDs _ _)) = _
  rw [eqDs_I]
@[simp] theorem eq_lI (xs ys : List Int) : cmpF .eq (.lst (I xs)) (.lst (I ys)) = .ok (.bl (decide (xs = ys))) := by
  rw [eq_of (cmp_lI _) (cmp_lI _)]
  show Res.ok (D.bl (eqDs _ _)) = _
  rw [eqDs_I]
@[simp] theorem ne_lI (xs ys : List Int) : cmpF .ne (.lst (I xs)) (.lst (I ys)) = .ok (.bl (!decide (xs = ys))) := by
  rw [ne_of' (cmp_lI _) (cmp_lI _)]
  show Res.ok (D.bl (!eqDs _ _)) = _
  rw [eqDs_I]
theorem okL_I (xs : List Int) (h : xs.length ≤ sz) : okL (I xs) = .ok (.lst (I xs)) := okL_of (by rw [I_len]; exact h)
end PL
-- Y1
set_option Elab.async false
set_option linter.all false
set_option maxRecDepth 100000
set_option maxHeartbeats 4000000
/-! Y1: the typed layer: encoders, refinement Rf (a typed result tells what the pure language gives), rules per construct. -/
namespace Y
open PL
variable {α β γ δ τ σ ρ : Type}
/-! ### encoders -/
abbrev eI : Int → D := D.int
abbrev eB : Bool → D := D.bl
abbrev eS : PySem.Str → D := D.str
abbrev eD : D → D := fun d => d
abbrev eSc : List Int → D := D.scr
def eN : Unit → D := fun _ => .non
def eL (e : α → D) : List α → D := fun xs => .lst (xs.map e)
def eT (e : α → D) : List α → D := fun xs => .tup (xs.map e)
def eP (e : α → D) (f : β → D) : α × β → D := fun p => .tup [e p.1, f p.2]
def eP3 (e : α → D) (f : β → D) (g : γ → D) : α × β × γ → D := fun p => .tup [e p.1, f p.2.1, g p.2.2]
def eP4 (e : α → D) (f : β → D) (g : γ → D) (h : δ → D) : α × β × γ × δ → D := fun p => .tup [e p.1, f p.2.1, g p.2.2.1, h p.2.2.2]
def eO (e : α → D) : Option α → D
  | none => .non
  | some a => e a
/-- a statement of the program: a word and numbers -/
structure W where
  k : PySem.Str
  a : List Int
  deriving DecidableEq
def eW : W → D := fun w => .tup (.str w.k :: w.a.map .int)
/-! ### refinement -/
def Rf (r : Res δ) (t : Res α) (e : α → δ) : Prop := (∀ a, t = .ok a → r = .ok (e a)) ∧ ∀ c, t = .exn c → r = .exn c
theorem Rf.ok {r : Res δ} {a : α} {e : α → δ} (h : r = .ok (e a)) : Rf r (.ok a) e := ⟨fun b hb => by cases hb; exact h, fun c hc => nomatch hc⟩
theorem Rf.ex {r : Res δ} {c : PySem.Str} {e : α → δ} (h : r = .exn c) : Rf r (.exn c) e := ⟨(fun b hb => nomatch hb), fun d hd => by cases hd; exact h⟩
theorem Rf.no {r : Res δ} {e : α → δ} : Rf r .bad e := ⟨(fun b hb => nomatch hb), (fun d hd => nomatch hd)⟩
theorem Rf.get {r : Res δ} {a : α} {e : α → δ} (h : Rf r (.ok a) e) : r = .ok (e a) := h.1 a rfl
theorem Rf.getx {r : Res δ} {c : PySem.Str} {e : α → δ} (h : Rf r (.exn c) e) : r = .exn c := h.2 c rfl
theorem b_p {r : Res δ} {d : δ} {k : δ → Res γ} {u : Res α} {f : α → γ} (h : r = .ok d) (hk : Rf (k d) u f) : Rf (r.rb k) u f := by
  rw [h]; exact hk
theorem b_m {r : Res δ} {t : Res β} {e : β → δ} {k : δ → Res γ} {u : β → Res α} {f : α → γ} (h : Rf r t e) (hk : ∀ x, Rf (k (e x)) (u x) f) : Rf (r.rb k) (t.rb u) f := by
  cases t with
  | ok x =>
    have h : r = .ok (e x) := h.get
    rw [h]; exact hk x
  | exn c =>
    have h : r = .exn c := h.getx
    rw [h]; exact (by first | rfl | exact Rf.ok rfl | exact Rf.ex rfl)
  | bad => (first | trivial | exact Rf.no)
theorem Rf.fin {r : Res δ} {t : Res α} {e : α → δ} {a : α} (h : Rf r t e) (ht : t = .ok a) : r = .ok (e a) := by
  rw [ht] at h; exact h.get
/-! ### typed operations -/
def mulT (x y : Int) : Res Int := if small x || small y then .ok (x * y) else .bad
def fdivT (x y : Int) : Res Int := if decide (0 < y) && decide (y < 2 ^ 64) then .ok (x / y) else .bad
def modT (x y : Int) : Res Int := if decide (0 < y) then .ok (x % y) else .bad
def appT (xs ys : List α) : Res (List α) := if xs.length + ys.length ≤ sz then .ok (xs ++ ys) else .bad
def lenT (xs : List α) : Res (List α) := if xs.length ≤ sz then .ok xs else .bad
def repT (xs : List α) (k : Int) : Res (List α) := if decide (-(2 ^ 62) ≤ k) && decide (k < 2 ^ 62) && decide (xs.length * k.toNat ≤ sz) then .ok (List.replicate k.toNat xs).flatten else .bad
def repTt (xs : List α) (k : Int) : Res (List α) := if (!xs.isEmpty) && decide (2 ≤ k) && decide (k ≤ 1000) && decide (xs.length ≤ 1000) then .ok (List.replicate k.toNat xs).flatten else .bad
def atT (xs : List α) (i : Int) : Res α := ofO (L2.atI xs i)
def minT : List Int → Res Int
  | [] => .bad
  | n :: ns => .ok (minI n ns)
def maxT : List Int → Res Int
  | [] => .bad
  | n :: ns => .ok (maxI n ns)
def ssT (xs : List Int) : Res (List Int) := if xs.length < 4000 ∧ (dedI (sortI xs)).length < 60 then .ok (dedI (sortI xs)) else .bad
def lsT (xs : List Int) : Res Int := if xs.length < 4000 then .ok ((dedI (sortI xs)).length : Int) else .bad
def countT [DecidableEq α] (x : α) (xs : List α) : Int := (((xs.filter fun y => decide (y = x)).length : Nat) : Int)
def indexT [DecidableEq α] (x : α) : List α → Res Int
  | [] => .bad
  | y :: ys => if y = x then .ok 0 else (indexT x ys).rb fun i => .ok (i + 1)
def rangeI (lo hi : Int) : List Int := (List.range (hi - lo).toNat).map fun i : Nat => lo + i
def rngT (lo hi : Int) : Res (List Int) := if small62 lo && small62 hi then .ok (rangeI lo hi) else .bad
def rangeS : Nat → Int → Int → List Int
  | 0, _, _ => []
  | n + 1, lo, st => lo :: rangeS n (lo + st) st
def rng3T (lo hi st : Int) : Res (List Int) := if small62 lo && small62 hi && decide (st = -1) then .ok (rangeS (lo - hi).toNat lo st) else .bad
def rgT (xs : List α) : Res (List α) := if xs.length ≤ 1000000 then .ok xs else .bad
def pushT (xs : List α) (x : α) : Res (List α) := if xs.length < sz then .ok (xs ++ [x]) else .bad
def extT (xs ys : List α) : Res (List α) := if xs.length + ys.length ≤ sz then .ok (xs ++ ys) else .bad
def setT (xs : List α) (n : Int) (x : α) : Res (List α) := match L2.ixN xs.length n with
  | some j => .ok (xs.set j x)
  | none => .bad
def enumT : Nat → List α → List (Int × α)
  | _, [] => []
  | n, x :: xs => ((n : Int), x) :: enumT (n + 1) xs
def streqT (x y : PySem.Str) : Res Bool := if PySem.PyData.strOk x && PySem.PyData.strOk y then .ok (decide (x = y)) else .bad
/-- a comprehension whose parts may fail -/
def mapR (f : α → Res β) : List α → Res (List β)
  | [] => .ok []
  | x :: xs => (f x).nox.rb fun y => (mapR f xs).rb fun ys => .ok (y :: ys)
def cmpR (f : α → Res (Option β)) : List α → Res (List β)
  | [] => .ok []
  | x :: xs => (f x).nox.rb fun o => (cmpR f xs).rb fun ys => match o with
    | some y => .ok (y :: ys)
    | none => .ok ys
inductive Stp (σ ρ : Type) where
  | nx (s : σ) | bk (s : σ) | ret (r : ρ)
def forT (f : σ → α → Res (Stp σ ρ)) : List α → σ → Res (Stp σ ρ)
  | [], s => .ok (.nx s)
  | x :: xs, s => (f s x).rb fun o => match o with
    | .nx s' => forT f xs s'
    | .bk s' => .ok (.nx s')
    | .ret r => .ok (.ret r)
def whlT (test : σ → Res Bool) (f : σ → Res (Stp σ ρ)) : Nat → σ → Res (Stp σ ρ)
  | 0, _ => .bad
  | n + 1, s => (test s).rb fun b => if b then ((f s).rb fun o => match o with
    | .nx s' => whlT test f n s'
    | .bk s' => .ok (.nx s')
    | .ret r => .ok (.ret r)) else .ok (.nx s)
def after (o : Stp σ ρ) (g : σ → Res τ) (h : ρ → Res τ) : Res τ := match o with
  | .nx s => g s
  | .bk s => g s
  | .ret r => h r
@[simp] theorem after_nx {s : σ} {g : σ → Res τ} {h : ρ → Res τ} : after (.nx s) g h = g s := rfl
@[simp] theorem after_ret {r : ρ} {g : σ → Res τ} {h : ρ → Res τ} : after (.ret r : Stp σ ρ) g h = h r := rfl
/-! ### equality by encoders -/
structure EqE [DecidableEq α] (e : α → D) (n : Nat) : Prop where
  c : ∀ m a, n ≤ m → cmpb m (e a) = true
  e : ∀ a b, eqD (e a) (e b) = decide (a = b)
theorem eqe_I : EqE eI 0 := ⟨fun m a _ => by cases m <;> rfl, fun a b => rfl⟩
theorem eqe_B : EqE eB 0 := ⟨fun m a _ => by cases m <;> rfl, fun a b => by cases a <;> cases b <;> rfl⟩
theorem eqe_N : EqE eN 0 := ⟨fun m a _ => by cases m <;> rfl, fun a b => rfl⟩
theorem eqDs_map [DecidableEq α] {e : α → D} {n : Nat} (h : EqE e n) : ∀ xs ys : List α, eqDs (xs.map e) (ys.map e) = decide (xs = ys)
  | [], [] => rfl
  | [], _ :: _ => rfl
  | _ :: _, [] => rfl
  | x :: xs, y :: ys => by
    show (eqD (e x) (e y) && eqDs (xs.map e) (ys.map e)) = _
    rw [eqDs_map h xs ys, h.e]
    by_cases h1 : x = y <;> by_cases h2 : xs = ys <;> simp [h1, h2]
theorem cmpbs_map [DecidableEq α] {e : α → D} {n m : Nat} (h : EqE e n) (hm : n ≤ m) : ∀ xs : List α, cmpbs m (xs.map e) = true
  | [] => by cases m <;> rfl
  | x :: xs => by
    have e1 : cmpbs m ((x :: xs).map e) = (cmpb m (e x) && cmpbs m (xs.map e)) := by cases m <;> rfl
    rw [e1, cmpbs_map h hm xs, h.c m x hm]; rfl
theorem eqe_L [DecidableEq α] {e : α → D} {n : Nat} (h : EqE e n) : EqE (eL e) (n + 1) :=
  ⟨fun m a hm => by
    cases m with
    | zero => omega
    | succ m => exact cmpbs_map h (by omega) a, fun a b => eqDs_map h a b⟩
theorem eqe_T [DecidableEq α] {e : α → D} {n : Nat} (h : EqE e n) : EqE (eT e) (n + 1) :=
  ⟨fun m a hm => by
    cases m with
    | zero => omega
    | succ m => exact cmpbs_map h (by omega) a, fun a b => eqDs_map h a b⟩
theorem eqe_P [DecidableEq α] [DecidableEq β] {e : α → D} {f : β → D} {n : Nat} (h : EqE e n) (h2 : EqE f n) : EqE (eP e f) (n + 1) :=
  ⟨fun m a hm => by
    cases m with
    | zero => omega
    | succ m =>
      show (cmpb m (e a.1) && (cmpb m (f a.2) && cmpbs m [])) = true
      rw [h.c m _ (by omega), h2.c m _ (by omega)]
      cases m <;> rfl, fun a b => by
      show (eqD (e a.1) (e b.1) && (eqD (f a.2) (f b.2) && true)) = _
      rw [h.e, h2.e]
      obtain ⟨a1, a2⟩ := a
      obtain ⟨b1, b2⟩ := b
      by_cases h1 : a1 = b1 <;> by_cases h2 : a2 = b2 <;> simp [h1, h2]⟩
theorem eqe_up [DecidableEq α] {e : α → D} {n m : Nat} (h : EqE e n) (hm : n ≤ m) : EqE e m := ⟨fun k a hk => h.c k a (by omega), h.e⟩
theorem eqe_O [DecidableEq α] {e : α → D} {n : Nat} (h : EqE e n) (hn : ∀ a, isNon (e a) = false) : EqE (eO e) n :=
  ⟨fun m a hm => by
    cases a with
    | none => cases m <;> rfl
    | some a => exact h.c m a hm, fun a b => by
    cases a with
    | none => cases b with
      | none => rfl
      | some b =>
        have := hn b
        show eqD .non (e b) = _
        cases q : e b <;> first | rfl | (rw [q] at this; cases this)
    | some a => cases b with
      | none =>
        have := hn a
        show eqD (e a) .non = _
        cases q : e a <;> first | rfl | (rw [q] at this; cases this)
      | some b =>
        show eqD (e a) (e b) = _
        rw [h.e]; simp⟩
theorem nn_I (a : Int) : isNon (eI a) = false := rfl
theorem nn_B (a : Bool) : isNon (eB a) = false := rfl
theorem nn_L {e : α → D} (a : List α) : isNon (eL e a) = false := rfl
theorem nn_T {e : α → D} (a : List α) : isNon (eT e a) = false := rfl
theorem nn_P {e : α → D} {f : β → D} (a : α × β) : isNon (eP e f a) = false := rfl
theorem o_eq [DecidableEq α] {e : α → D} {n : Nat} (h : EqE e n) (hn : n ≤ dep) (a b : α) : cmpF .eq (e a) (e b) = .ok (eB (decide (a = b))) := by
  rw [eq_of (h.c _ _ hn) (h.c _ _ hn), h.e]
theorem o_ne [DecidableEq α] {e : α → D} {n : Nat} (h : EqE e n) (hn : n ≤ dep) (a b : α) : cmpF .ne (e a) (e b) = .ok (eB (!decide (a = b))) := by
  rw [ne_of' (h.c _ _ hn) (h.c _ _ hn), h.e]
theorem isNon_O {e : α → D} (hn : ∀ a, isNon (e a) = false) (o : Option α) : isNon (eO e o) = o.isNone := by
  cases o with
  | none => rfl
  | some a => exact hn a
theorem o_isO {e : α → D} (hn : ∀ a, isNon (e a) = false) (o : Option α) : cmpF .is_ (eO e o) .non = .ok (eB o.isNone) := by
  rw [is_non, isNon_O hn]
theorem o_isnO {e : α → D} (hn : ∀ a, isNon (e a) = false) (o : Option α) : cmpF .isn (eO e o) .non = .ok (eB (!o.isNone)) := by
  rw [isn_non, isNon_O hn]
theorem o_isB (p q : Bool) : cmpF .is_ (eB p) (eB q) = .ok (eB (decide (p = q))) := rfl
theorem o_isnB (p q : Bool) : cmpF .isn (eB p) (eB q) = .ok (eB (!decide (p = q))) := rfl
theorem o_streq (x y : PySem.Str) : Rf (cmpF .eq (eS x) (eS y)) (streqT x y) eB := by
  unfold streqT
  by_cases h : (PySem.PyData.strOk x && PySem.PyData.strOk y) = true
  · rw [if_pos h]
    simp only [Bool.and_eq_true] at h
    exact Rf.ok (eq_of (x := .str x) (y := .str y) h.1 h.2)
  · rw [if_neg h]; (first | trivial | exact Rf.no)
theorem o_strne (x y : PySem.Str) : Rf (cmpF .ne (eS x) (eS y)) ((streqT x y).rb fun b => .ok (!b)) eB := by
  unfold streqT
  by_cases h : (PySem.PyData.strOk x && PySem.PyData.strOk y) = true
  · rw [if_pos h]
    simp only [Bool.and_eq_true] at h
    exact Rf.ok (ne_of' (x := .str x) (y := .str y) h.1 h.2)
  · rw [if_neg h]; (first | trivial | exact Rf.no)
/-! ### operations by encoders -/
theorem o_add (a b : Int) : binF .add (eI a) (eI b) = .ok (eI (a + b)) := rfl
theorem o_sub (a b : Int) : binF .sub (eI a) (eI b) = .ok (eI (a - b)) := rfl
theorem o_mul (a b : Int) : Rf (binF .mul (eI a) (eI b)) (mulT a b) eI := by
  unfold mulT
  by_cases h : (small a || small b) = true
  · rw [if_pos h]; exact Rf.ok (if_pos h)
  · rw [if_neg h]; (first | trivial | exact Rf.no)
theorem o_mull (a b : Int) (h : small a = true) : binF .mul (eI a) (eI b) = .ok (eI (a * b)) := mul_l h
theorem o_mulr (a b : Int) (h : small b = true) : binF .mul (eI a) (eI b) = .ok (eI (a * b)) := mul_r h
theorem o_fdiv (a b : Int) : Rf (binF .fdiv (eI a) (eI b)) (fdivT a b) eI := by
  unfold fdivT
  by_cases h : (decide (0 < b) && decide (b < 2 ^ 64)) = true
  · rw [if_pos h]; exact Rf.ok (if_pos h)
  · rw [if_neg h]; (first | trivial | exact Rf.no)
theorem o_mod (a b : Int) : Rf (binF .mod (eI a) (eI b)) (modT a b) eI := by
  unfold modT
  by_cases h : (decide (0 < b)) = true
  · rw [if_pos h]; exact Rf.ok (if_pos h)
  · rw [if_neg h]; (first | trivial | exact Rf.no)
theorem o_fdivc (a b : Int) (h : (decide (0 < b) && decide (b < 2 ^ 64)) = true) : binF .fdiv (eI a) (eI b) = .ok (eI (a / b)) := if_pos h
theorem o_modc (a b : Int) (h : decide (0 < b) = true) : binF .mod (eI a) (eI b) = .ok (eI (a % b)) := if_pos h
theorem o_appL {e : α → D} (a b : List α) : Rf (binF .add (eL e a) (eL e b)) (appT a b) (eL e) := by
  unfold appT
  by_cases h : a.length + b.length ≤ sz
  · rw [if_pos h]
    refine Rf.ok ?_
    show binF .add (.lst _) (.lst _) = .ok (.lst _)
    rw [add_ll (by simpa using h), List.map_append]
  · rw [if_neg h]; (first | trivial | exact Rf.no)
theorem o_appT {e : α → D} (a b : List α) : Rf (binF .add (eT e a) (eT e b)) (appT a b) (eT e) := by
  unfold appT
  by_cases h : a.length + b.length ≤ sz
  · rw [if_pos h]
    refine Rf.ok ?_
    show binF .add (.tup _) (.tup _) = .ok (.tup _)
    rw [add_tt (by simpa using h), List.map_append]
  · rw [if_neg h]; (first | trivial | exact Rf.no)
theorem repD_map {e : α → D} (k : Nat) (a : List α) : repD k (a.map e) = (List.replicate k a).flatten.map e := by
  unfold repD
  rw [List.map_flatten, List.map_replicate]
theorem o_repL {e : α → D} (a : List α) (k : Int) : Rf (binF .mul (eL e a) (eI k)) (repT a k) (eL e) := by
  unfold repT
  by_cases h : (decide (-(2 ^ 62) ≤ k) && decide (k < 2 ^ 62) && decide (a.length * k.toNat ≤ sz)) = true
  · rw [if_pos h]
    refine Rf.ok ?_
    show mulF (.lst (a.map e)) (.int k) = .ok (.lst _)
    rw [← repD_map]
    exact if_pos (by rw [List.length_map]; exact h)
  · rw [if_neg h]; (first | trivial | exact Rf.no)
theorem o_repT {e : α → D} (a : List α) (k : Int) : Rf (binF .mul (eT e a) (eI k)) (repTt a k) (eT e) := by
  unfold repTt
  by_cases h : ((!a.isEmpty) && decide (2 ≤ k) && decide (k ≤ 1000) && decide (a.length ≤ 1000)) = true
  · rw [if_pos h]
    refine Rf.ok ?_
    show mulF (.tup (a.map e)) (.int k) = .ok (.tup _)
    rw [← repD_map]
    refine if_pos ?_
    rw [List.length_map]
    have : (a.map e).isEmpty = a.isEmpty := by cases a <;> rfl
    rw [this]; exact h
  · rw [if_neg h]; (first | trivial | exact Rf.no)
theorem o_lt (a b : Int) : cmpF .lt (eI a) (eI b) = .ok (eB (decide (a < b))) := rfl
theorem o_le (a b : Int) : cmpF .le (eI a) (eI b) = .ok (eB (decide (a ≤ b))) := rfl
theorem o_gt (a b : Int) : cmpF .gt (eI a) (eI b) = .ok (eB (decide (b < a))) := rfl
theorem o_ge (a b : Int) : cmpF .ge (eI a) (eI b) = .ok (eB (decide (b ≤ a))) := rfl
theorem anyEq_map [DecidableEq α] {e : α → D} {n : Nat} (h : EqE e n) (x : α) : ∀ xs : List α, anyEq (e x) (xs.map e) = decide (x ∈ xs)
  | [] => rfl
  | y :: ys => by
    show (eqD (e y) (e x) || anyEq (e x) (ys.map e)) = _
    rw [anyEq_map h x ys, h.e]
    by_cases h1 : y = x
    · simp [h1]
    · have h3 : ¬ x = y := fun z => h1 z.symm
      by_cases h2 : x ∈ ys <;> simp [h1, h2, h3]
theorem atoms_map {e : α → D} (h : ∀ a, atom (e a) = true) : ∀ xs : List α, (xs.map e).all atom = true
  | [] => rfl
  | x :: xs => by
    rw [List.map_cons, List.all_cons, atoms_map h xs, h x]; rfl
theorem at_I (a : Int) : atom (eI a) = true := rfl
theorem at_B (a : Bool) : atom (eB a) = true := rfl
theorem at_O {e : α → D} (h : ∀ a, atom (e a) = true) (o : Option α) : atom (eO e o) = true := by
  cases o with
  | none => rfl
  | some a => exact h a
theorem o_inL [DecidableEq α] {e : α → D} {n : Nat} (h : EqE e n) (ha : ∀ a, atom (e a) = true) (x : α) (xs : List α) : cmpF .in_ (e x) (eL e xs) = .ok (eB (decide (x ∈ xs))) := by
  show (if (atom (e x) && (xs.map e).all atom) = true then _ else _) = _
  rw [ha, atoms_map ha, anyEq_map h]; rfl
theorem o_inT [DecidableEq α] {e : α → D} {n : Nat} (h : EqE e n) (ha : ∀ a, atom (e a) = true) (x : α) (xs : List α) : cmpF .in_ (e x) (eT e xs) = .ok (eB (decide (x ∈ xs))) := by
  show (if (atom (e x) && (xs.map e).all atom) = true then _ else _) = _
  rw [ha, atoms_map ha, anyEq_map h]; rfl
theorem o_ninL [DecidableEq α] {e : α → D} {n : Nat} (h : EqE e n) (ha : ∀ a, atom (e a) = true) (x : α) (xs : List α) : cmpF .nin (e x) (eL e xs) = .ok (eB (!decide (x ∈ xs))) := by
  show (if (atom (e x) && (xs.map e).all atom) = true then _ else _) = _
  rw [ha, atoms_map ha, anyEq_map h]; rfl
theorem o_ninT [DecidableEq α] {e : α → D} {n : Nat} (h : EqE e n) (ha : ∀ a, atom (e a) = true) (x : α) (xs : List α) : cmpF .nin (e x) (eT e xs) = .ok (eB (!decide (x ∈ xs))) := by
  show (if (atom (e x) && (xs.map e).all atom) = true then _ else _) = _
  rw [ha, atoms_map ha, anyEq_map h]; rfl
/-! ### built-ins -/
theorem o_lenL {e : α → D} (a : List α) : bi1 .len (eL e a) = .ok (eI a.length) := by
  show Res.ok (D.int ((a.map e).length : Nat)) = _
  rw [List.length_map]
theorem o_lenT {e : α → D} (a : List α) : bi1 .len (eT e a) = .ok (eI a.length) := by
  show Res.ok (D.int ((a.map e).length : Nat)) = _
  rw [List.length_map]
theorem o_lenS (a : List Int) : bi1 .len (eSc a) = .ok (eI a.length) := rfl
theorem o_sumL (a : List Int) : bi1 .sum (eL eI a) = .ok (eI a.sum) := sum_l
theorem o_sumT (a : List Int) : bi1 .sum (eT eI a) = .ok (eI a.sum) := sum_t
theorem o_minL (a : List Int) : Rf (bi1 .min (eL eI a)) (minT a) eI := by
  show Rf (minA (I a)) _ _
  unfold minA
  rw [intsD_I]
  cases a with
  | nil => (first | trivial | exact Rf.no)
  | cons x a => exact (by first | rfl | exact Rf.ok rfl | exact Rf.ex rfl)
theorem o_minT (a : List Int) : Rf (bi1 .min (eT eI a)) (minT a) eI := o_minL a
theorem o_maxL (a : List Int) : Rf (bi1 .max (eL eI a)) (maxT a) eI := by
  show Rf ((ofO (intsD (I a))).rb maxF) _ _
  rw [intsD_I]
  cases a with
  | nil => (first | trivial | exact Rf.no)
  | cons x a => exact (by first | rfl | exact Rf.ok rfl | exact Rf.ex rfl)
theorem o_maxT (a : List Int) : Rf (bi1 .max (eT eI a)) (maxT a) eI := o_maxL a
def min2 (a b : Int) : Int := if b < a then b else a
def max2 (a b : Int) : Int := if b > a then b else a
theorem o_min2 (a b : Int) : bi2 .min (eI a) (eI b) = .ok (eI (min2 a b)) := rfl
theorem o_max2 (a b : Int) : bi2 .max (eI a) (eI b) = .ok (eI (max2 a b)) := rfl
theorem o_all (a : List Bool) : bi1 .all (eL eB a) = .ok (eB (a.all id)) := all_l
theorem o_any (a : List Bool) : bi1 .any (eL eB a) = .ok (eB (a.any id)) := any_l
theorem o_sorted (a : List Int) : bi1 .sorted (eL eI a) = .ok (eL eI (sortI a)) := sorted_l
theorem o_tupleL {e : α → D} (a : List α) : bi1 .tuple (eL e a) = .ok (eT e a) := rfl
theorem o_tupleT {e : α → D} (a : List α) : bi1 .tuple (eT e a) = .ok (eT e a) := rfl
theorem o_listL {e : α → D} (a : List α) : bi1 .list (eL e a) = .ok (eL e a) := rfl
theorem o_listT {e : α → D} (a : List α) : bi1 .list (eT e a) = .ok (eL e a) := rfl
theorem ssF_ints {d : D} {xs : List D} {ns : List Int} (h : seqD d = .ok xs) (h2 : intsD xs = some ns) : ssF d = ssI ns := by
  unfold ssF
  rw [h]
  show (match intsD xs with | some ns => ssI ns | none => _) = _
  rw [h2]
theorem o_ssL (a : List Int) : Rf (ssF (eL eI a)) (ssT a) (eL eI) := by
  unfold ssT
  rw [show ssF (eL eI a) = ssI a from ssF_ints (d := .lst (I a)) rfl (intsD_I a)]
  unfold ssI
  by_cases h : a.length < 4000 ∧ (dedI (sortI a)).length < 60
  · rw [if_pos h, if_pos h]; exact (by first | rfl | exact Rf.ok rfl | exact Rf.ex rfl)
  · rw [if_neg h, if_neg h]; (first | trivial | exact Rf.no)
theorem o_ssT (a : List Int) : Rf (ssF (eT eI a)) (ssT a) (eL eI) := by
  unfold ssT
  rw [show ssF (eT eI a) = ssI a from ssF_ints (d := .tup (I a)) rfl (intsD_I a)]
  unfold ssI
  by_cases h : a.length < 4000 ∧ (dedI (sortI a)).length < 60
  · rw [if_pos h, if_pos h]; exact (by first | rfl | exact Rf.ok rfl | exact Rf.ex rfl)
  · rw [if_neg h, if_neg h]; (first | trivial | exact Rf.no)
theorem o_lsL (a : List Int) : Rf (lsF (eL eI a)) (lsT a) eI := by
  unfold lsT
  show Rf ((ofO (intsD (I a))).rb fun ns => if ns.length < 4000 then Res.ok (D.int (dedI (sortI ns)).length) else .bad) _ _
  rw [intsD_I]
  by_cases h : a.length < 4000
  · rw [if_pos h]; exact Rf.ok (if_pos h)
  · rw [if_neg h]; (first | trivial | exact Rf.no)
theorem o_lsT (a : List Int) : Rf (lsF (eT eI a)) (lsT a) eI := o_lsL a
/-! ### ordered data -/
structure OrE (e : α → D) (lt : α → α → Bool) : Prop where
  lt : ∀ a b, ltD (e a) (e b) = lt a b
  c : ∀ a, cmpb dep (e a) = true
  al : ∀ a b, PySem.W.alike (toPy (e a)) (toPy (e b)) = true
  k : (∀ a, isTupN (e a) = true) ∨ ∀ a, isPlain (e a) = true
  n : ∀ a xs, intsD (e a :: xs) = none
theorem OrE.srt {e : α → D} {lt : α → α → Bool} (h : OrE e lt) (xs : List α) : srtb (xs.map e) = true := by
  unfold srtb alkD
  rw [Bool.and_eq_true, Bool.or_eq_true, List.all_eq_true]
  refine ⟨fun x hx => ?_, ?_⟩
  · obtain ⟨a, _, rfl⟩ := List.mem_map.mp hx
    rw [h.c a, Bool.true_and, List.all_eq_true]
    intro y hy
    obtain ⟨b, _, rfl⟩ := List.mem_map.mp hy
    exact h.al a b
  · rcases h.k with k | k
    · refine .inl (List.all_eq_true.mpr fun x hx => ?_)
      obtain ⟨a, _, rfl⟩ := List.mem_map.mp hx
      exact k a
    · refine .inr (List.all_eq_true.mpr fun x hx => ?_)
      obtain ⟨a, _, rfl⟩ := List.mem_map.mp hx
      exact k a
def minO (lt : α → α → Bool) : List α → Res α
  | [] => .bad
  | x :: xs => .ok (xs.foldl (fun a y => if lt y a then y else a) x)
def sortO (lt : α → α → Bool) (xs : List α) : List α := xs.mergeSort fun a b => !lt b a
theorem o_minO {e : α → D} {lt : α → α → Bool} (h : OrE e lt) (xs : List α) : Rf (bi1 .min (eL e xs)) (minO lt xs) e := by
  show Rf (minA (xs.map e)) _ _
  cases xs with
  | nil => exact Rf.no
  | cons x xs =>
    unfold minA
    rw [List.map_cons, h.n]
    show Rf (if srtb ((x :: xs).map e) = true then Res.ok (minDD (e x) (xs.map e)) else .bad) _ _
    rw [if_pos (h.srt _)]
    refine Rf.ok (congrArg Res.ok ?_)
    unfold minDD
    have key : ∀ (l : List α) (a : α), (l.map e).foldl (fun a y => if ltD y a = true then y else a) (e a) = e (l.foldl (fun a y => if lt y a = true then y else a) a) := by
      intro l
      induction l with
      | nil => intro a; rfl
      | cons b l ih =>
        intro a
        rw [List.map_cons, List.foldl_cons, List.foldl_cons, h.lt]
        cases lt b a with
        | true => exact ih b
        | false => exact ih a
    exact key xs x
theorem o_sortO {e : α → D} {lt : α → α → Bool} (h : OrE e lt) (xs : List α) : bi1 .sorted (eL e xs) = .ok (eL e (sortO lt xs)) := by
  show sortA (xs.map e) = _
  cases xs with
  | nil =>
    show Res.ok (D.lst []) = Res.ok (D.lst ((sortO lt []).map e))
    unfold sortO
    rw [List.mergeSort_nil]; rfl
  | cons x xs =>
    unfold sortA
    rw [List.map_cons, h.n]
    show (if srtb ((x :: xs).map e) = true then Res.ok (D.lst (((x :: xs).map e).mergeSort fun a b => !ltD b a)) else .bad) = _
    rw [if_pos (h.srt _)]
    unfold sortO
    refine congrArg (fun z => Res.ok (D.lst z)) ?_
    exact (List.map_mergeSort fun a _ b _ => by rw [h.lt]).symm
theorem alike_ints2 (xs ys : List Int) : PySem.W.alikeAll (toPys (xs.map D.int)) (toPys (ys.map D.int)) = true := by
  rw [toPys_eq, toPys_eq, List.map_map, List.map_map]
  exact PySem.W.alike_ints xs ys
def ltII (a b : Int × Int) : Bool := decide (a.1 < b.1 ∨ (a.1 = b.1 ∧ a.2 < b.2))
theorem ore_II : OrE (eP eI eI) ltII :=
  ⟨fun a b => PySem.W.dataLt_ii a.1 a.2 b.1 b.2, fun a => rfl, fun a b => by
    show PySem.W.alike (.tuple [.int a.1, .int a.2]) (.tuple [.int b.1, .int b.2]) = true
    simp [PySem.W.alike, PySem.W.alikeAll], .inl fun _ => rfl, fun _ _ => rfl⟩
/-- pairs, the second from 0 on: sets, sorted -/
def bdP (p : Int × Int) : Bool := decide (0 ≤ p.1) && decide (p.1 < pB) && decide (0 ≤ p.2) && decide (p.2 < pB)
def codP (p : Int × Int) : Int := p.1 * pB + p.2
def decP (c : Int) : Int × Int := (c / pB, c % pB)
def ssPT (xs : List (Int × Int)) : Res (List (Int × Int)) := if xs.all bdP && decide (xs.length < 64) then .ok ((dedI (sortI (xs.map codP))).map decP) else .bad
theorem pairsD_map : ∀ xs : List (Int × Int), xs.all bdP = true → pairsD (xs.map (eP eI eI)) = some (xs.map codP)
  | [], _ => rfl
  | p :: xs, h => by
    rw [List.all_cons, Bool.and_eq_true] at h
    have hb := h.1
    unfold bdP at hb
    simp only [Bool.and_eq_true, decide_eq_true_eq] at hb
    show (if 0 ≤ p.1 ∧ p.1 < pB ∧ 0 ≤ p.2 ∧ p.2 < pB then (pairsD (xs.map (eP eI eI))).map fun l => (p.1 * pB + p.2) :: l else none) = _
    rw [if_pos ⟨hb.1.1.1, hb.1.1.2, hb.1.2, hb.2⟩, pairsD_map xs h.2]; rfl
theorem o_ssPL (xs : List (Int × Int)) : Rf (ssF (eL (eP eI eI) xs)) (ssPT xs) (eL (eP eI eI)) := by
  unfold ssPT
  by_cases h : (xs.all bdP && decide (xs.length < 64)) = true
  · rw [if_pos h]
    rw [Bool.and_eq_true] at h
    refine Rf.ok ?_
    cases xs with
    | nil =>
      show ssI [] = _
      rfl
    | cons p xs =>
      show (ofO (pairsD ((p :: xs).map (eP eI eI)))).rb ssP = _
      rw [pairsD_map _ h.1]
      show (if ((p :: xs).map codP).length < 64 then Res.ok (D.lst ((dedI (sortI ((p :: xs).map codP))).map unpair)) else .bad) = _
      rw [if_pos (by rw [List.length_map]; exact of_decide_eq_true h.2)]
      show _ = Res.ok (D.lst (((dedI (sortI ((p :: xs).map codP))).map decP).map (eP eI eI)))
      rw [List.map_map]; rfl
  · rw [if_neg h]; exact Rf.no
def ltIs (a b : List Int) : Bool := decide (a < b)
theorem rowLt_is (a b : List Int) : PySem.W.rowLt (toPys (a.map D.int)) (toPys (b.map D.int)) = ltIs a b := by
  rw [toPys_eq, toPys_eq, List.map_map, List.map_map]
  exact PySem.W.dataLt_ints a b
def ltIT (a b : Int × List Int) : Bool := if a.1 = b.1 then ltIs a.2 b.2 else decide (a.1 < b.1)
theorem eqv_ints : ∀ xs ys : List Int, PySem.PyData.eqvAll (toPys (xs.map D.int)) (toPys (ys.map D.int)) = decide (xs = ys) := fun xs ys => by
  rw [toPys_eq, toPys_eq, List.map_map, List.map_map]
  exact eqI_py xs ys
theorem ore_IT : OrE (eP eI (eT eI)) ltIT :=
  ⟨fun a b => by
    show PySem.W.dataLt (.tuple [.int a.1, .tuple (toPys (a.2.map D.int))]) (.tuple [.int b.1, .tuple (toPys (b.2.map D.int))]) = _
    rw [PySem.W.dataLt_pair (by simp [PySem.W.alike]) (by simp only [PySem.W.alike]; exact alike_ints2 _ _), PySem.W.dataLt_int, PySem.W.dataLt_tuple]
    have e := rowLt_is a.2 b.2
    unfold PySem.W.rowLt at e
    rw [e]
    have e2 : PySem.PyData.eqv (.tuple (toPys (a.2.map D.int))) (.tuple (toPys (b.2.map D.int))) = decide (a.2 = b.2) := by
      simp only [PySem.PyData.eqv]; exact eqv_ints _ _
    rw [e2]
    unfold ltIT
    by_cases h : a.1 = b.1
    · by_cases h2 : a.2 = b.2
      · simp [h, h2, PySem.PyData.eqv, ltIs]
      · simp [h, h2, PySem.PyData.eqv]
    · simp [h, PySem.PyData.eqv], fun a => (eqe_P (eqe_up (m := 1) eqe_I (by decide)) (eqe_T eqe_I)).c dep a (by decide), fun a b => by
    show PySem.W.alike (.tuple [.int a.1, .tuple (toPys (a.2.map D.int))]) (.tuple [.int b.1, .tuple (toPys (b.2.map D.int))]) = true
    simp only [PySem.W.alike, PySem.W.alikeAll, alike_ints2, Bool.and_self], .inl fun _ => rfl, fun _ _ => rfl⟩
theorem ore_LI : OrE (eL eI) ltIs :=
  ⟨fun a b => by
    show PySem.W.dataLt (.list (toPys (a.map D.int))) (.list (toPys (b.map D.int))) = _
    rw [PySem.W.dataLt_list]
    exact rowLt_is a b, fun a => (eqe_L eqe_I).c dep a (by decide), fun a b => by
    show PySem.W.alike (.list (toPys (a.map D.int))) (.list (toPys (b.map D.int))) = true
    simp only [PySem.W.alike]; exact alike_ints2 _ _, .inr fun _ => rfl, fun _ _ => rfl⟩
end Y
namespace Y
open PL
variable {α β γ δ τ σ ρ : Type}
/-! ### subscripts, slices, methods -/
theorem atI_map {e : α → D} (xs : List α) (i : Int) : L2.atI (xs.map e) i = (L2.atI xs i).map e := by
  unfold L2.atI
  rw [List.length_map]
  cases L2.ixN xs.length i with
  | none => rfl
  | some j =>
    show (xs.map e)[j]? = (xs[j]?).map e
    rw [List.getElem?_map]
theorem Rf_ofO {e : α → D} (o : Option α) : Rf (ofO (o.map e)) (ofO o) e := by
  cases o with
  | none => (first | trivial | exact Rf.no)
  | some a => exact (by first | rfl | exact Rf.ok rfl | exact Rf.ex rfl)
theorem o_ixL {e : α → D} (xs : List α) (i : Int) : Rf (ixF (eL e xs) (eI i)) (atT xs i) e := by
  show Rf (ofO (L2.atI (xs.map e) i)) _ _
  rw [atI_map]; exact Rf_ofO _
theorem o_ixT {e : α → D} (xs : List α) (i : Int) : Rf (ixF (eT e xs) (eI i)) (atT xs i) e := o_ixL xs i
theorem o_ixS (xs : List Int) (i : Int) : Rf (ixF (eSc xs) (eI i)) (atT xs i) eI := by
  show Rf ((ofO (L2.atI xs i)).rb _) (ofO (L2.atI xs i)) _
  cases L2.atI xs i with
  | none => (first | trivial | exact Rf.no)
  | some a => exact (by first | rfl | exact Rf.ok rfl | exact Rf.ex rfl)
theorem cut_map {e : α → D} (xs : List α) (lo hi : Option Int) : cut (xs.map e) lo hi = (cut xs lo hi).map e := by
  unfold cut
  rw [List.length_map, List.map_take, List.map_drop]
theorem o_slL {e : α → D} (xs : List α) (lo hi : Option Int) : slF (eL e xs) lo hi = .ok (eL e (cut xs lo hi)) := by
  show Res.ok (D.lst (cut (xs.map e) lo hi)) = _
  rw [cut_map]; rfl
theorem o_slT {e : α → D} (xs : List α) (lo hi : Option Int) : slF (eT e xs) lo hi = .ok (eT e (cut xs lo hi)) := by
  show Res.ok (D.tup (cut (xs.map e) lo hi)) = _
  rw [cut_map]; rfl
theorem o_revL {e : α → D} (xs : List α) : revF (eL e xs) = .ok (eL e xs.reverse) := by
  show Res.ok (D.lst (xs.map e).reverse) = _
  rw [← List.map_reverse]; rfl
theorem o_revT {e : α → D} (xs : List α) : revF (eT e xs) = .ok (eT e xs.reverse) := by
  show Res.ok (D.tup (xs.map e).reverse) = _
  rw [← List.map_reverse]; rfl
theorem countD_map [DecidableEq α] {e : α → D} {n : Nat} (h : EqE e n) (x : α) : ∀ xs : List α, countD (e x) (xs.map e) = (xs.filter fun y => decide (y = x)).length
  | [] => rfl
  | y :: ys => by
    show (if eqD (e y) (e x) = true then 1 else 0) + countD (e x) (ys.map e) = _
    rw [countD_map h x ys, h.e]
    by_cases h1 : y = x
    · rw [List.filter_cons_of_pos (by simpa using h1)]
      simp [h1]; omega
    · rw [List.filter_cons_of_neg (by simpa using h1)]
      simp [h1]
theorem o_count [DecidableEq α] {e : α → D} {n : Nat} (h : EqE e n) (ha : ∀ a, atom (e a) = true) (x : α) (xs : List α) : meF .count (eL e xs) [e x] = .ok (eI (countT x xs)) := by
  show (if (atom (e x) && (xs.map e).all atom) = true then _ else _) = _
  rw [ha, atoms_map ha, countD_map h]; rfl
theorem indexD_map [DecidableEq α] {e : α → D} {n : Nat} (h : EqE e n) (x : α) : ∀ xs : List α, Rf (ofO (indexD (e x) (xs.map e))) (indexT x xs) fun i : Int => i.toNat
  | [] => Rf.no
  | y :: ys => by
    have ih := indexD_map h x ys
    show Rf (ofO (if eqD (e y) (e x) = true then some 0 else (indexD (e x) (ys.map e)).map (· + 1))) (if y = x then .ok 0 else _) _
    rw [h.e]
    by_cases h1 : y = x
    · simp [h1]; exact (by first | rfl | exact Rf.ok rfl | exact Rf.ex rfl)
    · rw [if_neg (by simpa using h1), if_neg h1]
      cases q : indexT x ys with
      | ok i =>
        rw [q] at ih
        have ih : ofO (indexD (e x) (ys.map e)) = .ok i.toNat := ih.get
        cases q2 : indexD (e x) (ys.map e) with
        | none => rw [q2] at ih; cases ih
        | some j =>
          rw [q2] at ih
          have ih : j = i.toNat := by cases ih; rfl
          refine Rf.ok ?_
          show Res.ok (j + 1) = Res.ok ((i + 1).toNat)
          have h0 : 0 ≤ i := by
            have : ∀ (zs : List α) (i : Int), indexT x zs = .ok i → 0 ≤ i := by
              intro zs
              induction zs with
              | nil => intro i h; cases h
              | cons z zs ih =>
                intro i h
                unfold indexT at h
                by_cases hz : z = x
                · rw [if_pos hz] at h; cases h; exact Int.le_refl _
                · rw [if_neg hz] at h
                  obtain ⟨j, h1, h2⟩ := rb_eq_ok h
                  cases h2
                  have := ih j h1
                  omega
            exact this ys i q
          rw [ih]; congr 1; omega
      | exn c =>
        exfalso
        have : ∀ (zs : List α), indexT x zs ≠ .exn c := by
          intro zs
          induction zs with
          | nil => intro h; cases h
          | cons z zs ih =>
            intro h
            unfold indexT at h
            by_cases hz : z = x
            · rw [if_pos hz] at h; cases h
            · rw [if_neg hz] at h
              cases q : indexT x zs with
              | ok j => rw [q] at h; cases h
              | exn d => rw [q] at h; cases h; exact ih q
              | bad => rw [q] at h; cases h
        exact this ys q
      | bad => (first | trivial | exact Rf.no)
theorem index_nn [DecidableEq α] {x : α} : ∀ {zs : List α} {i : Int}, indexT x zs = .ok i → 0 ≤ i
  | [], _, h => by cases h
  | z :: zs, i, h => by
    unfold indexT at h
    by_cases hz : z = x
    · rw [if_pos hz] at h; cases h; exact Int.le_refl _
    · rw [if_neg hz] at h
      obtain ⟨j, h1, h2⟩ := rb_eq_ok h
      cases h2
      have := index_nn h1
      omega
theorem o_index [DecidableEq α] {e : α → D} {n : Nat} (h : EqE e n) (ha : ∀ a, atom (e a) = true) (x : α) (xs : List α) : Rf (meF .index (eL e xs) [e x]) (indexT x xs) eI := by
  show Rf (if (atom (e x) && (xs.map e).all atom) = true then _ else _) _ _
  rw [ha, atoms_map ha]
  have k := indexD_map h x xs
  show Rf ((ofO (indexD (e x) (xs.map e))).rb fun i => .ok (D.int i)) _ _
  cases q : indexT x xs with
  | ok i =>
    rw [q] at k
    have k : ofO (indexD (e x) (xs.map e)) = .ok i.toNat := k.get
    rw [k]
    refine Rf.ok ?_
    show Res.ok (D.int (i.toNat : Nat)) = .ok (.int i)
    rw [Int.toNat_of_nonneg (index_nn q)]
  | exn c =>
    rw [q] at k
    have k : ofO (indexD (e x) (xs.map e)) = .exn c := k.getx
    rw [k]; exact (by first | rfl | exact Rf.ok rfl | exact Rf.ex rfl)
  | bad => (first | trivial | exact Rf.no)
/-! ### ranges, zips -/
theorem rngN_map (n : Nat) (lo : Int) : rngN n lo 1 = ((List.range n).map fun i : Nat => lo + (i : Int)).map D.int := by
  rw [rng_map, List.map_map]; rfl
theorem o_rng (lo hi : Int) : Rf (rngF lo hi) (rngT lo hi) fun xs => xs.map eI := by
  unfold rngF rngT
  by_cases h : (small62 lo && small62 hi) = true
  · rw [if_pos h, if_pos h]
    refine Rf.ok ?_
    show Res.ok (rngN (hi - lo).toNat lo 1) = Res.ok ((rangeI lo hi).map eI)
    rw [rngN_map]; rfl
  · rw [if_neg h, if_neg h]; (first | trivial | exact Rf.no)
theorem rngN_S : ∀ (n : Nat) (lo st : Int), rngN n lo st = (rangeS n lo st).map D.int
  | 0, _, _ => rfl
  | n + 1, lo, st => by
    show D.int lo :: rngN n (lo + st) st = D.int lo :: (rangeS n (lo + st) st).map D.int
    rw [rngN_S n]
theorem o_rng3 (lo hi st : Int) : Rf (rngF3 lo hi st) (rng3T lo hi st) fun xs => xs.map eI := by
  unfold rngF3 rng3T
  by_cases h : (small62 lo && small62 hi && decide (st = -1)) = true
  · rw [if_pos h, if_pos h]
    refine Rf.ok ?_
    show Res.ok (rngN (lo - hi).toNat lo st) = Res.ok ((rangeS (lo - hi).toNat lo st).map eI)
    rw [rngN_S]
  · rw [if_neg h, if_neg h]; (first | trivial | exact Rf.no)
theorem zip2_map {e : α → D} {f : β → D} : ∀ (xs : List α) (ys : List β), zip2 (xs.map e) (ys.map f) = (xs.zip ys).map (eP e f)
  | [], _ => rfl
  | _ :: _, [] => rfl
  | x :: xs, y :: ys => by
    show D.tup [e x, f y] :: zip2 (xs.map e) (ys.map f) = _
    rw [zip2_map xs ys]; rfl
theorem zip3_map {e : α → D} {f : β → D} {g : γ → D} : ∀ (xs : List α) (ys : List β) (zs : List γ), zip3 (xs.map e) (ys.map f) (zs.map g) = (xs.zip (ys.zip zs)).map (eP3 e f g)
  | [], _, _ => rfl
  | _ :: _, [], _ => rfl
  | _ :: _, _ :: _, [] => rfl
  | x :: xs, y :: ys, z :: zs => by
    show D.tup [e x, f y, g z] :: zip3 (xs.map e) (ys.map f) (zs.map g) = _
    rw [zip3_map xs ys zs]; rfl
theorem enum_map {e : α → D} : ∀ (n : Nat) (xs : List α), enumF n (xs.map e) = (enumT n xs).map (eP eI e)
  | _, [] => rfl
  | n, x :: xs => by
    show D.tup [.int n, e x] :: enumF (n + 1) (xs.map e) = _
    rw [enum_map (n + 1) xs]; rfl
theorem o_zLL {e : α → D} {f : β → D} (xs : List α) (ys : List β) : zipF (eL e xs) (eL f ys) = .ok ((xs.zip ys).map (eP e f)) := congrArg Res.ok (zip2_map xs ys)
theorem o_zLT {e : α → D} {f : β → D} (xs : List α) (ys : List β) : zipF (eL e xs) (eT f ys) = .ok ((xs.zip ys).map (eP e f)) := congrArg Res.ok (zip2_map xs ys)
theorem o_zTL {e : α → D} {f : β → D} (xs : List α) (ys : List β) : zipF (eT e xs) (eL f ys) = .ok ((xs.zip ys).map (eP e f)) := congrArg Res.ok (zip2_map xs ys)
theorem o_zTT {e : α → D} {f : β → D} (xs : List α) (ys : List β) : zipF (eT e xs) (eT f ys) = .ok ((xs.zip ys).map (eP e f)) := congrArg Res.ok (zip2_map xs ys)
end Y
-- Y2
set_option Elab.async false
set_option linter.all false
set_option maxRecDepth 100000
set_option maxHeartbeats 4000000
/-! Y2: the typed layer: rules for expressions, comprehensions, statements, defs. -/
namespace Y
open PL
variable {α β γ δ τ σ ρ : Type}
section
variable {φ : Phi} {env : Ev} {a b c : Ex} {es : Exs} {x y z : D} {ds : List D}
/-! ### pure rules -/
theorem p_var {i : Nat} (h : env[i]? = some (some x)) : eval φ (.var i) env = .ok x := by
  rw [ev_var, h]
theorem p_con : eval φ (.con x) env = .ok x := rfl
theorem p_gl {s : PySem.Str} : eval φ (.gl s x) env = .ok x := rfl
theorem p_bin {o : BOp} (ha : eval φ a env = .ok x) (hb : eval φ b env = .ok y) (h : binF o x y = .ok z) : eval φ (.bin o a b) env = .ok z := by
  rw [ev_bin, ha, rb_ok, hb, rb_ok, h]
theorem p_cmp {o : COp} (ha : eval φ a env = .ok x) (hb : eval φ b env = .ok y) (h : cmpF o x y = .ok z) : eval φ (.cmp o a b) env = .ok z := by
  rw [ev_cmp, ha, rb_ok, hb, rb_ok, h]
theorem p_neg {i : Int} (ha : eval φ a env = .ok (eI i)) : eval φ (.neg a) env = .ok (eI (-i)) := by
  rw [ev_neg, ha]; rfl
theorem p_not {p : Bool} (ha : eval φ a env = .ok (eB p)) : eval φ (.not a) env = .ok (eB (!p)) := by
  rw [ev_not, ha]; rfl
theorem p_chain {o o2 : COp} {p q : Bool} (ha : eval φ a env = .ok x) (hb : eval φ b env = .ok y) (hc : eval φ c env = .ok z) (h1 : cmpF o x y = .ok (eB p)) (h2 : cmpF o2 y z = .ok (eB q)) : eval φ (.chain o o2 a b c) env = .ok (eB (p && q)) := by
  rw [ev_chain, ha, rb_ok, hb, rb_ok, h1]
  cases p with
  | false => rfl
  | true =>
    show (eval φ c env).rb _ = _
    rw [hc]; exact h2
theorem p_and {p q : Bool} (ha : eval φ a env = .ok (eB p)) (hb : eval φ b env = .ok (eB q)) : eval φ (.and a b) env = .ok (eB (p && q)) := by
  rw [ev_and, ha]
  cases p with
  | false => rfl
  | true => exact hb
theorem p_or {p q : Bool} (ha : eval φ a env = .ok (eB p)) (hb : eval φ b env = .ok (eB q)) : eval φ (.or a b) env = .ok (eB (p || q)) := by
  rw [ev_or, ha]
  cases p with
  | true => rfl
  | false => exact hb
theorem p_ife {p : Bool} {e : α → D} {u v : α} (hc : eval φ c env = .ok (eB p)) (ha : eval φ a env = .ok (e u)) (hb : eval φ b env = .ok (e v)) : eval φ (.ife c a b) env = .ok (e (if p = true then u else v)) := by
  rw [ev_ife, hc]
  cases p with
  | true => exact ha
  | false => exact hb
theorem p_nil : evals φ .nil env = .ok [] := rfl
theorem p_cons (h : eval φ a env = .ok x) (hs : evals φ es env = .ok ds) : evals φ (.cons a es) env = .ok (x :: ds) := by
  rw [evs_cons, h, rb_ok, hs]; rfl
theorem o_okT (h : Nat.ble ds.length 1000 = true) : okT ds = .ok (.tup ds) := okT_of (Nat.le_trans (Nat.le_of_ble_eq_true h) (by decide))
theorem o_okL (h : Nat.ble ds.length 1000 = true) : okL ds = .ok (.lst ds) := okL_of (Nat.le_trans (Nat.le_of_ble_eq_true h) (by decide))
theorem p_tup (h : evals φ es env = .ok ds) (hl : Nat.ble ds.length 1000 = true) : eval φ (.tup es) env = .ok (.tup ds) := by
  rw [ev_tup, h]; exact o_okT hl
theorem p_lst (h : evals φ es env = .ok ds) (hl : Nat.ble ds.length 1000 = true) : eval φ (.lst es) env = .ok (.lst ds) := by
  rw [ev_lst, h]; exact o_okL hl
theorem p_bi {o : Bi} (h : evals φ es env = .ok ds) (ho : biF o ds = .ok x) : eval φ (.bi o es) env = .ok x := by
  rw [ev_bi, h]; exact ho
theorem p_isI {t : Ty} {p : Bool} (ha : eval φ a env = .ok x) (h : isF t x = .ok p) : eval φ (.isI t a) env = .ok (eB p) := by
  rw [ev_isI, ha, rb_ok, h]; rfl
theorem p_me {m : Me} (ha : eval φ a env = .ok x) (hr : recv m x = .ok ()) (hs : evals φ es env = .ok ds) (h : meF m x ds = .ok y) : eval φ (.me m a es) env = .ok y := by
  rw [ev_me, ha, rb_ok, hr, rb_ok, hs]; exact h
theorem p_ix (ha : eval φ a env = .ok x) (hb : eval φ b env = .ok y) (h : ixF x y = .ok z) : eval φ (.ix a b) env = .ok z := by
  rw [ev_ix, ha, rb_ok, hb, rb_ok, h]
theorem po_no : evalo φ .no env = .ok none := rfl
theorem po_so {i : Int} (h : eval φ a env = .ok (eI i)) : evalo φ (.so a) env = .ok (some i) := by
  rw [evo_so, h]; rfl
theorem p_sl {lo hi : Eo} {l h : Option Int} (ha : eval φ a env = .ok x) (hl : evalo φ lo env = .ok l) (hh : evalo φ hi env = .ok h) (ho : slF x l h = .ok y) : eval φ (.sl a lo hi) env = .ok y := by
  rw [ev_sl, ha, rb_ok, hl, rb_ok, hh]; exact ho
theorem p_rev (ha : eval φ a env = .ok x) (h : revF x = .ok y) : eval φ (.rev a) env = .ok y := by
  rw [ev_rev, ha]; exact h
/-! ### rules with binds -/
variable {e : α → D} {t : Res α}
theorem y_bin {o : BOp} (h : Rf ((eval φ a env).rb fun x => (eval φ b env).rb fun y => binF o x y) t e) : Rf (eval φ (.bin o a b) env) t e := h
theorem y_cmp {o : COp} (h : Rf ((eval φ a env).rb fun x => (eval φ b env).rb fun y => cmpF o x y) t e) : Rf (eval φ (.cmp o a b) env) t e := h
theorem y_neg (h : Rf ((eval φ a env).rb fun x => (asInt x).rb fun i => .ok (.int (-i))) t e) : Rf (eval φ (.neg a) env) t e := h
theorem y_not (h : Rf ((eval φ a env).rb fun x => (asBl x).rb fun b => .ok (.bl (!b))) t e) : Rf (eval φ (.not a) env) t e := h
def chainK (φ : Phi) (o o2 : COp) (c : Ex) (env : Ev) (x y : D) : Res D := (cmpF o x y).rb fun r => (asBl r).rb fun t => if t then (eval φ c env).rb fun z => cmpF o2 y z else .ok (.bl false)
theorem y_chain {o o2 : COp} (h : Rf ((eval φ a env).rb fun x => (eval φ b env).rb fun y => chainK φ o o2 c env x y) t e) : Rf (eval φ (.chain o o2 a b c) env) t e := h
theorem y_ck {o o2 : COp} {p : Bool} {t : Res Bool} (h1 : cmpF o x y = .ok (eB p)) (hc : Rf ((eval φ c env).rb fun z => cmpF o2 y z) t eB) : Rf (chainK φ o o2 c env x y) (if p = true then t else .ok false) eB := by
  unfold chainK
  rw [h1]
  cases p with
  | true => exact hc
  | false => exact (by first | rfl | exact Rf.ok rfl | exact Rf.ex rfl)
theorem y_ckm {o o2 : COp} {s t : Res Bool} (h1 : Rf (cmpF o x y) s eB) (hc : Rf ((eval φ c env).rb fun z => cmpF o2 y z) t eB) : Rf (chainK φ o o2 c env x y) (s.rb fun p => if p = true then t else .ok false) eB := by
  unfold chainK
  refine b_m h1 fun p => ?_
  cases p with
  | true => exact hc
  | false => exact (by first | rfl | exact Rf.ok rfl | exact Rf.ex rfl)
theorem y_and_p {p : Bool} {t : Res Bool} (ha : eval φ a env = .ok (eB p)) (hb : Rf (eval φ b env) t eB) : Rf (eval φ (.and a b) env) (if p = true then t else .ok false) eB := by
  rw [ev_and, ha]
  cases p with
  | true => exact hb
  | false => exact (by first | rfl | exact Rf.ok rfl | exact Rf.ex rfl)
theorem y_and_m {s t : Res Bool} (ha : Rf (eval φ a env) s eB) (hb : Rf (eval φ b env) t eB) : Rf (eval φ (.and a b) env) (s.rb fun p => if p = true then t else .ok false) eB := by
  rw [ev_and]
  refine b_m ha fun p => ?_
  cases p with
  | true => exact hb
  | false => exact (by first | rfl | exact Rf.ok rfl | exact Rf.ex rfl)
theorem y_or_p {p : Bool} {t : Res Bool} (ha : eval φ a env = .ok (eB p)) (hb : Rf (eval φ b env) t eB) : Rf (eval φ (.or a b) env) (if p = true then .ok true else t) eB := by
  rw [ev_or, ha]
  cases p with
  | true => exact (by first | rfl | exact Rf.ok rfl | exact Rf.ex rfl)
  | false => exact hb
theorem y_or_m {s t : Res Bool} (ha : Rf (eval φ a env) s eB) (hb : Rf (eval φ b env) t eB) : Rf (eval φ (.or a b) env) (s.rb fun p => if p = true then .ok true else t) eB := by
  rw [ev_or]
  refine b_m ha fun p => ?_
  cases p with
  | true => exact (by first | rfl | exact Rf.ok rfl | exact Rf.ex rfl)
  | false => exact hb
theorem y_ife_p {p : Bool} {u : Res α} (hc : eval φ c env = .ok (eB p)) (ha : Rf (eval φ a env) t e) (hb : Rf (eval φ b env) u e) : Rf (eval φ (.ife c a b) env) (if p = true then t else u) e := by
  rw [ev_ife, hc]
  cases p with
  | true => exact ha
  | false => exact hb
theorem y_ife_m {s : Res Bool} {u : Res α} (hc : Rf (eval φ c env) s eB) (ha : Rf (eval φ a env) t e) (hb : Rf (eval φ b env) u e) : Rf (eval φ (.ife c a b) env) (s.rb fun p => if p = true then t else u) e := by
  rw [ev_ife]
  refine b_m hc fun p => ?_
  cases p with
  | true => exact ha
  | false => exact hb
theorem a_nil {k : List D → Res δ} {u : Res α} {f : α → δ} (h : Rf (k []) u f) : Rf ((evals φ .nil env).rb k) u f := h
theorem a_p {k : List D → Res δ} {u : Res α} {f : α → δ} (h : eval φ a env = .ok x) (hk : Rf ((evals φ es env).rb fun xs => k (x :: xs)) u f) : Rf ((evals φ (.cons a es) env).rb k) u f := by
  rw [evs_cons, h, rb_ok]
  cases q : evals φ es env with
  | ok ds => rw [q] at hk; exact hk
  | exn c => rw [q] at hk; exact hk
  | bad => rw [q] at hk; exact hk
theorem a_m {k : List D → Res δ} {u : β → Res α} {f : α → δ} {s : Res β} {g : β → D} (h : Rf (eval φ a env) s g) (hk : ∀ x, Rf ((evals φ es env).rb fun xs => k (g x :: xs)) (u x) f) : Rf ((evals φ (.cons a es) env).rb k) (s.rb u) f := by
  cases s with
  | ok v => exact a_p h.get (hk v)
  | exn c =>
    have h : eval φ a env = .exn c := h.getx
    rw [evs_cons, h]; exact (by first | rfl | exact Rf.ok rfl | exact Rf.ex rfl)
  | bad => (first | trivial | exact Rf.no | exact Cor.no)
theorem y_tup (h : Rf ((evals φ es env).rb fun xs => okT xs) t e) : Rf (eval φ (.tup es) env) t e := h
theorem y_lst (h : Rf ((evals φ es env).rb fun xs => okL xs) t e) : Rf (eval φ (.lst es) env) t e := h
theorem y_call {i : Nat} {fr : Bool} (h : Rf ((evals φ es env).rb fun xs => φ i xs) t e) : Rf (eval φ (.call i fr es) env) t e := h
theorem y_bi {o : Bi} (h : Rf ((evals φ es env).rb fun xs => biF o xs) t e) : Rf (eval φ (.bi o es) env) t e := h
theorem y_isI {ty : Ty} (h : Rf ((eval φ a env).rb fun x => (isF ty x).rb fun b => .ok (.bl b)) t e) : Rf (eval φ (.isI ty a) env) t e := h
theorem o_isD {ty : Ty} : Rf ((isF ty x).rb fun b => .ok (.bl b)) (isF ty x) eB := by
  cases isF ty x with
  | ok b => exact (by first | rfl | exact Rf.ok rfl | exact Rf.ex rfl)
  | exn c => exact (by first | rfl | exact Rf.ok rfl | exact Rf.ex rfl)
  | bad => (first | trivial | exact Rf.no | exact Cor.no)
theorem y_me {m : Me} (h : Rf ((eval φ a env).rb fun x => (recv m x).rb fun _ => (evals φ es env).rb fun xs => meF m x xs) t e) : Rf (eval φ (.me m a es) env) t e := h
theorem y_ix (h : Rf ((eval φ a env).rb fun x => (eval φ b env).rb fun y => ixF x y) t e) : Rf (eval φ (.ix a b) env) t e := h
theorem y_sl {lo hi : Eo} (h : Rf ((eval φ a env).rb fun x => (evalo φ lo env).rb fun l => (evalo φ hi env).rb fun h => slF x l h) t e) : Rf (eval φ (.sl a lo hi) env) t e := h
theorem yo_so {t : Res Int} (h : Rf (eval φ a env) t eI) : Rf (evalo φ (.so a) env) t some := by
  rw [evo_so]
  cases t with
  | ok i =>
    have h : eval φ a env = .ok (eI i) := h.get
    rw [h]; exact (by first | rfl | exact Rf.ok rfl | exact Rf.ex rfl)
  | exn c =>
    have h : eval φ a env = .exn c := h.getx
    rw [h]; exact (by first | rfl | exact Rf.ok rfl | exact Rf.ex rfl)
  | bad => (first | trivial | exact Rf.no | exact Cor.no)
theorem y_rev (h : Rf ((eval φ a env).rb fun x => revF x) t e) : Rf (eval φ (.rev a) env) t e := h
theorem y_ss (h : Rf ((eval φ a env).rb fun x => ssF x) t e) : Rf (eval φ (.sset a) env) t e := h
theorem y_ls (h : Rf ((eval φ a env).rb fun x => lsF x) t e) : Rf (eval φ (.lset a) env) t e := h
theorem o_rawB {r : Res D} : Rf r (r.rb asBl) eB := by
  cases r with
  | ok d => cases d <;> first | exact (by first | rfl | exact Rf.ok rfl | exact Rf.ex rfl) | (first | trivial | exact Rf.no | exact Cor.no)
  | exn c => exact (by first | rfl | exact Rf.ok rfl | exact Rf.ex rfl)
  | bad => (first | trivial | exact Rf.no | exact Cor.no)
theorem o_rawI {r : Res D} : Rf r (r.rb asInt) eI := by
  cases r with
  | ok d => cases d <;> first | exact (by first | rfl | exact Rf.ok rfl | exact Rf.ex rfl) | (first | trivial | exact Rf.no | exact Cor.no)
  | exn c => exact (by first | rfl | exact Rf.ok rfl | exact Rf.ex rfl)
  | bad => (first | trivial | exact Rf.no | exact Cor.no)
theorem o_rawD {r : Res D} : Rf r r eD := by
  cases r with
  | ok d => exact (by first | rfl | exact Rf.ok rfl | exact Rf.ex rfl)
  | exn c => exact (by first | rfl | exact Rf.ok rfl | exact Rf.ex rfl)
  | bad => (first | trivial | exact Rf.no | exact Cor.no)
/-- a result whose type is told by its encoder -/
theorem Rf.conv {r : Res δ} {t : Res α} {g : α → δ} {f : α → β} {g2 : β → δ} (h : Rf r t g) (hf : ∀ x, g x = g2 (f x)) : Rf r (t.rb fun x => .ok (f x)) g2 := by
  cases t with
  | ok x =>
    have h : r = .ok (g x) := h.get
    rw [h]; exact Rf.ok (congrArg Res.ok (hf x))
  | exn c => exact Rf.ex h.getx
  | bad => (first | trivial | exact Rf.no | exact Cor.no)
/-! ### what is walked -/
theorem i_exL {s : Res (List α)} (h : Rf (eval φ a env) s (eL e)) : Rf (evalI φ (.ex a) env) s fun xs => xs.map e := by
  rw [evI_ex]
  cases s with
  | ok v =>
    have h : eval φ a env = .ok (eL e v) := h.get
    rw [h]; exact (by first | rfl | exact Rf.ok rfl | exact Rf.ex rfl)
  | exn c =>
    have h : eval φ a env = .exn c := h.getx
    rw [h]; exact (by first | rfl | exact Rf.ok rfl | exact Rf.ex rfl)
  | bad => (first | trivial | exact Rf.no | exact Cor.no)
theorem i_exT {s : Res (List α)} (h : Rf (eval φ a env) s (eT e)) : Rf (evalI φ (.ex a) env) s fun xs => xs.map e := by
  rw [evI_ex]
  cases s with
  | ok v =>
    have h : eval φ a env = .ok (eT e v) := h.get
    rw [h]; exact (by first | rfl | exact Rf.ok rfl | exact Rf.ex rfl)
  | exn c =>
    have h : eval φ a env = .exn c := h.getx
    rw [h]; exact (by first | rfl | exact Rf.ok rfl | exact Rf.ex rfl)
  | bad => (first | trivial | exact Rf.no | exact Cor.no)
theorem i_exD {s : Res D} (h : Rf (eval φ a env) s eD) : Rf (evalI φ (.ex a) env) (s.rb walkF) fun xs => xs.map eD := by
  rw [evI_ex]
  refine b_m h fun d => ?_
  cases walkF d with
  | ok xs =>
    refine Rf.ok ?_
    show Res.ok xs = .ok (xs.map fun d => d)
    rw [List.map_id']
  | exn c => exact (by first | rfl | exact Rf.ok rfl | exact Rf.ex rfl)
  | bad => (first | trivial | exact Rf.no | exact Cor.no)
theorem i_r1 {s : Res Int} (h : Rf (eval φ a env) s eI) : Rf (evalI φ (.rng1 a) env) (s.rb fun n => rngT 0 n) fun xs => xs.map eI := by
  rw [evI_r1]
  exact b_m h fun n => o_rng 0 n
theorem i_r2 {s u : Res Int} (h : Rf (eval φ a env) s eI) (h2 : Rf (eval φ b env) u eI) : Rf (evalI φ (.rng2 a b) env) (s.rb fun m => u.rb fun n => rngT m n) fun xs => xs.map eI := by
  rw [evI_r2]
  exact b_m h fun m => b_m (k := fun y => (asInt y).rb fun j => rngF m j) h2 fun n => o_rng m n
theorem i_r3 {s u v : Res Int} (h : Rf (eval φ a env) s eI) (h2 : Rf (eval φ b env) u eI) (h3 : Rf (eval φ c env) v eI) : Rf (evalI φ (.rng3 a b c) env) (s.rb fun m => u.rb fun n => v.rb fun k => rng3T m n k) fun xs => xs.map eI :=
  b_m h fun m => b_m (k := fun y => (asInt y).rb fun j => (eval φ c env).rb fun z => (asInt z).rb fun k => rngF3 m j k) h2 fun n => b_m (k := fun z => (asInt z).rb fun k => rngF3 m n k) h3 fun k => o_rng3 m n k
theorem i_z2 {s : Res (List α)} {u : Res (List β)} {g : β → D} {ea : List α → D} {eb : List β → D} (hz : ∀ x y, zipF (ea x) (eb y) = .ok ((x.zip y).map (eP e g))) (h : Rf (eval φ a env) s ea) (h2 : Rf (eval φ b env) u eb) : Rf (evalI φ (.zip2 a b) env) (s.rb fun x => u.rb fun y => .ok (x.zip y)) fun xs => xs.map (eP e g) := by
  rw [evI_z2]
  exact b_m h fun x => b_m h2 fun y => Rf.ok (hz x y)
theorem i_z3 {s : Res (List α)} {u : Res (List β)} {v : Res (List γ)} {g : β → D} {g3 : γ → D} {ea : List α → D} {eb : List β → D} {ec : List γ → D} (ha : ∀ x, seqD (ea x) = .ok (x.map e)) (hb : ∀ x, seqD (eb x) = .ok (x.map g)) (hc : ∀ x, seqD (ec x) = .ok (x.map g3)) (h : Rf (eval φ a env) s ea) (h2 : Rf (eval φ b env) u eb) (h3 : Rf (eval φ c env) v ec) : Rf (evalI φ (.zip3 a b c) env) (s.rb fun x => u.rb fun y => v.rb fun z => .ok (x.zip (y.zip z))) fun xs => xs.map (eP3 e g g3) := by
  show Rf ((eval φ a env).rb fun x => (eval φ b env).rb fun y => (eval φ c env).rb fun z => (seqD x).rb fun xs => (seqD y).rb fun ys => (seqD z).rb fun zs => .ok (PL.zip3 xs ys zs)) _ _
  refine b_m h fun x => b_m h2 fun y => b_m h3 fun z => ?_
  rw [ha, hb, hc]
  exact Rf.ok (congrArg Res.ok (zip3_map x y z))
theorem i_en {s : Res (List α)} {ea : List α → D} (ha : ∀ x, seqD (ea x) = .ok (x.map e)) (h : Rf (eval φ a env) s ea) : Rf (evalI φ (.enum a) env) (s.rb fun x => .ok (enumT 0 x)) fun xs => xs.map (eP eI e) := by
  show Rf ((eval φ a env).rb fun x => (seqD x).rb fun xs => .ok (enumF 0 xs)) _ _
  refine b_m h fun x => ?_
  rw [ha]
  exact Rf.ok (congrArg Res.ok (enum_map 0 x))
theorem y_rgL {it : It} {s : Res (List α)} (h : Rf (evalI φ it env) s fun xs => xs.map e) : Rf (eval φ (.rg false it) env) (s.rb rgT) (eL e) := by
  show Rf ((evalI φ it env).rb fun xs => if xs.length ≤ 1000000 then .ok (if false = true then D.tup xs else D.lst xs) else .bad) _ _
  refine b_m h fun x => ?_
  unfold rgT
  rw [List.length_map]
  by_cases q : x.length ≤ 1000000
  · rw [if_pos q, if_pos q]; exact (by first | rfl | exact Rf.ok rfl | exact Rf.ex rfl)
  · rw [if_neg q, if_neg q]; (first | trivial | exact Rf.no | exact Cor.no)
theorem y_rgT {it : It} {s : Res (List α)} (h : Rf (evalI φ it env) s fun xs => xs.map e) : Rf (eval φ (.rg true it) env) (s.rb rgT) (eT e) := by
  show Rf ((evalI φ it env).rb fun xs => if xs.length ≤ 1000000 then .ok (if true = true then D.tup xs else D.lst xs) else .bad) _ _
  refine b_m h fun x => ?_
  unfold rgT
  rw [List.length_map]
  by_cases q : x.length ≤ 1000000
  · rw [if_pos q, if_pos q]; exact (by first | rfl | exact Rf.ok rfl | exact Rf.ex rfl)
  · rw [if_neg q, if_neg q]; (first | trivial | exact Rf.no | exact Cor.no)
/-! ### comprehensions -/
theorem Rf_lenT (xs : List α) : Rf (okL (xs.map e)) (lenT xs) (eL e) := by
  unfold lenT okL
  rw [List.length_map]
  by_cases h : xs.length ≤ sz
  · rw [if_pos h, if_pos h]; exact (by first | rfl | exact Rf.ok rfl | exact Rf.ex rfl)
  · rw [if_neg h, if_neg h]; (first | trivial | exact Rf.no | exact Cor.no)
theorem compF_cmpR {step : D → Res (Option D)} {ea : α → D} {eb : β → D} {f : α → Res (Option β)} (h : ∀ x, Rf (step (ea x)) (f x) (Option.map eb)) : ∀ xs : List α, ∀ ys, cmpR f xs = .ok ys → compF step (xs.map ea) = .ok (ys.map eb)
  | [], ys, q => by cases q; rfl
  | x :: xs, ys, q => by
    obtain ⟨o, h1, h2⟩ := rb_eq_ok (show ((f x).nox.rb fun o => (cmpR f xs).rb fun ys => match o with
      | some y => .ok (y :: ys)
      | none => .ok ys) = .ok ys from q)
    obtain ⟨zs, h3, h4⟩ := rb_eq_ok h2
    have h5 := (h x).fin (nox_eq h1)
    have h6 := compF_cmpR h xs zs h3
    show ((step (ea x)).rb fun o => (compF step (xs.map ea)).rb fun ys => _) = _
    rw [h5, h6]
    cases o with
    | none => cases h4; rfl
    | some y => cases h4; rfl
theorem cmpR_noexn {f : α → Res (Option β)} : ∀ (xs : List α) (c : PySem.Str), cmpR f xs ≠ .exn c
  | [], c, h => by cases h
  | x :: xs, c, h => by
    have h : ((f x).nox.rb fun o => (cmpR f xs).rb fun ys => match o with
      | some y => .ok (y :: ys)
      | none => .ok ys) = .exn c := h
    cases q : f x with
    | ok o =>
      rw [q] at h
      have h : ((cmpR f xs).rb fun ys => match o with
        | some y => .ok (y :: ys)
        | none => .ok ys) = .exn c := h
      cases q2 : cmpR f xs with
      | ok ys => rw [q2] at h; cases o <;> cases h
      | exn d => exact cmpR_noexn xs d q2
      | bad => rw [q2] at h; cases h
    | exn d => rw [q] at h; cases h
    | bad => rw [q] at h; cases h
theorem mapR_cmpR {f : α → Res β} : ∀ xs : List α, mapR f xs = cmpR (fun x => (f x).rb fun y => .ok (some y)) xs
  | [] => rfl
  | x :: xs => by
    show ((f x).nox.rb fun y => (mapR f xs).rb fun ys => .ok (y :: ys)) = ((((f x).rb fun y => .ok (some y)) : Res (Option β)).nox.rb fun o => (cmpR _ xs).rb fun ys => _)
    rw [mapR_cmpR xs]
    cases f x <;> rfl
section
variable {elt cd : Ex} {own : List Nat} {tg : Tg} {it : It} {ea : α → D} {eb : β → D} {s : Res (List α)} {E1 : α → Ev}
theorem c_mm {f : α → Res β} {p : α → Res Bool} (hi : Rf (evalI φ it env) s fun xs => xs.map ea) (hb : ∀ x, bindT tg (ea x) (wipeE own env) = .ok (E1 x)) (hc : ∀ x, Rf (eval φ cd (E1 x)) (p x) eB) (he : ∀ x, Rf (eval φ elt (E1 x)) (f x) eb) :
    Rf (eval φ (.comp elt own tg it (.so cd)) env) (s.rb fun xs => (cmpR (fun x => (p x).rb fun b => if b = true then (f x).rb fun y => .ok (some y) else .ok none) xs).rb lenT) (eL eb) := by
  show Rf ((evalI φ it env).rb fun ds => (compF (fun d => (bindT tg d (wipeE own env)).rb fun e1 => (evalc φ (.so cd) e1).rb fun t =>
      if t then oneD (eval φ elt e1) else .ok none) ds).nox.rb fun xs => okL xs) _ _
  refine b_m hi fun xs => ?_
  have key : ∀ x, Rf ((bindT tg (ea x) (wipeE own env)).rb fun e1 => (evalc φ (.so cd) e1).rb fun t => if t then oneD (eval φ elt e1) else .ok none) ((p x).rb fun b => if b = true then (f x).rb fun y => .ok (some y) else .ok none) (Option.map eb) := fun x => by
    refine b_p (hb x) ?_
    have hcx : Rf (evalc φ (.so cd) (E1 x)) (p x) id := by
      rw [evc_so]
      have := hc x
      cases q : p x with
      | ok v => rw [q] at this; have this : eval φ cd (E1 x) = .ok (eB v) := this.get; rw [this]; exact (by first | rfl | exact Rf.ok rfl | exact Rf.ex rfl)
      | exn c => rw [q] at this; have this : eval φ cd (E1 x) = .exn c := this.getx; rw [this]; exact (by first | rfl | exact Rf.ok rfl | exact Rf.ex rfl)
      | bad => (first | trivial | exact Rf.no | exact Cor.no)
    refine b_m hcx fun v => ?_
    cases v with
    | false => exact (by first | rfl | exact Rf.ok rfl | exact Rf.ex rfl)
    | true =>
      have := he x
      show Rf (oneD (eval φ elt (E1 x))) ((f x).rb fun y => .ok (some y)) _
      cases q : f x with
      | ok v => rw [q] at this; have this : eval φ elt (E1 x) = .ok (eb v) := this.get; rw [this]; exact (by first | rfl | exact Rf.ok rfl | exact Rf.ex rfl)
      | exn c => rw [q] at this; have this : eval φ elt (E1 x) = .exn c := this.getx; rw [this]; exact (by first | rfl | exact Rf.ok rfl | exact Rf.ex rfl)
      | bad => (first | trivial | exact Rf.no | exact Cor.no)
  cases q : cmpR (fun x => (p x).rb fun b => if b = true then (f x).rb fun y => .ok (some y) else .ok none) xs with
  | ok ys =>
    rw [compF_cmpR key xs ys q]
    exact Rf_lenT ys
  | exn c => exact absurd q (cmpR_noexn xs c)
  | bad => (first | trivial | exact Rf.no | exact Cor.no)
theorem c_no {p : Bool} : Rf (eval φ (.con (.bl p)) env) (.ok p) eB := Rf.ok rfl
theorem comp_no : eval φ (.comp elt own tg it .no) env = eval φ (.comp elt own tg it (.so (.con (.bl true)))) env := rfl
theorem cmpR_filter {f : α → β} {p : α → Bool} : ∀ xs : List α, cmpR (fun x => if p x = true then .ok (some (f x)) else .ok none) xs = .ok ((xs.filter p).map f)
  | [] => rfl
  | x :: xs => by
    show ((if p x = true then Res.ok (some (f x)) else .ok none).nox.rb fun o => (cmpR _ xs).rb fun ys => _) = _
    rw [cmpR_filter xs]
    cases q : p x <;> simp [q]
theorem cmpR_mapR {f : α → Res β} {p : α → Bool} : ∀ xs : List α, cmpR (fun x => if p x = true then (f x).rb fun y => .ok (some y) else .ok none) xs = mapR f (xs.filter p)
  | [] => rfl
  | x :: xs => by
    show ((if p x = true then (f x).rb fun y => Res.ok (some y) else .ok none).nox.rb fun o => (cmpR _ xs).rb fun ys => _) = _
    rw [cmpR_mapR xs]
    cases q : p x with
    | false => rw [List.filter_cons_of_neg (by rw [q]; exact Bool.false_ne_true)]; cases mapR f (xs.filter p) <;> rfl
    | true =>
      rw [List.filter_cons_of_pos q]
      show _ = ((f x).nox.rb fun y => (mapR f (xs.filter p)).rb fun ys => .ok (y :: ys))
      cases f x <;> rfl
theorem c_mf {f : α → Res β} {p : α → Bool} (hi : Rf (evalI φ it env) s fun xs => xs.map ea) (hb : ∀ x, bindT tg (ea x) (wipeE own env) = .ok (E1 x)) (hc : ∀ x, eval φ cd (E1 x) = .ok (eB (p x))) (he : ∀ x, Rf (eval φ elt (E1 x)) (f x) eb) :
    Rf (eval φ (.comp elt own tg it (.so cd)) env) (s.rb fun xs => (mapR f (xs.filter p)).rb lenT) (eL eb) := by
  have k := c_mm (p := fun x => .ok (p x)) hi hb (fun x => Rf.ok (hc x)) he
  simp only [rb_ok, cmpR_mapR] at k
  exact k
theorem c_m {f : α → Res β} (hi : Rf (evalI φ it env) s fun xs => xs.map ea) (hb : ∀ x, bindT tg (ea x) (wipeE own env) = .ok (E1 x)) (he : ∀ x, Rf (eval φ elt (E1 x)) (f x) eb) :
    Rf (eval φ (.comp elt own tg it .no) env) (s.rb fun xs => (mapR f xs).rb lenT) (eL eb) := by
  have k := c_mf (cd := .con (.bl true)) (p := fun _ => true) hi hb (fun x => rfl) he
  rw [comp_no]
  have e1 : ∀ xs : List α, xs.filter (fun _ => true) = xs := fun xs => List.filter_eq_self.mpr fun _ _ => rfl
  simp only [e1] at k
  exact k
theorem c_pf {f : α → β} {p : α → Bool} (hi : Rf (evalI φ it env) s fun xs => xs.map ea) (hb : ∀ x, bindT tg (ea x) (wipeE own env) = .ok (E1 x)) (hc : ∀ x, eval φ cd (E1 x) = .ok (eB (p x))) (he : ∀ x, eval φ elt (E1 x) = .ok (eb (f x))) :
    Rf (eval φ (.comp elt own tg it (.so cd)) env) (s.rb fun xs => lenT ((xs.filter p).map f)) (eL eb) := by
  have k := c_mm (p := fun x => .ok (p x)) (f := fun x => .ok (f x)) hi hb (fun x => Rf.ok (hc x)) (fun x => Rf.ok (he x))
  simp only [rb_ok, cmpR_filter] at k
  exact k
theorem c_p {f : α → β} (hi : Rf (evalI φ it env) s fun xs => xs.map ea) (hb : ∀ x, bindT tg (ea x) (wipeE own env) = .ok (E1 x)) (he : ∀ x, eval φ elt (E1 x) = .ok (eb (f x))) :
    Rf (eval φ (.comp elt own tg it .no) env) (s.rb fun xs => lenT (xs.map f)) (eL eb) := by
  have k := c_pf (cd := .con (.bl true)) (p := fun _ => true) hi hb (fun x => rfl) he
  rw [comp_no]
  have e1 : ∀ xs : List α, xs.filter (fun _ => true) = xs := fun xs => List.filter_eq_self.mpr fun _ _ => rfl
  simp only [e1] at k
  exact k
end
end
/-! ### statements -/
def Cor (W : τ → Out → Prop) (t : Res τ) (o : Out) : Prop := (∀ a, t = .ok a → W a o) ∧ ∀ c, t = .exn c → ∃ e, o = .ex c e
theorem Cor.no {W : τ → Out → Prop} {o : Out} : Cor W .bad o := ⟨(fun b hb => nomatch hb), (fun d hd => nomatch hd)⟩
theorem Cor.k {W : τ → Out → Prop} {a : τ} {o : Out} (h : W a o) : Cor W (.ok a) o := ⟨fun b hb => by cases hb; exact h, fun c hc => nomatch hc⟩
theorem Cor.x {W : τ → Out → Prop} {c : PySem.Str} {o : Out} (h : ∃ e, o = .ex c e) : Cor W (.exn c) o := ⟨(fun b hb => nomatch hb), fun d hd => by cases hd; exact h⟩
theorem Cor.get {W : τ → Out → Prop} {a : τ} {o : Out} (h : Cor W (.ok a) o) : W a o := h.1 a rfl
theorem Cor.getx {W : τ → Out → Prop} {c : PySem.Str} {o : Out} (h : Cor W (.exn c) o) : ∃ e, o = .ex c e := h.2 c rfl
section
variable {φ : Phi} {env E1 : SE} {W : τ → Out → Prop} {u : Res τ} {r : Sts} {k : SE → Out} {fl : Bool} {i : Nat} {e : Ex} {t : Res α} {enc : α → D}
theorem es_f (h : Rf (eval φ e (env.map Sl.fg)) t enc) : Rf (evalS φ false e env) t enc := h
theorem es_t (h : Rf (eval φ e (env.map Sl.vw)) t enc) (hf : ∀ x, flat (enc x) = true) : Rf (evalS φ true e env) t enc := by
  rw [evS_t]
  cases t with
  | ok x =>
    have h : eval φ e (env.map Sl.vw) = .ok (enc x) := h.get
    rw [h, rb_ok, hf x]; exact (by first | rfl | exact Rf.ok rfl | exact Rf.ex rfl)
  | exn c =>
    have h : eval φ e (env.map Sl.vw) = .exn c := h.getx
    rw [h]; exact (by first | rfl | exact Rf.ok rfl | exact Rf.ex rfl)
  | bad => (first | trivial | exact Rf.no | exact Cor.no)
theorem cor_ou {δ : Type} {rr : Res δ} {ec : α → δ} {k1 : δ → Out} {u : α → Res τ} {k2 k : SE → Out} (h : Rf rr t ec) (hk : ∀ x, Cor W (u x) (((k1 (ec x)).th k2).th k)) : Cor W (t.rb u) (((rr.ou env k1).th k2).th k) := by
  cases t with
  | ok x =>
    have h : rr = .ok (ec x) := h.get
    rw [h]; exact hk x
  | exn c =>
    have h : rr = .exn c := h.getx
    rw [h]; exact Cor.x ⟨env, rfl⟩
  | bad => (first | trivial | exact Rf.no | exact Cor.no)
theorem s_asg {u : α → Res τ} (he : Rf (evalS φ fl e env) t enc) (hk : ∀ x, Cor W (u x) ((execs φ r (env.set i (.sh (enc x)))).th k)) : Cor W (t.rb u) ((execs φ (.cons (.asg fl false (.nm i) e) r) env).th k) :=
  cor_ou he hk
theorem s_own {u : List β → Res τ} {t : Res (List β)} {enc : β → D} (hf : fresh e = true) (he : Rf (evalS φ fl e env) t (eL enc)) (hk : ∀ xs, Cor W (u xs) ((execs φ r (env.set i (.own (xs.map enc)))).th k)) : Cor W (t.rb u) ((execs φ (.cons (.asg fl true (.nm i) e) r) env).th k) := by
  refine cor_ou (env := env) (rr := evalS φ fl e env) (k1 := fun d => if fresh e = true then (mkS true d).ou env fun s => .nx (env.set i s) else .bad) he fun xs => ?_
  rw [if_pos hf]; exact hk xs
theorem s_tp {u : α → Res τ} {ts : Tgs} {E1 : α → SE} (he : Rf (evalS φ fl e env) t enc) (hb : ∀ x, bindS (.tp ts) (enc x) env = .ok (E1 x)) (hk : ∀ x, Cor W (u x) ((execs φ r (E1 x)).th k)) : Cor W (t.rb u) ((execs φ (.cons (.asg fl false (.tp ts) e) r) env).th k) := by
  refine cor_ou (env := env) (rr := evalS φ fl e env) (k1 := fun d => (bindS (.tp ts) d env).ou env .nx) he fun xs => ?_
  rw [hb]; exact hk xs
theorem s_par {u : α → Res τ} {ts : List (Nat × Bool)} {es : Exs} {E1 : α → SE} {ds : α → List D} (hf : freshP ts es = true) (he : Rf (evals φ es (env.map Sl.fg)) t ds) (hs : ∀ x, storeP ts (ds x) env = .ok (E1 x)) (hk : ∀ x, Cor W (u x) ((execs φ r (E1 x)).th k)) : Cor W (t.rb u) ((execs φ (.cons (.par ts es) r) env).th k) := by
  rw [exs_cons, ex_par, if_pos hf]
  refine cor_ou (env := env) he fun xs => ?_
  rw [hs]; exact hk xs
theorem s_ex {u : Res τ} (he : Rf (eval φ e (env.map Sl.vw)) t enc) (hk : Cor W u ((execs φ r env).th k)) : Cor W (t.rb fun _ => u) ((execs φ (.cons (.ex e) r) env).th k) :=
  cor_ou (k1 := fun _ => .nx env) he fun _ => hk
theorem s_app {u : List α → Res τ} {xs : List α} (ho : ownAt env i = some (xs.map enc)) (he : Rf (evalS φ fl e env) t enc) (hk : ∀ ys : List α, Cor W (u ys) ((execs φ r (env.set i (.own (ys.map enc)))).th k)) : Cor W (t.rb fun x => (pushT xs x).rb u) ((execs φ (.cons (.app fl i e) r) env).th k) := by
  rw [exs_cons, ex_app, ho]
  refine cor_ou (env := env) (rr := evalS φ fl e env) (k1 := fun d => if (xs.map enc).length < sz then .nx (env.set i (.own (xs.map enc ++ [d]))) else .bad) he fun x => ?_
  unfold pushT
  rw [List.length_map]
  by_cases h : xs.length < sz
  · rw [if_pos h, if_pos h]
    have := hk (xs ++ [x])
    rw [List.map_append] at this
    exact this
  · rw [if_neg h]; (first | trivial | exact Rf.no | exact Cor.no)
theorem s_ext {u : List β → Res τ} {xs : List β} {t : Res (List β)} {enc : β → D} (ho : ownAt env i = some (xs.map enc)) (he : Rf (evalS φ fl e env) t (eL enc)) (hk : ∀ ys : List β, Cor W (u ys) ((execs φ r (env.set i (.own (ys.map enc)))).th k)) : Cor W (t.rb fun x => (extT xs x).rb u) ((execs φ (.cons (.ext fl i e) r) env).th k) := by
  show Cor W _ ((((ofO (ownAt env i)).ou env fun xs => (evalS φ fl e env).ou env fun d => match d with
    | .lst ys => if xs.length + ys.length ≤ sz then .nx (env.set i (.own (xs ++ ys))) else .bad
    | _ => .bad).th _).th k)
  rw [ho]
  refine cor_ou (env := env) (rr := evalS φ fl e env) (k1 := fun d => match d with
    | .lst ys => if (xs.map enc).length + ys.length ≤ sz then .nx (env.set i (.own (xs.map enc ++ ys))) else .bad
    | _ => .bad) he fun x => ?_
  show Cor W ((extT xs x).rb u) (((if (xs.map enc).length + (x.map enc).length ≤ sz then Out.nx (env.set i (.own (xs.map enc ++ x.map enc))) else .bad).th _).th k)
  unfold extT
  rw [List.length_map, List.length_map]
  by_cases h : xs.length + x.length ≤ sz
  · rw [if_pos h, if_pos h]
    have := hk (xs ++ x)
    rw [List.map_append] at this
    exact this
  · rw [if_neg h]; (first | trivial | exact Rf.no | exact Cor.no)
theorem s_set {u : List α → Res τ} {xs : List α} {q : Ex} {n : Res Int} (ho : ownAt env i = some (xs.map enc)) (he : Rf (evalS φ true e env) t enc) (hq : Rf (eval φ q (env.map Sl.vw)) n eI) (hk : ∀ ys : List α, Cor W (u ys) ((execs φ r (env.set i (.own (ys.map enc)))).th k)) : Cor W (t.rb fun x => n.rb fun j => (setT xs j x).rb u) ((execs φ (.cons (.set i q e) r) env).th k) := by
  show Cor W _ ((((ofO (ownAt env i)).ou env fun xs => (evalS φ true e env).ou env fun d => (eval φ q (env.map Sl.vw)).ou env fun x => (asInt x).ou env fun n =>
      match L2.ixN xs.length n with
      | some j => .nx (env.set i (.own (xs.set j d)))
      | none => .bad).th _).th k)
  rw [ho]
  refine cor_ou (env := env) (rr := evalS φ true e env) (k1 := fun d => (eval φ q (env.map Sl.vw)).ou env fun x => (asInt x).ou env fun n =>
      match L2.ixN (xs.map enc).length n with
      | some j => .nx (env.set i (.own ((xs.map enc).set j d)))
      | none => .bad) he fun x => ?_
  refine cor_ou (env := env) (rr := eval φ q (env.map Sl.vw)) (k1 := fun y => (asInt y).ou env fun n =>
      match L2.ixN (xs.map enc).length n with
      | some j => .nx (env.set i (.own ((xs.map enc).set j (enc x))))
      | none => .bad) hq fun j => ?_
  show Cor W ((setT xs j x).rb u) (((match L2.ixN (xs.map enc).length j with
      | some j => Out.nx (env.set i (.own ((xs.map enc).set j (enc x))))
      | none => .bad).th _).th k)
  unfold setT
  rw [List.length_map]
  cases L2.ixN xs.length j with
  | none => (first | trivial | exact Rf.no | exact Cor.no)
  | some m =>
    have := hk (xs.set m x)
    rw [List.map_set] at this
    exact this
theorem th_th (o : Out) (f g : SE → Out) : (o.th f).th g = o.th fun e => (f e).th g := by cases o <;> rfl
theorem th_id (o : Out) : o.th .nx = o := by cases o <;> rfl
theorem s_ite {c : Ex} {a b : Sts} {s : Res Bool} {u1 u2 : Res τ} (hc : Rf (eval φ c (env.map Sl.vw)) s eB) (h1 : Cor W u1 ((execs φ a env).th fun e => (execs φ r e).th k)) (h2 : Cor W u2 ((execs φ b env).th fun e => (execs φ r e).th k)) : Cor W (s.rb fun p => if p = true then u1 else u2) ((execs φ (.cons (.ite c a b) r) env).th k) := by
  refine cor_ou (env := env) (rr := eval φ c (env.map Sl.vw)) (k1 := fun d => (asBl d).ou env fun t => if t then execs φ a env else execs φ b env) hc fun p => ?_
  show Cor W _ (((if p = true then execs φ a env else execs φ b env).th _).th k)
  rw [th_th]
  cases p with
  | true => exact h1
  | false => exact h2
theorem s_ite_p {c : Ex} {a b : Sts} {p : Bool} {u1 u2 : Res τ} (hc : eval φ c (env.map Sl.vw) = .ok (eB p)) (h1 : Cor W u1 ((execs φ a env).th fun e => (execs φ r e).th k)) (h2 : Cor W u2 ((execs φ b env).th fun e => (execs φ r e).th k)) : Cor W (if p = true then u1 else u2) ((execs φ (.cons (.ite c a b) r) env).th k) :=
  s_ite (s := .ok p) (Rf.ok hc) h1 h2
theorem s_ret {v : α → τ} (he : Rf (eval φ e (env.map Sl.vw)) t enc) (hW : ∀ x, W (v x) (.ret (enc x) (fresh e || isOwn env e))) : Cor W (t.rb fun x => .ok (v x)) ((execs φ (.cons (.ret e) r) env).th k) :=
  cor_ou (env := env) (k1 := fun d => .ret d (fresh e || isOwn env e)) he fun x => Cor.k (hW x)
theorem s_retN {v : τ} (hW : W v (.ret .non false)) : Cor W (.ok v) ((execs φ (.cons .retN r) env).th k) := Cor.k hW
theorem s_pass (hk : Cor W u ((execs φ r env).th k)) : Cor W u ((execs φ (.cons .pass r) env).th k) := hk
theorem s_share {l : List Nat} (hE : shareL l env = E1) (hk : Cor W u ((execs φ r E1).th k)) : Cor W u ((execs φ (.cons (.share l) r) env).th k) := by
  subst hE; exact hk
theorem s_brk {v : τ} (hW : W v (.bk env)) : Cor W (.ok v) ((execs φ (.cons .brk r) env).th k) := Cor.k hW
theorem s_cnt {v : τ} (hW : W v (.ct env)) : Cor W (.ok v) ((execs φ (.cons .cnt r) env).th k) := Cor.k hW
theorem s_raise {c : PySem.Str} : Cor W (.exn c) ((execs φ (.cons (.raise c) r) env).th k) := Cor.x ⟨env, rfl⟩
theorem s_nil {v : τ} {k : SE → Out} (hW : Cor W (.ok v) (k env)) : Cor W (.ok v) ((execs φ .nil env).th k) := hW
theorem s_end (h : Cor W u (k env)) : Cor W u ((execs φ .nil env).th k) := h
end
/-- how a def ends -/
def Wt (er : ρ → D) (fr : Bool) : ρ → Out → Prop := fun r o => (∃ b, o = .ret (er r) b ∧ (fr && !b) = false) ∨ (∃ e, o = .nx e ∧ er r = .non ∧ fr = false)
/-- how a turn ends -/
def Wl (E : σ → SE) (kill : List Nat) (er : ρ → D) (fr : Bool) : Stp σ ρ → Out → Prop
  | .nx s, o => ∃ e, (o = .nx e ∨ o = .ct e) ∧ kl kill e = E s
  | .bk s, o => ∃ e, o = .bk e ∧ kl kill e = E s
  | .ret r, o => ∃ b, o = .ret (er r) b ∧ (fr && !b) = false
section
variable {er : ρ → D} {fr : Bool} {E : σ → SE} {kill : List Nat}
theorem w_ret {r : ρ} {d : D} {b : Bool} (hd : d = er r) (h : (fr && !b) = false) : Wt er fr r (.ret d b) := .inl ⟨b, by rw [hd], h⟩
theorem w_fall {r : ρ} {e : SE} (h : er r = .non) (hf : fr = false) : Cor (Wt er fr) (.ok r) (.nx e) := Cor.k (.inr ⟨e, rfl, h, hf⟩)
theorem l_ret {r : ρ} {d : D} {b : Bool} (hd : d = er r) (h : (fr && !b) = false) : Wl E kill er fr (.ret r) (.ret d b) := ⟨b, by rw [hd], h⟩
theorem l_nx {s : σ} {e : SE} (h : kl kill e = E s) : Cor (Wl E kill er fr) (.ok (.nx s)) (.nx e) := Cor.k ⟨e, .inl rfl, h⟩
theorem l_ct {s : σ} {e : SE} (h : kl kill e = E s) : Wl E kill er fr (.nx s) (.ct e) := ⟨e, .inr rfl, h⟩
theorem l_bk {s : σ} {e : SE} (h : kl kill e = E s) : Wl E kill er fr (.bk s) (.bk e) := ⟨e, rfl, h⟩
variable {φ : Phi} {env : SE} {W : τ → Out → Prop} {rr : Sts} {k : SE → Out} {tg : Tg} {it : It} {body : Sts} {ea : α → D} {g : σ → Res τ} {h : ρ → Res τ}
theorem for_run {step : D → SE → Out} {f : σ → α → Res (Stp σ ρ)} {R : SE → Out} (hc : ∀ s x, Cor (Wl E kill er fr) (f s x) (step (ea x) (E s)))
    (hk : ∀ s, Cor W (g s) (R (E s))) (hr : ∀ x b, (fr && !b) = false → Cor W (h x) (.ret (er x) b)) :
    ∀ (xs : List α) (s : σ), Cor W ((forT f xs s).rb fun o => after o g h) ((loopF step kill (xs.map ea) (E s)).th R)
  | [], s => hk s
  | x :: xs, s => by
    have c := hc s x
    show Cor W (((f s x).rb fun o => match o with
      | .nx s' => forT f xs s'
      | .bk s' => .ok (.nx s')
      | .ret r => .ok (.ret r)).rb fun o => after o g h) ((match step (ea x) (E s) with
      | .nx e => loopF step kill (xs.map ea) (kl kill e)
      | .ct e => loopF step kill (xs.map ea) (kl kill e)
      | .bk e => .nx (kl kill e)
      | o => o).th R)
    cases q : f s x with
    | ok o =>
      rw [q] at c
      cases o with
      | nx s' =>
        obtain ⟨e, he | he, h2⟩ := c.get
        · rw [he]
          show Cor W ((forT f xs s').rb fun o => after o g h) ((loopF step kill (xs.map ea) (kl kill e)).th R)
          rw [h2]; exact for_run hc hk hr xs s'
        · rw [he]
          show Cor W ((forT f xs s').rb fun o => after o g h) ((loopF step kill (xs.map ea) (kl kill e)).th R)
          rw [h2]; exact for_run hc hk hr xs s'
      | bk s' =>
        obtain ⟨e, he, h2⟩ := c.get
        rw [he]
        show Cor W (g s') (R (kl kill e))
        rw [h2]; exact hk s'
      | ret x =>
        obtain ⟨b, he, h2⟩ := c.get
        rw [he]
        exact hr x b h2
    | exn c' =>
      rw [q] at c
      obtain ⟨e, he⟩ := c.getx
      rw [he]
      exact Cor.x ⟨e, rfl⟩
    | bad => (first | trivial | exact Rf.no | exact Cor.no)
theorem s_for {t : Res (List α)} {f : σ → α → Res (Stp σ ρ)} {s0 : σ} {E1 : σ → α → SE} (hi : Rf (evalI φ it (env.map Sl.fg)) t fun xs => xs.map ea) (h0 : kl kill env = E s0)
    (hb : ∀ s x, bindS tg (ea x) (E s) = .ok (E1 s x)) (hc : ∀ s x, Cor (Wl E kill er fr) (f s x) ((execs φ body (E1 s x)).th .nx))
    (hk : ∀ s, Cor W (g s) ((execs φ rr (E s)).th k)) (hr : ∀ x b, (fr && !b) = false → Cor W (h x) (.ret (er x) b)) :
    Cor W (t.rb fun xs => (forT f xs s0).rb fun o => after o g h) ((execs φ (.cons (.for_ tg it body kill) rr) env).th k) := by
  refine cor_ou (env := env) (rr := evalI φ it (env.map Sl.fg)) (k1 := fun ds => loopF (fun d e => (bindS tg d e).ou e fun e1 => execs φ body e1) kill ds (kl kill env)) hi fun xs => ?_
  rw [h0, th_th]
  refine for_run (fun s x => ?_) hk hr xs s0
  have := hc s x
  rw [th_id] at this
  show Cor _ _ ((bindS tg (ea x) (E s)).ou (E s) _)
  rw [hb]; exact this
theorem s_forR {t : Res (List α)} {f : σ → α → Res (Stp σ ρ)} {s0 : σ} {E1 : σ → α → SE} (hr0 : isRng it = true) (hi : Rf (evalI φ it (env.map Sl.vw)) t fun xs => xs.map ea) (h0 : kl kill env = E s0)
    (hb : ∀ s x, bindS tg (ea x) (E s) = .ok (E1 s x)) (hc : ∀ s x, Cor (Wl E kill er fr) (f s x) ((execs φ body (E1 s x)).th .nx))
    (hk : ∀ s, Cor W (g s) ((execs φ rr (E s)).th k)) (hr : ∀ x b, (fr && !b) = false → Cor W (h x) (.ret (er x) b)) :
    Cor W (t.rb fun xs => (forT f xs s0).rb fun o => after o g h) ((execs φ (.cons (.forR tg it body kill) rr) env).th k) := by
  show Cor W _ (((if isRng it = true then (evalI φ it (env.map Sl.vw)).ou env fun ds => loopF (fun d e => (bindS tg d e).ou e fun e1 => execs φ body e1) kill ds (kl kill env) else .bad).th _).th k)
  rw [if_pos hr0]
  refine cor_ou (env := env) (rr := evalI φ it (env.map Sl.vw)) (k1 := fun ds => loopF (fun d e => (bindS tg d e).ou e fun e1 => execs φ body e1) kill ds (kl kill env)) hi fun xs => ?_
  rw [h0, th_th]
  refine for_run (fun s x => ?_) hk hr xs s0
  have := hc s x
  rw [th_id] at this
  show Cor _ _ ((bindS tg (ea x) (E s)).ou (E s) _)
  rw [hb]; exact this
theorem whl_run {test : SE → Res Bool} {step : SE → Out} {tt : σ → Res Bool} {f : σ → Res (Stp σ ρ)} {R : SE → Out} (ht : ∀ s, Rf (test (E s)) (tt s) id) (hc : ∀ s, Cor (Wl E kill er fr) (f s) (step (E s)))
    (hk : ∀ s, Cor W (g s) (R (E s))) (hr : ∀ x b, (fr && !b) = false → Cor W (h x) (.ret (er x) b)) :
    ∀ (n : Nat) (s : σ), Cor W ((whlT tt f n s).rb fun o => after o g h) ((whileF test step kill n (E s)).th R)
  | 0, s => Cor.no
  | n + 1, s => by
    have c := hc s
    have d := ht s
    show Cor W (((tt s).rb fun b => if b then ((f s).rb fun o => match o with
      | .nx s' => whlT tt f n s'
      | .bk s' => .ok (.nx s')
      | .ret r => .ok (.ret r)) else .ok (.nx s)).rb fun o => after o g h) (((test (E s)).ou (E s) fun t => if t then (match step (E s) with
      | .nx e => whileF test step kill n (kl kill e)
      | .ct e => whileF test step kill n (kl kill e)
      | .bk e => .nx (kl kill e)
      | o => o) else .nx (E s)).th R)
    cases q0 : tt s with
    | exn c' =>
      rw [q0] at d
      have d : test (E s) = .exn c' := d.getx
      rw [d]; exact Cor.x ⟨_, rfl⟩
    | bad => (first | trivial | exact Rf.no | exact Cor.no)
    | ok b =>
      rw [q0] at d
      have d : test (E s) = .ok b := d.get
      rw [d]
      cases b with
      | false => exact hk s
      | true =>
        show Cor W (((f s).rb fun o => match o with
          | .nx s' => whlT tt f n s'
          | .bk s' => .ok (.nx s')
          | .ret r => .ok (.ret r)).rb fun o => after o g h) ((match step (E s) with
          | .nx e => whileF test step kill n (kl kill e)
          | .ct e => whileF test step kill n (kl kill e)
          | .bk e => .nx (kl kill e)
          | o => o).th R)
        cases q : f s with
        | ok o =>
          rw [q] at c
          cases o with
          | nx s' =>
            obtain ⟨e, he | he, h2⟩ := c.get
            · rw [he]
              show Cor W ((whlT tt f n s').rb fun o => after o g h) ((whileF test step kill n (kl kill e)).th R)
              rw [h2]; exact whl_run ht hc hk hr n s'
            · rw [he]
              show Cor W ((whlT tt f n s').rb fun o => after o g h) ((whileF test step kill n (kl kill e)).th R)
              rw [h2]; exact whl_run ht hc hk hr n s'
          | bk s' =>
            obtain ⟨e, he, h2⟩ := c.get
            rw [he]
            show Cor W (g s') (R (kl kill e))
            rw [h2]; exact hk s'
          | ret x =>
            obtain ⟨b, he, h2⟩ := c.get
            rw [he]
            exact hr x b h2
        | exn c' =>
          rw [q] at c
          obtain ⟨e, he⟩ := c.getx
          rw [he]
          exact Cor.x ⟨e, rfl⟩
        | bad => (first | trivial | exact Rf.no | exact Cor.no)
theorem s_whl {c : Ex} {n : Nat} {tt : σ → Res Bool} {f : σ → Res (Stp σ ρ)} {s0 : σ} (h0 : kl kill env = E s0)
    (ht : ∀ s, Rf (eval φ c ((E s).map Sl.vw)) (tt s) eB) (hc : ∀ s, Cor (Wl E kill er fr) (f s) ((execs φ body (E s)).th .nx))
    (hk : ∀ s, Cor W (g s) ((execs φ rr (E s)).th k)) (hr : ∀ x b, (fr && !b) = false → Cor W (h x) (.ret (er x) b)) :
    Cor W ((whlT tt f n s0).rb fun o => after o g h) ((execs φ (.cons (.whl n c body kill) rr) env).th k) := by
  show Cor W _ (((whileF (fun e => (eval φ c (e.map Sl.vw)).rb asBl) (fun e => execs φ body e) kill n (kl kill env)).th _).th k)
  rw [h0, th_th]
  refine whl_run (fun s => ?_) (fun s => ?_) hk hr n s0
  · have := ht s
    cases q : tt s with
    | ok v => rw [q] at this; have this : eval φ c ((E s).map Sl.vw) = .ok (eB v) := this.get; rw [this]; exact (by first | rfl | exact Rf.ok rfl | exact Rf.ex rfl)
    | exn c' => rw [q] at this; have this : eval φ c ((E s).map Sl.vw) = .exn c' := this.getx; rw [this]; exact (by first | rfl | exact Rf.ok rfl | exact Rf.ex rfl)
    | bad => (first | trivial | exact Rf.no | exact Cor.no)
  · have := hc s
    rw [th_id] at this
    exact this
/-- a def -/
theorem fn_of {T : List FnD} {i m : Nat} {f : FnD} {as : List D} {t : Res ρ} (hf : T[i]? = some f) (hn : as.length = f.np) (h : Cor (Wt er f.fr) t ((execs (run T m) f.body (as.map .sh ++ List.replicate (f.names.length - as.length) .no)).th .nx)) : Rf (run T (m + 1) i as) t er := by
  rw [run_at hf (Nat.succ_pos m), show m.succ - 1 = m from rfl, runFn_of hn]
  rw [th_id] at h
  cases t with
  | ok r =>
    rcases h.get with ⟨b, h1, h2⟩ | ⟨e, h1, h2, h3⟩
    · rw [h1]
      refine Rf.ok ?_
      show (if (f.fr && !b) = true then Res.bad else .ok (er r)) = .ok (er r)
      rw [h2]; rfl
    · rw [h1]
      refine Rf.ok ?_
      show (if f.fr = true then Res.bad else .ok .non) = .ok (er r)
      rw [h3, h2]; rfl
  | exn c =>
    obtain ⟨e, h1⟩ := h.getx
    rw [h1]; exact (by first | rfl | exact Rf.ok rfl | exact Rf.ex rfl)
  | bad => (first | trivial | exact Rf.no | exact Cor.no)
end
/-! ### short ways for what is pure or static -/
section
variable {φ : Phi} {env : Ev} {a b c : Ex} {x : D} {r2 : Res D} {e : α → D} {t : Res α}
theorem and_t (ha : eval φ a env = .ok (eB true)) (hb : eval φ b env = r2) : eval φ (.and a b) env = r2 := by
  rw [ev_and, ha]; exact hb
theorem and_f (ha : eval φ a env = .ok (eB false)) : eval φ (.and a b) env = .ok (eB false) := by
  rw [ev_and, ha]; rfl
theorem or_t (ha : eval φ a env = .ok (eB true)) : eval φ (.or a b) env = .ok (eB true) := by
  rw [ev_or, ha]; rfl
theorem or_f (ha : eval φ a env = .ok (eB false)) (hb : eval φ b env = r2) : eval φ (.or a b) env = r2 := by
  rw [ev_or, ha]; exact hb
theorem ife_t (hc : eval φ c env = .ok (eB true)) (ha : eval φ a env = r2) : eval φ (.ife c a b) env = r2 := by
  rw [ev_ife, hc]; exact ha
theorem ife_f (hc : eval φ c env = .ok (eB false)) (hb : eval φ b env = r2) : eval φ (.ife c a b) env = r2 := by
  rw [ev_ife, hc]; exact hb
theorem Rf.eq {δ : Type} {r r2 : Res δ} {f : α → δ} (h : r = r2) (hb : Rf r2 t f) : Rf r t f := by rw [h]; exact hb
end
section
variable {φ : Phi} {env : SE} {W : τ → Out → Prop} {u : Res τ} {r : Sts} {k : SE → Out} {fl : Bool} {i : Nat} {e : Ex} {d : D} {c : Ex} {a b : Sts}
theorem es_fp (h : eval φ e (env.map Sl.fg) = .ok d) : evalS φ false e env = .ok d := h
theorem es_tp (h : eval φ e (env.map Sl.vw) = .ok d) (hf : flat d = true) : evalS φ true e env = .ok d := by
  rw [evS_t, h, rb_ok, hf]; rfl
theorem s_asg_p (he : evalS φ fl e env = .ok d) (hk : Cor W u ((execs φ r (env.set i (.sh d))).th k)) : Cor W u ((execs φ (.cons (.asg fl false (.nm i) e) r) env).th k) := by
  rw [exs_cons, ex_nm, he]; exact hk
theorem s_tp_p {ts : Tgs} {E1 : SE} (he : evalS φ fl e env = .ok d) (hb : bindS (.tp ts) d env = .ok E1) (hk : Cor W u ((execs φ r E1).th k)) : Cor W u ((execs φ (.cons (.asg fl false (.tp ts) e) r) env).th k) := by
  rw [exs_cons, ex_tp, he, ou_ok, hb]; exact hk
theorem s_own_p {enc : β → D} {xs : List β} (hf : fresh e = true) (he : evalS φ fl e env = .ok (eL enc xs)) (hk : Cor W u ((execs φ r (env.set i (.own (xs.map enc)))).th k)) : Cor W u ((execs φ (.cons (.asg fl true (.nm i) e) r) env).th k) := by
  rw [exs_cons, ex_own, he, ou_ok, if_pos hf]; exact hk
theorem s_par_p {ts : List (Nat × Bool)} {es : Exs} {E1 : SE} {ds : List D} (hf : freshP ts es = true) (he : evals φ es (env.map Sl.fg) = .ok ds) (hs : storeP ts ds env = .ok E1) (hk : Cor W u ((execs φ r E1).th k)) : Cor W u ((execs φ (.cons (.par ts es) r) env).th k) := by
  rw [exs_cons, ex_par, if_pos hf, he, ou_ok, hs]; exact hk
theorem s_ex_p (he : eval φ e (env.map Sl.vw) = .ok d) (hk : Cor W u ((execs φ r env).th k)) : Cor W u ((execs φ (.cons (.ex e) r) env).th k) := by
  rw [exs_cons, ex_ex, he]; exact hk
theorem s_ite_t (hc : eval φ c (env.map Sl.vw) = .ok (eB true)) (h1 : Cor W u ((execs φ a env).th fun e => (execs φ r e).th k)) : Cor W u ((execs φ (.cons (.ite c a b) r) env).th k) := by
  rw [exs_cons, ex_ite, hc]
  show Cor W u (((execs φ a env).th _).th k)
  rw [th_th]; exact h1
theorem s_ite_f (hc : eval φ c (env.map Sl.vw) = .ok (eB false)) (h1 : Cor W u ((execs φ b env).th fun e => (execs φ r e).th k)) : Cor W u ((execs φ (.cons (.ite c a b) r) env).th k) := by
  rw [exs_cons, ex_ite, hc]
  show Cor W u (((execs φ b env).th _).th k)
  rw [th_th]; exact h1
theorem s_ret_p {v : τ} (he : eval φ e (env.map Sl.vw) = .ok d) (hW : W v (.ret d (fresh e || isOwn env e))) : Cor W (.ok v) ((execs φ (.cons (.ret e) r) env).th k) := by
  rw [exs_cons, ex_ret, he]; exact Cor.k hW
theorem s_retm {er : ρ → D} {fr : Bool} {t : Res ρ} (he : Rf (eval φ e (env.map Sl.vw)) t er) (hb : (fr && !(fresh e || isOwn env e)) = false) : Cor (Wt er fr) t ((execs φ (.cons (.ret e) r) env).th k) := by
  rw [exs_cons, ex_ret]
  cases t with
  | ok v =>
    have he : eval φ e (env.map Sl.vw) = .ok (er v) := he.get
    rw [he]; exact Cor.k (.inl ⟨_, rfl, hb⟩)
  | exn c =>
    have he : eval φ e (env.map Sl.vw) = .exn c := he.getx
    rw [he]; exact Cor.x ⟨env, rfl⟩
  | bad => (first | trivial | exact Rf.no | exact Cor.no)
end
end Y
-- Y3
set_option Elab.async false
set_option linter.all false
set_option maxRecDepth 100000
set_option maxHeartbeats 4000000
/-! Y3: rules that the printer tgen.py leans on: coercions, statements' words, untyped values. -/
namespace Y
open PL
variable {α β γ δ τ σ ρ : Type}
theorem el_map {ea : α → D} {eb : β → D} {f : α → β} (h : ∀ x, ea x = eb (f x)) (xs : List α) : eL ea xs = eL eb (xs.map f) := by
  show D.lst _ = D.lst _
  rw [List.map_map]
  congr 1
  exact List.map_congr_left fun x _ => h x
theorem et_map {ea : α → D} {eb : β → D} {f : α → β} (h : ∀ x, ea x = eb (f x)) (xs : List α) : eT ea xs = eT eb (xs.map f) := by
  show D.tup _ = D.tup _
  rw [List.map_map]
  congr 1
  exact List.map_congr_left fun x _ => h x
theorem rawB {r : Res D} {t : Res D} (h : Rf r t eD) : Rf r (t.rb asBl) eB := by
  cases t with
  | ok d =>
    have h : r = .ok d := h.get
    rw [h]
    cases d <;> first | exact (by first | rfl | exact Rf.ok rfl | exact Rf.ex rfl) | (first | trivial | exact Rf.no | exact Cor.no)
  | exn c => exact Rf.ex h.getx
  | bad => (first | trivial | exact Rf.no | exact Cor.no)
theorem rawI {r : Res D} {t : Res D} (h : Rf r t eD) : Rf r (t.rb asInt) eI := by
  cases t with
  | ok d =>
    have h : r = .ok d := h.get
    rw [h]
    cases d <;> first | exact (by first | rfl | exact Rf.ok rfl | exact Rf.ex rfl) | (first | trivial | exact Rf.no | exact Cor.no)
  | exn c => exact Rf.ex h.getx
  | bad => (first | trivial | exact Rf.no | exact Cor.no)
theorem flats_map {e : α → D} (h : ∀ x, flat (e x) = true) : ∀ xs : List α, flats (xs.map e) = true
  | [] => rfl
  | x :: xs => by
    show (flat (e x) && flats (xs.map e)) = true
    rw [h x, flats_map h xs]; rfl
theorem flat_TI (x : List Int) : flat (eT eI x) = true := flats_map (fun _ => rfl) x
theorem flat_OI (x : Option Int) : flat (eO eI x) = true := by cases x <;> rfl
theorem args_id {φ : Phi} {es : Exs} {env : Ev} {t : Res α} {e : α → List D} (h : Rf ((evals φ es env).rb fun xs => .ok xs) t e) : Rf (evals φ es env) t e := by
  cases q : evals φ es env with
  | ok ds => rw [q] at h; exact h
  | exn c => rw [q] at h; exact h
  | bad => rw [q] at h; exact h
theorem o_screq (xs : List Int) : cmpF .eq (eSc xs) (.lst []) = .ok (eB (decide (xs = []))) := by
  cases xs with
  | nil => rfl
  | cons x xs => rfl
theorem o_scrne (xs : List Int) : cmpF .ne (eSc xs) (.lst []) = .ok (eB (!decide (xs = []))) := by
  cases xs with
  | nil => rfl
  | cons x xs => rfl
theorem ty_p {r : Res D} {e : α → D} {x : α} (h : r = .ok (e x)) : r = .ok (e x) := h
theorem cw_ret {er : ρ → D} {fr : Bool} {r : ρ} {d : D} {b : Bool} (hd : d = er r) (h : (fr && !b) = false) : Cor (Wt er fr) (.ok r) (.ret d b) := Cor.k (w_ret hd h)
theorem cl_ret {E : σ → SE} {kill : List Nat} {er : ρ → D} {fr : Bool} {r : ρ} {d : D} {b : Bool} (hd : d = er r) (h : (fr && !b) = false) : Cor (Wl E kill er fr) (.ok (.ret r)) (.ret d b) := Cor.k (l_ret (E := E) (kill := kill) hd h)
def zipD (a b : D) : Res (List (D × D)) := (zipF a b).rb fun _ => (seqD a).rb fun xs => (seqD b).rb fun ys => .ok (xs.zip ys)
theorem zipD_map : ∀ xs ys : List D, zip2 xs ys = (xs.zip ys).map (eP eD eD)
  | [], _ => rfl
  | _ :: _, [] => rfl
  | x :: xs, y :: ys => by
    show D.tup [x, y] :: zip2 xs ys = _
    rw [zipD_map xs ys]; rfl
theorem i_zD {φ : Phi} {env : Ev} {a b : Ex} {s u : Res D} (h : Rf (eval φ a env) s eD) (h2 : Rf (eval φ b env) u eD) : Rf (evalI φ (.zip2 a b) env) (s.rb fun x => u.rb fun y => zipD x y) fun xs => xs.map (eP eD eD) := by
  rw [evI_z2]
  refine b_m h fun x => b_m h2 fun y => ?_
  unfold zipD
  cases x <;> cases y <;> first | (first | trivial | exact Rf.no | exact Cor.no) | (exact Rf.ok (congrArg Res.ok (zipD_map _ _)))
def optE (o : Option α) (n : Res β) (s : α → Res β) : Res β := match o with
  | none => n
  | some v => s v
@[simp] theorem optE_none (n : Res β) (s : α → Res β) : optE none n s = n := rfl
@[simp] theorem optE_some (v : α) (n : Res β) (s : α → Res β) : optE (some v) n s = s v := rfl
theorem opt_rf {e : α → D} {o : Option α} {k : D → Res γ} {n : Res β} {s : α → Res β} {f : β → γ} (hn : Rf (k .non) n f) (hs : ∀ v, Rf (k (e v)) (s v) f) : Rf (k (eO e o)) (optE o n s) f := by
  cases o with
  | none => exact hn
  | some v => exact hs v
/-! killed slots in one pass -/
def klw (l : List Nat) : Nat → SE → SE
  | _, [] => []
  | i, s :: r => (bif l.contains i then .no else s) :: klw l (i + 1) r
theorem klw_len (l : List Nat) : ∀ (i : Nat) (e : SE), (klw l i e).length = e.length
  | _, [] => rfl
  | i, s :: r => by
    show (klw l (i + 1) r).length + 1 = r.length + 1
    rw [klw_len l (i + 1) r]
theorem klw_get (l : List Nat) : ∀ (i : Nat) (e : SE) (j : Nat), (klw l i e)[j]? = (e[j]?).map fun s => bif l.contains (i + j) then .no else s
  | _, [], j => by simp [klw]
  | i, s :: r, 0 => by simp [klw]
  | i, s :: r, j + 1 => by
    have := klw_get l (i + 1) r j
    rw [show i + 1 + j = i + (j + 1) by omega] at this
    simpa [klw] using this
theorem kl_get : ∀ (l : List Nat) (e : SE) (j : Nat), (kl l e)[j]? = (e[j]?).map fun s => bif l.contains j then .no else s
  | [], e, j => by simp [kl]
  | i :: l, e, j => by
    show (kl l (e.set i .no))[j]? = _
    rw [kl_get l (e.set i .no) j, List.getElem?_set]
    by_cases h : i = j
    · subst h
      by_cases h2 : i < e.length
      · simp [h2]
      · simp [h2]
    · have hc : ((i :: l).contains j) = l.contains j := by
        rw [List.contains_cons]
        have : (j == i) = false := by simpa using fun z : j = i => h z.symm
        rw [this, Bool.false_or]
      rw [hc, if_neg h]
theorem kl_klw (l : List Nat) (e : SE) : kl l e = klw l 0 e := by
  apply List.ext_getElem?
  intro j
  rw [kl_get, klw_get, Nat.zero_add]
theorem kw {l : List Nat} {e e2 : SE} (h : klw l 0 e = e2) : kl l e = e2 := (kl_klw l e).trans h
theorem l_nxw {E : σ → SE} {kill : List Nat} {er : ρ → D} {fr : Bool} {s : σ} {e : SE} (h : klw kill 0 e = E s) : Cor (Wl E kill er fr) (.ok (.nx s)) (.nx e) := l_nx (kw h)
/-- how a branch ends, where the block goes on behind it -/
def Wj (E : σ → SE) (er : ρ → D) (fr : Bool) : Stp σ ρ → Out → Prop
  | .nx s, o => o = .nx (E s)
  | .bk _, _ => False
  | .ret r, o => ∃ b, o = .ret (er r) b ∧ (fr && !b) = false
theorem j_nx {E : σ → SE} {er : ρ → D} {fr : Bool} {s : σ} {e : SE} (h : e = E s) : Cor (Wj E er fr) (.ok (.nx s)) (.nx e) := by
  subst h; exact Cor.k rfl
theorem j_ret {E : σ → SE} {er : ρ → D} {fr : Bool} {r : ρ} {d : D} {b : Bool} (hd : d = er r) (h : (fr && !b) = false) : Wj E er fr (.ret r) (.ret d b) := ⟨b, by rw [hd], h⟩
theorem cj_ret {E : σ → SE} {er : ρ → D} {fr : Bool} {r : ρ} {d : D} {b : Bool} (hd : d = er r) (h : (fr && !b) = false) : Cor (Wj E er fr) (.ok (.ret r)) (.ret d b) := Cor.k (j_ret (E := E) hd h)
theorem join_run {W : τ → Out → Prop} {E : σ → SE} {er : ρ → D} {fr : Bool} {u : Res (Stp σ ρ)} {o : Out} {g : σ → Res τ} {h : ρ → Res τ} {R : SE → Out} (c : Cor (Wj E er fr) u o) (hk : ∀ s, Cor W (g s) (R (E s))) (hr : ∀ x b, (fr && !b) = false → Cor W (h x) (.ret (er x) b)) : Cor W (u.rb fun o => after o g h) (o.th R) := by
  cases u with
  | ok w =>
    cases w with
    | nx s =>
      have c : o = .nx (E s) := c.get
      rw [c]; exact hk s
    | bk s => exact False.elim c.get
    | ret r =>
      obtain ⟨b, e, h2⟩ := c.get
      rw [e]; exact hr r b h2
  | exn x =>
    obtain ⟨e, he⟩ := c.getx
    rw [he]; exact Cor.x ⟨e, rfl⟩
  | bad => (first | trivial | exact Rf.no | exact Cor.no)
theorem s_itj {φ : Phi} {env : SE} {W : τ → Out → Prop} {E : σ → SE} {er : ρ → D} {fr : Bool} {c : Ex} {a b r : Sts} {k : SE → Out} {t : Res Bool} {u1 u2 : Res (Stp σ ρ)} {g : σ → Res τ} {h : ρ → Res τ} (hc : Rf (eval φ c (env.map Sl.vw)) t eB)
    (h1 : Cor (Wj E er fr) u1 ((execs φ a env).th .nx)) (h2 : Cor (Wj E er fr) u2 ((execs φ b env).th .nx)) (hk : ∀ s, Cor W (g s) ((execs φ r (E s)).th k)) (hr : ∀ x b, (fr && !b) = false → Cor W (h x) (.ret (er x) b)) :
    Cor W (t.rb fun p => (if p = true then u1 else u2).rb fun o => after o g h) ((execs φ (.cons (.ite c a b) r) env).th k) := by
  rw [th_id] at h1 h2
  refine cor_ou (env := env) (rr := eval φ c (env.map Sl.vw)) (k1 := fun d => (asBl d).ou env fun t => if t then execs φ a env else execs φ b env) hc fun p => ?_
  show Cor W _ (((if p = true then execs φ a env else execs φ b env).th _).th k)
  rw [th_th]
  cases p with
  | true => exact join_run h1 hk hr
  | false => exact join_run h2 hk hr
/-! ### statements -/
def wSet (w : W) (p : Int × Int) : Res W := if 2 ≤ w.a.length ∧ w.a.length ≤ 10 then .ok ⟨w.k, w.a.take (w.a.length - 2) ++ [p.1, p.2]⟩ else .bad
def w1T (w : W) : Res Int := match w.a with
  | x :: _ => .ok x
  | [] => .bad
def wlT (w : W) : Res Int := if 1 ≤ w.a.length then ofO (w.a[w.a.length - 1]?) else .bad
def wkT (w : W) : Res Int := if 2 ≤ w.a.length then ofO (w.a[w.a.length - 2]?) else .bad
theorem o_W0 (w : W) : ixF (eW w) (eI 0) = .ok (eS w.k) := by
  show ofO (L2.atI (D.str w.k :: w.a.map .int) ((0 : Nat) : Int)) = _
  rw [atI_nn (by simp)]; rfl
theorem o_w1T (w : W) : Rf (ixF (eW w) (eI 1)) (w1T w) eI := by
  obtain ⟨k, a⟩ := w
  cases a with
  | nil => (first | trivial | exact Rf.no | exact Cor.no)
  | cons x a =>
    refine Rf.ok ?_
    show ofO (L2.atI (D.str k :: .int x :: a.map .int) ((1 : Nat) : Int)) = _
    rw [atI_nn (by simp)]; rfl
theorem atI_neg {xs : List α} {n : Nat} (h1 : 0 < n) (h : n ≤ xs.length) : L2.atI xs (-(n : Int)) = xs[xs.length - n]? := by
  unfold L2.atI L2.ixN
  rw [if_neg (by omega), if_pos (by omega)]
  have e : (-(n : Int) + (xs.length : Int)).toNat = xs.length - n := by omega
  show xs[(-(n : Int) + (xs.length : Int)).toNat]? = _
  rw [e]
theorem o_wlT (w : W) : Rf (ixF (eW w) (eI (-1))) (wlT w) eI := by
  obtain ⟨k, a⟩ := w
  unfold wlT
  by_cases h : 1 ≤ a.length
  · rw [if_pos h]
    show Rf (ofO (L2.atI (D.str k :: a.map .int) (-((1 : Nat) : Int)))) _ _
    rw [atI_neg (by omega) (by simp)]
    have e : (D.str k :: a.map D.int)[(D.str k :: a.map D.int).length - 1]? = (a[a.length - 1]?).map eI := by
      rw [List.length_cons, List.length_map, show a.length + 1 - 1 = (a.length - 1) + 1 by omega, List.getElem?_cons_succ, List.getElem?_map]
    rw [e]; exact Rf_ofO _
  · rw [if_neg h]; (first | trivial | exact Rf.no | exact Cor.no)
theorem o_wkT (w : W) : Rf (ixF (eW w) (eI (-2))) (wkT w) eI := by
  obtain ⟨k, a⟩ := w
  unfold wkT
  by_cases h : 2 ≤ a.length
  · rw [if_pos h]
    show Rf (ofO (L2.atI (D.str k :: a.map .int) (-((2 : Nat) : Int)))) _ _
    rw [atI_neg (by omega) (by simp; omega)]
    have e : (D.str k :: a.map D.int)[(D.str k :: a.map D.int).length - 2]? = (a[a.length - 2]?).map eI := by
      rw [List.length_cons, List.length_map, show a.length + 1 - 2 = (a.length - 2) + 1 by omega, List.getElem?_cons_succ, List.getElem?_map]
    rw [e]; exact Rf_ofO _
  · rw [if_neg h]; (first | trivial | exact Rf.no | exact Cor.no)
theorem o_W1 (w : W) : slF (eW w) (some 1) none = .ok (eT eI w.a) := by
  show Res.ok (D.tup (cut (D.str w.k :: w.a.map .int) (some 1) none)) = _
  rw [cut1]; rfl
theorem o_lenW (w : W) : bi1 .len (eW w) = .ok (eI (w.a.length + 1 : Int)) := by
  show Res.ok (D.int ((D.str w.k :: w.a.map D.int).length : Nat)) = _
  rw [List.length_cons, List.length_map]; rfl
theorem o_wSet (w : W) (p : Int × Int) : Rf (binF .add (.tup (cut (D.str w.k :: w.a.map .int) none (some (-2)))) (eP eI eI p)) (wSet w p) eW := by
  obtain ⟨k, a⟩ := w
  unfold wSet
  by_cases h : 2 ≤ a.length ∧ a.length ≤ 10
  · rw [if_pos h]
    have e : cut (D.str k :: a.map D.int) none (some (-2)) = D.str k :: (a.take (a.length - 2)).map D.int := by
      have e2 : HT.sIx (D.str k :: a.map D.int).length (D.str k :: a.map D.int).length (some (-2)) = a.length - 2 + 1 := by
        show (if (-2 : Int) < 0 then ((-2 : Int) + ((D.str k :: a.map D.int).length : Nat)).toNat else min (-2 : Int).toNat (D.str k :: a.map D.int).length) = _
        rw [if_pos (by decide), List.length_cons, List.length_map]; omega
      show ((D.str k :: a.map D.int).drop 0).take (HT.sIx (D.str k :: a.map D.int).length (D.str k :: a.map D.int).length (some (-2)) - 0) = _
      rw [e2, List.drop_zero, Nat.sub_zero, List.take_succ_cons, List.map_take]
    refine Rf.ok ?_
    show binF .add (.tup (cut (D.str k :: a.map D.int) none (some (-2)))) (.tup [.int p.1, .int p.2]) = _
    rw [e, add_tt (by
      have : (16777216 : Nat) = sz := rfl
      simp only [List.length_cons, List.length_map, List.length_take, List.length_nil]
      omega)]
    show Res.ok (D.tup (D.str k :: (a.take (a.length - 2)).map D.int ++ [.int p.1, .int p.2])) = Res.ok (D.tup (D.str k :: (a.take (a.length - 2) ++ [p.1, p.2]).map D.int))
    rw [List.map_append]; rfl
  · rw [if_neg h]; (first | trivial | exact Rf.no | exact Cor.no)
theorem y_wset {φ : Phi} {env : Ev} {a b : Ex} {w : W} {t : Res W} (ha : eval φ a env = .ok (eW w)) (h : Rf ((eval φ b env).rb fun y => binF .add (.tup (cut (D.str w.k :: w.a.map .int) none (some (-2)))) y) t eW) : Rf (eval φ (.bin .add (.sl a .no (.so (.neg (.con (.int 2))))) b) env) t eW := by
  show Rf ((eval φ (.sl a .no (.so (.neg (.con (.int 2))))) env).rb fun x => (eval φ b env).rb fun y => binF .add x y) t eW
  have e : eval φ (.sl a .no (.so (.neg (.con (.int 2))))) env = .ok (.tup (cut (D.str w.k :: w.a.map .int) none (some (-2)))) := by
    rw [ev_sl, ha]; rfl
  exact b_p e h
end Y
-- YD
set_option Elab.async false
set_option linter.all false
set_option maxRecDepth 100000
set_option maxHeartbeats 4000000
/-! typed functions of the program and of the laws (printed by tgen.py) -/
namespace Y
open PL
def lpick_z_i_i (script0 : List Int) (k0 : Int) (many0 : Int) : Res Int :=
  ((if (!decide (script0 = [])) = true then (modT k0 (script0.length : Int)).rb fun x1 => atT script0 x1 else Res.ok 0)).rb fun cell2 =>
  ((fdivT k0 (max2 (script0.length : Int) 1)).rb fun x4 => Res.ok ((cell2 / 1000000000000000000), x4) : Res (Int × Int)).rb fun p3 =>
  (whlT (ρ := Int) (fun (s5 : Int × Int) => Res.ok ((decide (0 < s5.1)) && (decide (0 < s5.2)))) (fun (s5 : Int × Int) =>
  Res.ok (.nx ((s5.1 / 840), (s5.2 - 1)))) 100000 (p3.1, p3.2)).rb fun o12 => after o12 (fun s6 =>
  if (decide (0 < s6.1)) = true then
  modT (s6.1 % 840) many0
  else
  (Res.ok ((((cell2 * 31) + (6151 * (k0 + 1))) * 40692) % 2147483399)).rb fun drawn7 =>
  (((mulT drawn7 drawn7).rb fun x8 => Res.ok (x8 + (drawn7 / 31))).rb fun x9 => Res.ok (x9 % 2147483629)).rb fun x10 => modT x10 many0) (fun r11 => Res.ok r11)
def lborders_z_i_i (script0 : List Int) (place0 : Int) (most0 : Int) : Res (List Int) :=
  ((lpick_z_i_i script0 place0 4).rb fun x1 => atT [0, 0, 3, 960] x1).rb fun at2 =>
  (((lpick_z_i_i script0 (place0 + 1) most0).rb fun x3 => Res.ok (1 + x3)).rb fun n4 => rngT 0 n4).rb fun w17 => (forT (ρ := List Int) (fun (s5 : Int × (List Int)) (i6 : Int) =>
  ((((lpick_z_i_i script0 (place0 + 12) 3).rb fun x7 => atT [2, 5, 9] x7).rb fun x8 => lpick_z_i_i script0 ((place0 + 2) + i6) x8).rb fun x9 => Res.ok ((s5.1 + 1) + x9)).rb fun at10 =>
  (Res.ok (min2 at10 1000)).rb fun x12 => (pushT s5.2 x12).rb fun found11 =>
  Res.ok (.nx (at10, found11))) w17 (at2, [at2])).rb fun o16 => after o16 (fun s13 =>
  (ssT s13.2).rb fun x14 => Res.ok x14) (fun r15 => Res.ok r15)
def lhistogram_z_i_i (script0 : List Int) (place0 : Int) (most0 : Int) : Res ((List Int) × (List Int)) :=
  (lborders_z_i_i script0 place0 most0).rb fun borders1 =>
  (((Res.ok ((borders1.length : Int) - 1)).rb fun n2 => rngT 0 n2).rb fun w5 => (mapR (fun i3 : Int => (lpick_z_i_i script0 ((place0 + 13) + i3) 6).rb fun x4 => atT [0, 1, 2, 1, 3, 4] x4) w5).rb lenT).rb fun counts6 =>
  Res.ok (borders1, counts6)
def ldrawn_z_i_h (script0 : List Int) (place0 : Int) (histogram0 : (List Int) × (List Int)) : Res (List Int) :=
  ((Res.ok (histogram0.2.length : Int)).rb fun n1 => rngT 0 n1).rb fun w21 => (forT (ρ := List Int) (fun (s2 : (List Int) × Int) (i3 : Int) =>
  ((atT histogram0.2 i3).rb fun n4 => rngT 0 n4).rb fun w17 => (forT (ρ := List Int) (fun (s5 : (List Int) × Int) (j6 : Int) =>
  ((atT histogram0.1 i3).rb fun x10 => (((atT histogram0.1 (i3 + 1)).rb fun x7 => (atT histogram0.1 i3).rb fun x8 => Res.ok (x7 - x8)).rb fun x9 => lpick_z_i_i script0 s5.2 x9).rb fun x11 => Res.ok (x10 + x11)).rb fun x13 => (pushT s5.1 x13).rb fun found12 =>
  Res.ok (.nx (found12, (s5.2 + 1)))) w17 (s2.1, s2.2)).rb fun o16 => after o16 (fun s14 =>
  Res.ok (.nx (s14.1, s14.2))) (fun r15 => Res.ok (.ret r15))) w21 ([], place0)).rb fun o20 => after o20 (fun s18 =>
  Res.ok (sortI s18.1)) (fun r19 => Res.ok r19)
def is_int_i_i_i (value0 : Int) (least0 : Int) (most0 : Int) : Res Bool :=
  Res.ok ((decide (least0 ≤ value0)) && (decide (value0 ≤ most0)))
def are_data_li (candidate0 : List Int) : Res Bool :=
  if (decide (200 < (candidate0.length : Int))) = true then
  Res.ok false
  else
  ((((Res.ok candidate0).rb fun w2 => (mapR (fun value1 : Int => is_int_i_i_i value1 0 999) w2).rb lenT).rb fun x3 => Res.ok (x3.all id)).rb fun x4 => Res.ok (!x4)).rb fun c10 =>
  if c10 = true then
  Res.ok false
  else
  (((Res.ok candidate0).rb fun z5 => (Res.ok (cut candidate0 (some 1) none)).rb fun z6 => Res.ok (z5.zip z6)).rb fun w8 => lenT (w8.map (fun p7 : Int × Int => (decide (p7.1 ≤ p7.2))))).rb fun x9 => Res.ok (x9.all id)
def are_borders_ti (candidate0 : List Int) : Res Bool :=
  if (!((decide (2 ≤ (candidate0.length : Int))) && (decide ((candidate0.length : Int) ≤ 12)))) = true then
  Res.ok false
  else
  ((((Res.ok candidate0).rb fun w2 => (mapR (fun border1 : Int => is_int_i_i_i border1 0 1000) w2).rb lenT).rb fun x3 => Res.ok (x3.all id)).rb fun x4 => Res.ok (!x4)).rb fun c10 =>
  if c10 = true then
  Res.ok false
  else
  (((Res.ok candidate0).rb fun z5 => (Res.ok (cut candidate0 (some 1) none)).rb fun z6 => Res.ok (z5.zip z6)).rb fun w8 => lenT (w8.map (fun p7 : Int × Int => (decide (p7.1 < p7.2))))).rb fun x9 => Res.ok (x9.all id)
def is_histogram_h (candidate0 : (List Int) × (List Int)) : Res Bool :=
  ((are_borders_ti candidate0.1).rb fun x1 => Res.ok (!x1)).rb fun c6 =>
  if c6 = true then
  Res.ok false
  else
  if (!decide ((candidate0.2.length : Int) = ((candidate0.1.length : Int) - 1))) = true then
  Res.ok false
  else
  (((Res.ok candidate0.2).rb fun w3 => (mapR (fun count2 : Int => is_int_i_i_i count2 0 60) w3).rb lenT).rb fun x4 => Res.ok (x4.all id)).rb fun c5 => if c5 = true then Res.ok (decide (candidate0.2.sum ≤ 200)) else Res.ok false
def are_data_ti (candidate0 : List Int) : Res Bool :=
  Res.ok false
def is_int_b_i_i (value0 : Bool) (least0 : Int) (most0 : Int) : Res Bool :=
  Res.ok false
def are_data_lb (candidate0 : List Bool) : Res Bool :=
  if (decide (200 < (candidate0.length : Int))) = true then
  Res.ok false
  else
  ((((Res.ok candidate0).rb fun w2 => (mapR (fun value1 : Bool => is_int_b_i_i value1 0 999) w2).rb lenT).rb fun x3 => Res.ok (x3.all id)).rb fun x4 => Res.ok (!x4)).rb fun c10 =>
  if c10 = true then
  Res.ok false
  else
  (((Res.ok candidate0).rb fun z5 => (Res.ok (cut candidate0 (some 1) none)).rb fun z6 => Res.ok (z5.zip z6)).rb fun w8 => (mapR (fun p7 : Bool × Bool => (cmpF .le (eB p7.1) (eB p7.2)).rb asBl) w8).rb lenT).rb fun x9 => Res.ok (x9.all id)
def are_data_n (candidate0 : Unit) : Res Bool :=
  Res.ok false
def are_borders_li (candidate0 : List Int) : Res Bool :=
  Res.ok false
def is_int_d_i_i (value0 : D) (least0 : Int) (most0 : Int) : Res Bool :=
  (isF .int value0).rb fun c4 => if c4 = true then ((isF .bool value0).rb fun x1 => Res.ok (!x1)).rb fun c3 => if c3 = true then ((cmpF .le (eI least0) (eD value0)).rb asBl).rb fun c2 => if c2 = true then (cmpF .le (eD value0) (eI most0)).rb asBl else Res.ok false else Res.ok false else Res.ok false
def are_borders_p2bi (candidate0 : Bool × Int) : Res Bool :=
  ((((Res.ok [(eB candidate0.1), (eI candidate0.2)]).rb fun w2 => (mapR (fun border1 : D => is_int_d_i_i border1 0 1000) w2).rb lenT).rb fun x3 => Res.ok (x3.all id)).rb fun x4 => Res.ok (!x4)).rb fun c10 =>
  if c10 = true then
  Res.ok false
  else
  (((Res.ok [(eB candidate0.1), (eI candidate0.2)]).rb fun z5 => (Res.ok (cut [(eB candidate0.1), (eI candidate0.2)] (some 1) none)).rb fun z6 => Res.ok (z5.zip z6)).rb fun w8 => (mapR (fun p7 : D × D => (cmpF .lt (eD p7.1) (eD p7.2)).rb asBl) w8).rb lenT).rb fun x9 => Res.ok (x9.all id)
def is_histogram_lti (candidate0 : List (List Int)) : Res Bool :=
  Res.ok false
def is_histogram_p2tili (candidate0 : (List Int) × (List Int)) : Res Bool :=
  ((are_borders_ti candidate0.1).rb fun x1 => Res.ok (!x1)).rb fun c2 =>
  if c2 = true then
  Res.ok false
  else
  Res.ok false
def is_histogram_n (candidate0 : Unit) : Res Bool :=
  Res.ok false
def are_borders_p2ii (candidate0 : Int × Int) : Res Bool :=
  ((((Res.ok [candidate0.1, candidate0.2]).rb fun w2 => (mapR (fun border1 : Int => is_int_i_i_i border1 0 1000) w2).rb lenT).rb fun x3 => Res.ok (x3.all id)).rb fun x4 => Res.ok (!x4)).rb fun c10 =>
  if c10 = true then
  Res.ok false
  else
  (((Res.ok [candidate0.1, candidate0.2]).rb fun z5 => (Res.ok (cut [candidate0.1, candidate0.2] (some 1) none)).rb fun z6 => Res.ok (z5.zip z6)).rb fun w8 => lenT (w8.map (fun p7 : Int × Int => (decide (p7.1 < p7.2))))).rb fun x9 => Res.ok (x9.all id)
def is_histogram_p2p2iitb (candidate0 : (Int × Int) × (List Bool)) : Res Bool :=
  ((are_borders_p2ii candidate0.1).rb fun x1 => Res.ok (!x1)).rb fun c7 =>
  if c7 = true then
  Res.ok false
  else
  if (!decide ((candidate0.2.length : Int) = (2 - 1))) = true then
  Res.ok false
  else
  (((Res.ok candidate0.2).rb fun w3 => (mapR (fun count2 : Bool => is_int_b_i_i count2 0 60) w3).rb lenT).rb fun x4 => Res.ok (x4.all id)).rb fun c6 => if c6 = true then (bi1 .sum ((eT eB) candidate0.2)).rb fun x5 => (cmpF .le (eD x5) (eI 200)).rb asBl else Res.ok false
def is_histogram_p3titii (candidate0 : (List Int) × (List Int) × Int) : Res Bool :=
  Res.ok false
def ljudged_z_h_li (script0 : List Int) (histogram0 : (List Int) × (List Int)) (data0 : List Int) : Res Bool :=
  ((are_data_li []).rb fun x3 => (are_data_li data0).rb fun x4 => ((repT [0] 200).rb fun x2 => are_data_li x2).rb fun x5 => (are_borders_ti histogram0.1).rb fun x6 => (are_borders_ti [0, 1000]).rb fun x7 => Res.ok [x3, x4, x5, x6, x7]).rb fun good8 =>
  (((((Res.ok 12).rb fun n9 => rngT 0 n9).rb rgT).rb fun x10 => are_borders_ti x10).rb fun x11 => (is_histogram_h histogram0).rb fun x12 => (is_histogram_h ([0, 1], [60])).rb fun x13 => Res.ok [x11, x12, x13]).rb fun x15 => (extT good8 x15).rb fun good14 =>
  (is_histogram_h ([0, 1, 2, 3, 4], [50, 50, 50, 50])).rb fun x17 => (pushT good14 x17).rb fun good16 =>
  (((((if (!decide (data0 = [])) = true then (atT data0 (-1)).rb fun x21 => Res.ok (decide (0 < x21)) else Res.ok false)).rb fun c22 => if c22 = true then appT data0 [0] else Res.ok [2, 1]).rb fun x23 => are_data_li x23).rb fun x24 => (are_data_ti data0).rb fun x25 => (are_data_li [1000]).rb fun x26 => Res.ok [x24, x25, x26]).rb fun bad27 =>
  ((are_data_li [(-1)]).rb fun x29 => (are_data_lb [true]).rb fun x30 => ((repT [0] 201).rb fun x28 => are_data_li x28).rb fun x31 => (are_data_n ()).rb fun x32 => (are_borders_li histogram0.1).rb fun x33 => Res.ok [x29, x30, x31, x32, x33]).rb fun x35 => (extT bad27 x35).rb fun bad34 =>
  ((are_borders_ti (cut histogram0.1 none (some 1))).rb fun x36 => (are_borders_ti [0, 0]).rb fun x37 => (are_borders_ti [1, 0]).rb fun x38 => (are_borders_ti [0, 1001]).rb fun x39 => Res.ok [x36, x37, x38, x39]).rb fun x41 => (extT bad34 x41).rb fun bad40 =>
  ((are_borders_ti [(-1), 5]).rb fun x44 => (are_borders_p2bi (false, 5)).rb fun x45 => ((((Res.ok 13).rb fun n42 => rngT 0 n42).rb rgT).rb fun x43 => are_borders_ti x43).rb fun x46 => Res.ok [x44, x45, x46]).rb fun x48 => (extT bad40 x48).rb fun bad47 =>
  (is_histogram_lti [histogram0.1, histogram0.2]).rb fun x50 => (pushT bad47 x50).rb fun bad49 =>
  ((((appT histogram0.2 [0]).rb fun x51 => Res.ok (histogram0.1, x51)).rb fun x52 => is_histogram_h x52).rb fun x53 => (is_histogram_p2tili (histogram0.1, histogram0.2)).rb fun x54 => (is_histogram_n ()).rb fun x55 => Res.ok [x53, x54, x55]).rb fun x57 => (extT bad49 x57).rb fun bad56 =>
  ((is_histogram_h ([0, 1], [61])).rb fun x58 => (is_histogram_h ([0, 1], [(-1)])).rb fun x59 => (is_histogram_p2p2iitb ((0, 1), [true])).rb fun x60 => Res.ok [x58, x59, x60]).rb fun x62 => (extT bad56 x62).rb fun bad61 =>
  ((is_histogram_h ([0, 1, 2, 3, 4], [50, 50, 50, 51])).rb fun x63 => (is_histogram_p3titii (histogram0.1, histogram0.2, 1)).rb fun x64 => Res.ok [x63, x64]).rb fun x66 => (extT bad61 x66).rb fun bad65 =>
  (((Res.ok good16).rb fun w68 => lenT (w68.map (fun value67 : Bool => (decide (value67 = true))))).rb fun x69 => Res.ok (x69.all id)).rb fun c73 => if c73 = true then ((Res.ok bad65).rb fun w71 => lenT (w71.map (fun value70 : Bool => (decide (value70 = false))))).rb fun x72 => Res.ok (x72.all id) else Res.ok false
def check_borders_ti (value0 : List Int) : Res Unit :=
  ((are_borders_ti value0).rb fun x1 => Res.ok (!x1)).rb fun c2 =>
  if c2 = true then
  Res.bad
  else
  Res.ok ()
def check_data_li (value0 : List Int) : Res Unit :=
  ((are_data_li value0).rb fun x1 => Res.ok (!x1)).rb fun c2 =>
  if c2 = true then
  Res.bad
  else
  Res.ok ()
def find_bucket_ti_i (borders0 : List Int) (value0 : Int) : Res (Option Int) :=
  (((atT borders0 0).rb fun x1 => (if (decide (x1 ≤ value0)) = true then (atT borders0 (-1)).rb fun x2 => Res.ok (decide (value0 < x2)) else Res.ok false)).rb fun x3 => Res.ok (!x3)).rb fun c13 =>
  if c13 = true then
  Res.ok none
  else
  ((((Res.ok borders0).rb fun w9 => lenT ((w9.filter (fun border8 : Int => (decide (border8 ≤ value0)))).map (fun border8 : Int => border8))).rb fun x10 => Res.ok (x10.length : Int)).rb fun x11 => Res.ok (x11 - 1)).rb fun x12 => Res.ok (some x12)
def count_data_ti_li (borders0 : List Int) (data0 : List Int) : Res (List Int) :=
  ((Res.ok data0).rb fun w2 => (mapR (fun value1 : Int => find_bucket_ti_i borders0 value1) w2).rb lenT).rb fun places3 =>
  (((Res.ok ((borders0.length : Int) - 1)).rb fun n4 => rngT 0 n4).rb fun w6 => lenT (w6.map (fun index5 : Int => (countT (some index5) places3)))).rb fun x7 => Res.ok x7
def histogram_of_ti_li (borders0 : List Int) (data0 : List Int) : Res ((List Int) × (List Int)) :=
  (check_borders_ti borders0).rb fun _ =>
  (check_data_li data0).rb fun _ =>
  (((Res.ok data0).rb fun w3 => (mapR (fun value1 : Int => (find_bucket_ti_i borders0 value1).rb fun x2 => Res.ok (x2.isNone)) w3).rb lenT).rb fun x4 => Res.ok (x4.any id)).rb fun c8 =>
  if c8 = true then
  Res.bad
  else
  (count_data_ti_li borders0 data0).rb fun counts5 =>
  ((maxT counts5).rb fun x6 => Res.ok (decide (60 < x6))).rb fun c7 =>
  if c7 = true then
  Res.bad
  else
  Res.ok (borders0, counts5)
def check_histogram_h (value0 : (List Int) × (List Int)) : Res Unit :=
  ((is_histogram_h value0).rb fun x1 => Res.ok (!x1)).rb fun c2 =>
  if c2 = true then
  Res.bad
  else
  Res.ok ()
def size_of_h (histogram0 : (List Int) × (List Int)) : Res Int :=
  Res.ok histogram0.2.sum
def size_h (histogram0 : (List Int) × (List Int)) : Res Int :=
  (check_histogram_h histogram0).rb fun _ =>
  size_of_h histogram0
def do_have_li_h (data0 : List Int) (histogram0 : (List Int) × (List Int)) : Res Bool :=
  ((size_of_h histogram0).rb fun x1 => Res.ok (decide ((data0.length : Int) = x1))).rb fun c3 => if c3 = true then (count_data_ti_li histogram0.1 data0).rb fun x2 => Res.ok (decide (x2 = histogram0.2)) else Res.ok false
def have_li_h (data0 : List Int) (histogram0 : (List Int) × (List Int)) : Res Bool :=
  (check_data_li data0).rb fun _ =>
  (check_histogram_h histogram0).rb fun _ =>
  do_have_li_h data0 histogram0
def lcounts_ti_li (borders0 : List Int) (data0 : List Int) : Res (List Int) :=
  ((Res.ok borders0).rb fun z1 => (Res.ok (cut borders0 (some 1) none)).rb fun z2 => Res.ok (z1.zip z2)).rb fun w13 => (forT (ρ := List Int) (fun (s3 : List Int) (p4 : Int × Int) =>
  (((Res.ok data0).rb fun w6 => lenT ((w6.filter (fun value5 : Int => ((decide (p4.1 ≤ value5)) && (decide (value5 < p4.2))))).map (fun value5 : Int => value5))).rb fun x7 => Res.ok (x7.length : Int)).rb fun x9 => (pushT s3 x9).rb fun found8 =>
  Res.ok (.nx (found8))) w13 ([])).rb fun o12 => after o12 (fun s10 =>
  Res.ok s10) (fun r11 => Res.ok r11)
def bucket_of_ti_i (borders0 : List Int) (value0 : Int) : Res (Option Int) :=
  (check_borders_ti borders0).rb fun _ =>
  ((is_int_i_i_i value0 0 999).rb fun x1 => Res.ok (!x1)).rb fun c2 =>
  if c2 = true then
  Res.bad
  else
  find_bucket_ti_i borders0 value0
def lends_h (histogram0 : (List Int) × (List Int)) : Res ((List Int) × (List Int)) :=
  ((Res.ok (histogram0.2.length : Int)).rb fun n1 => rngT 0 n1).rb fun w18 => (forT (ρ := (List Int) × (List Int)) (fun (s2 : (List Int) × (List Int)) (i3 : Int) =>
  (((atT histogram0.1 i3).rb fun x4 => Res.ok [x4]).rb fun x5 => (atT histogram0.2 i3).rb fun x6 => repT x5 x6).rb fun x8 => (extT s2.1 x8).rb fun low7 =>
  ((((atT histogram0.1 (i3 + 1)).rb fun x9 => Res.ok (x9 - 1)).rb fun x10 => Res.ok [x10]).rb fun x11 => (atT histogram0.2 i3).rb fun x12 => repT x11 x12).rb fun x14 => (extT s2.2 x14).rb fun high13 =>
  Res.ok (.nx (low7, high13))) w18 ([], [])).rb fun o17 => after o17 (fun s15 =>
  Res.ok (s15.1, s15.2)) (fun r16 => Res.ok r16)
def filled_h_ti (histogram0 : (List Int) × (List Int)) (values0 : List Int) : Res (List Int) :=
  ((Res.ok values0).rb fun z1 => (Res.ok histogram0.2).rb fun z2 => Res.ok (z1.zip z2)).rb fun w10 => (forT (ρ := List Int) (fun (s3 : List Int) (p4 : Int × Int) =>
  (repT [p4.1] p4.2).rb fun x6 => (extT s3 x6).rb fun found5 =>
  Res.ok (.nx (found5))) w10 ([])).rb fun o9 => after o9 (fun s7 =>
  Res.ok s7) (fun r8 => Res.ok r8)
def lowest_h (histogram0 : (List Int) × (List Int)) : Res (List Int) :=
  filled_h_ti histogram0 (cut histogram0.1 none (some (-1)))
def least_data_h (histogram0 : (List Int) × (List Int)) : Res (List Int) :=
  (check_histogram_h histogram0).rb fun _ =>
  lowest_h histogram0
def filled_h_li (histogram0 : (List Int) × (List Int)) (values0 : List Int) : Res (List Int) :=
  ((Res.ok values0).rb fun z1 => (Res.ok histogram0.2).rb fun z2 => Res.ok (z1.zip z2)).rb fun w10 => (forT (ρ := List Int) (fun (s3 : List Int) (p4 : Int × Int) =>
  (repT [p4.1] p4.2).rb fun x6 => (extT s3 x6).rb fun found5 =>
  Res.ok (.nx (found5))) w10 ([])).rb fun o9 => after o9 (fun s7 =>
  Res.ok s7) (fun r8 => Res.ok r8)
def highest_h (histogram0 : (List Int) × (List Int)) : Res (List Int) :=
  ((Res.ok (cut histogram0.1 (some 1) none)).rb fun w2 => lenT (w2.map (fun border1 : Int => (border1 - 1)))).rb fun x3 => filled_h_li histogram0 x3
def greatest_data_h (histogram0 : (List Int) × (List Int)) : Res (List Int) :=
  (check_histogram_h histogram0).rb fun _ =>
  highest_h histogram0
def lfits_li_h (data0 : List Int) (histogram0 : (List Int) × (List Int)) : Res Bool :=
  if (!decide (data0 = (sortI data0))) = true then
  Res.ok false
  else
  ((lcounts_ti_li histogram0.1 data0).rb fun x1 => Res.ok (decide (x1 = histogram0.2))).rb fun c2 => if c2 = true then Res.ok (decide ((data0.length : Int) = histogram0.2.sum)) else Res.ok false
def check_rank_h_i (histogram0 : (List Int) × (List Int)) (rank0 : Int) : Res Unit :=
  (((size_of_h histogram0).rb fun x1 => is_int_i_i_i rank0 1 x1).rb fun x2 => Res.ok (!x2)).rb fun c3 =>
  if c3 = true then
  Res.bad
  else
  Res.ok ()
def find_bounds_h_i (histogram0 : (List Int) × (List Int)) (rank0 : Int) : Res (Int × Int) :=
  ((lowest_h histogram0).rb fun x1 => atT x1 (rank0 - 1)).rb fun x3 => ((highest_h histogram0).rb fun x2 => atT x2 (rank0 - 1)).rb fun x4 => Res.ok (x3, x4)
def rank_bounds_h_i (histogram0 : (List Int) × (List Int)) (rank0 : Int) : Res (Int × Int) :=
  (check_histogram_h histogram0).rb fun _ =>
  (check_rank_h_i histogram0 rank0).rb fun _ =>
  find_bounds_h_i histogram0 rank0
def percentile_bounds_h_i (histogram0 : (List Int) × (List Int)) (percent0 : Int) : Res (Int × Int) :=
  (check_histogram_h histogram0).rb fun _ =>
  ((is_int_i_i_i percent0 1 100).rb fun x1 => Res.ok (!x1)).rb fun c7 =>
  if c7 = true then
  Res.bad
  else
  (size_of_h histogram0).rb fun many2 =>
  if (decide (many2 = 0)) = true then
  Res.bad
  else
  ((((mulT percent0 many2).rb fun x3 => Res.ok (x3 + 100)).rb fun x4 => Res.ok (x4 - 1)).rb fun x5 => Res.ok (x5 / 100)).rb fun x6 => find_bounds_h_i histogram0 x6
def find_range_h_i (histogram0 : (List Int) × (List Int)) (value0 : Int) : Res (Int × Int) :=
  (((highest_h histogram0).rb fun w2 => lenT ((w2.filter (fun one1 : Int => (decide (one1 < value0)))).map (fun one1 : Int => one1))).rb fun x3 => Res.ok (x3.length : Int)).rb fun least4 =>
  (((lowest_h histogram0).rb fun w6 => lenT ((w6.filter (fun one5 : Int => (decide (one5 < value0)))).map (fun one5 : Int => one5))).rb fun x7 => Res.ok (x7.length : Int)).rb fun x8 => Res.ok (least4, x8)
def rank_range_h_i (histogram0 : (List Int) × (List Int)) (value0 : Int) : Res (Int × Int) :=
  (check_histogram_h histogram0).rb fun _ =>
  ((is_int_i_i_i value0 0 1000).rb fun x1 => Res.ok (!x1)).rb fun c2 =>
  if c2 = true then
  Res.bad
  else
  find_range_h_i histogram0 value0
def lsmall_z_i (script0 : List Int) (place0 : Int) : Res ((List Int) × (List Int)) :=
  ((lpick_z_i_i script0 place0 3).rb fun x2 => Res.ok (x2, [], [], 5) : Res (Int × (List Int) × (List Int) × Int)).rb fun p1 =>
  (Res.ok p1.1).rb fun x4 => (pushT p1.2.1 x4).rb fun borders3 =>
  (((lpick_z_i_i script0 (place0 + 1) 3).rb fun x5 => Res.ok (1 + x5)).rb fun n6 => rngT 0 n6).rb fun w20 => (forT (ρ := (List Int) × (List Int)) (fun (s7 : Int × (List Int) × (List Int) × Int) (i8 : Int) =>
  ((lpick_z_i_i script0 ((place0 + 2) + i8) 4).rb fun x9 => Res.ok ((s7.1 + 1) + x9)).rb fun at10 =>
  (Res.ok at10).rb fun x12 => (pushT s7.2.1 x12).rb fun borders11 =>
  ((lpick_z_i_i script0 ((place0 + 6) + i8) 4).rb fun x13 => Res.ok (min2 s7.2.2.2 x13)).rb fun count14 =>
  (Res.ok count14).rb fun x16 => (pushT s7.2.2.1 x16).rb fun counts15 =>
  Res.ok (.nx (at10, borders11, counts15, (s7.2.2.2 - count14)))) w20 (p1.1, borders3, p1.2.2.1, p1.2.2.2)).rb fun o19 => after o19 (fun s17 =>
  Res.ok (s17.2.1, s17.2.2.1)) (fun r18 => Res.ok r18)
def levery_h (histogram0 : (List Int) × (List Int)) : Res (List (List Int)) :=
  ((Res.ok (histogram0.2.length : Int)).rb fun n1 => rngT 0 n1).rb fun w29 => (forT (ρ := List (List Int)) (fun (s2 : List (List Int)) (i3 : Int) =>
  ((atT histogram0.2 i3).rb fun n4 => rngT 0 n4).rb fun w25 => (forT (ρ := List (List Int)) (fun (s5 : List (List Int)) (j6 : Int) =>
  (Res.ok s5).rb fun w21 => (forT (ρ := List (List Int)) (fun (s7 : List (List Int)) (data8 : List Int) =>
  ((atT histogram0.1 i3).rb fun x9 => ((if (!decide (data8 = [])) = true then atT data8 (-1) else Res.ok 0)).rb fun x10 => Res.ok (max2 x9 x10)).rb fun first11 =>
  (((Res.ok first11).rb fun n12 => (atT histogram0.1 (i3 + 1)).rb fun n13 => rngT n12 n13).rb fun w15 => (mapR (fun value14 : Int => appT data8 [value14]) w15).rb lenT).rb fun x17 => (extT s7 x17).rb fun longer16 =>
  Res.ok (.nx (longer16))) w21 ([])).rb fun o20 => after o20 (fun s18 =>
  Res.ok (.nx (s18))) (fun r19 => Res.ok (.ret r19))) w25 (s2)).rb fun o24 => after o24 (fun s22 =>
  Res.ok (.nx (s22))) (fun r23 => Res.ok (.ret r23))) w29 ([[]])).rb fun o28 => after o28 (fun s26 =>
  Res.ok s26) (fun r27 => Res.ok r27)
def find_sums_h (histogram0 : (List Int) × (List Int)) : Res (Int × Int) :=
  ((lowest_h histogram0).rb fun x1 => Res.ok x1.sum).rb fun x3 => ((highest_h histogram0).rb fun x2 => Res.ok x2.sum).rb fun x4 => Res.ok (x3, x4)
def sum_bounds_h (histogram0 : (List Int) × (List Int)) : Res (Int × Int) :=
  (check_histogram_h histogram0).rb fun _ =>
  find_sums_h histogram0
def check_filled_h (histogram0 : (List Int) × (List Int)) : Res Unit :=
  (check_histogram_h histogram0).rb fun _ =>
  ((size_of_h histogram0).rb fun x1 => Res.ok (decide (x1 = 0))).rb fun c2 =>
  if c2 = true then
  Res.bad
  else
  Res.ok ()
def spread_bounds_h (histogram0 : (List Int) × (List Int)) : Res (Int × Int) :=
  (check_filled_h histogram0).rb fun _ =>
  ((lowest_h histogram0).rb fun x2 => (highest_h histogram0).rb fun x3 => Res.ok (x2, x3) : Res ((List Int) × (List Int))).rb fun p1 =>
  if (decide ((p1.1.length : Int) = 1)) = true then
  Res.ok (0, 0)
  else
  (((atT p1.1 (-1)).rb fun x4 => (atT p1.2 0).rb fun x5 => Res.ok (x4 - x5)).rb fun x6 => Res.ok (max2 0 x6)).rb fun x9 => ((atT p1.2 (-1)).rb fun x7 => (atT p1.1 0).rb fun x8 => Res.ok (x7 - x8)).rb fun x10 => Res.ok (x9, x10)
def most_equal_h (histogram0 : (List Int) × (List Int)) : Res (Int × Int) :=
  (check_filled_h histogram0).rb fun _ =>
  (((Res.ok histogram0.1).rb fun z1 => (Res.ok (cut histogram0.1 (some 1) none)).rb fun z2 => Res.ok (z1.zip z2)).rb fun w4 => lenT (w4.map (fun p3 : Int × Int => (p3.2 - p3.1)))).rb fun widths5 =>
  ((((Res.ok histogram0.2).rb fun z6 => (Res.ok widths5).rb fun z7 => Res.ok (z6.zip z7)).rb fun w9 => (mapR (fun p8 : Int × Int => fdivT ((p8.1 + p8.2) - 1) p8.2) w9).rb lenT).rb fun x10 => maxT x10).rb fun least11 =>
  (maxT histogram0.2).rb fun x12 => Res.ok (least11, x12)
def divisor_i_i (one0 : Int) (other0 : Int) : Res Int :=
  (whlT (ρ := Int) (fun (s1 : Int × Int) => Res.ok (!decide (s1.2 = 0))) (fun (s1 : Int × Int) =>
  ((modT s1.1 s1.2).rb fun x3 => Res.ok (s1.2, x3) : Res (Int × Int)).rb fun p2 =>
  Res.ok (.nx (p2.1, p2.2))) 100000 (one0, other0)).rb fun o6 => after o6 (fun s4 =>
  Res.ok s4.1) (fun r5 => Res.ok r5)
def fraction_i_i (above0 : Int) (below0 : Int) : Res (Int × Int) :=
  (divisor_i_i above0 below0).rb fun common1 =>
  (fdivT above0 common1).rb fun x2 => (fdivT below0 common1).rb fun x3 => Res.ok (x2, x3)
def mean_bounds_h (histogram0 : (List Int) × (List Int)) : Res ((Int × Int) × (Int × Int)) :=
  (check_filled_h histogram0).rb fun _ =>
  (find_sums_h histogram0).rb fun p1 =>
  (size_of_h histogram0).rb fun many2 =>
  (fraction_i_i p1.1 many2).rb fun x3 => (fraction_i_i p1.2 many2).rb fun x4 => Res.ok (x3, x4)
def check_total_h_i (histogram0 : (List Int) × (List Int)) (total0 : Int) : Res Unit :=
  (check_histogram_h histogram0).rb fun _ =>
  if (decide (total0 < 0)) = true then
  Res.bad
  else
  Res.ok ()
def raised_h_i (histogram0 : (List Int) × (List Int)) (total0 : Int) : Res (List Int) :=
  ((lowest_h histogram0).rb fun x2 => (highest_h histogram0).rb fun x3 => Res.ok (x2, x3) : Res ((List Int) × (List Int))).rb fun p1 =>
  ((Res.ok ((p1.1.length : Int) - 1)).rb fun n4 => (Res.ok (-1)).rb fun n5 => (Res.ok (-1)).rb fun n6 => rng3T n4 n5 n6).rb fun w20 => (forT (ρ := List Int) (fun (s7 : (List Int) × Int) (index8 : Int) =>
  (((atT p1.2 index8).rb fun x9 => (atT s7.1 index8).rb fun x10 => Res.ok (x9 - x10)).rb fun x11 => Res.ok (min2 s7.2 x11)).rb fun more12 =>
  ((atT s7.1 index8).rb fun x13 => Res.ok (x13 + more12)).rb fun x15 => (Res.ok index8).rb fun j16 => (setT s7.1 j16 x15).rb fun least14 =>
  Res.ok (.nx (least14, (s7.2 - more12)))) w20 (p1.1, (total0 - p1.1.sum))).rb fun o19 => after o19 (fun s17 =>
  Res.ok (sortI s17.1)) (fun r18 => Res.ok r18)
def find_with_sum_h_i (histogram0 : (List Int) × (List Int)) (total0 : Int) : Res (Option (List Int)) :=
  (find_sums_h histogram0).rb fun p1 =>
  (if ((decide (p1.1 ≤ total0)) && (decide (total0 ≤ p1.2))) = true then (raised_h_i histogram0 total0).rb fun x2 => Res.ok (some x2) else Res.ok none)
def data_with_sum_h_i (histogram0 : (List Int) × (List Int)) (total0 : Int) : Res (Option (List Int)) :=
  (check_total_h_i histogram0 total0).rb fun _ =>
  find_with_sum_h_i histogram0 total0
def lfits_n_h (data0 : Unit) (histogram0 : (List Int) × (List Int)) : Res Bool :=
  Res.ok false
def do_have_n_h (data0 : Unit) (histogram0 : (List Int) × (List Int)) : Res Bool :=
  ((bi1 .len (eN data0)).rb fun x2 => ((size_of_h histogram0).rb fun x1 => Res.ok (eI x1)).rb fun x3 => (cmpF .eq (eD x2) (eD x3)).rb asBl).rb fun c4 => if c4 = true then Res.bad else Res.ok false
def are_data_with_sum_h_i_n (histogram0 : (List Int) × (List Int)) (total0 : Int) (candidate0 : Unit) : Res Bool :=
  (check_total_h_i histogram0 total0).rb fun _ =>
  (are_data_n candidate0).rb fun c3 => if c3 = true then (do_have_n_h candidate0 histogram0).rb fun c2 => if c2 = true then (bi1 .sum (eN candidate0)).rb fun x1 => (cmpF .eq (eD x1) (eD (eI total0))).rb asBl else Res.ok false else Res.ok false
def are_data_with_sum_h_i_li (histogram0 : (List Int) × (List Int)) (total0 : Int) (candidate0 : List Int) : Res Bool :=
  (check_total_h_i histogram0 total0).rb fun _ =>
  (are_data_li candidate0).rb fun c2 => if c2 = true then (do_have_li_h candidate0 histogram0).rb fun c1 => if c1 = true then Res.ok (decide (candidate0.sum = total0)) else Res.ok false else Res.ok false
def are_data_d (candidate0 : D) : Res Bool :=
  (((isF .list candidate0).rb fun x1 => Res.ok (!x1)).rb fun c3 => if c3 = true then Res.ok true else ((lenF candidate0).rb asInt).rb fun x2 => Res.ok (decide (200 < x2))).rb fun c14 =>
  if c14 = true then
  Res.ok false
  else
  (((((Res.ok candidate0).rb walkF).rb fun w5 => (mapR (fun value4 : D => is_int_d_i_i value4 0 999) w5).rb lenT).rb fun x6 => Res.ok (x6.all id)).rb fun x7 => Res.ok (!x7)).rb fun c13 =>
  if c13 = true then
  Res.ok false
  else
  (((Res.ok candidate0).rb fun z8 => (slF candidate0 (some 1) none).rb fun z9 => zipD z8 z9).rb fun w11 => (mapR (fun p10 : D × D => (cmpF .le (eD p10.1) (eD p10.2)).rb asBl) w11).rb lenT).rb fun x12 => Res.ok (x12.all id)
def find_bucket_ti_d (borders0 : List Int) (value0 : D) : Res (Option Int) :=
  (((atT borders0 0).rb fun x1 => ((cmpF .le (eI x1) (eD value0)).rb asBl).rb fun c3 => if c3 = true then (atT borders0 (-1)).rb fun x2 => (cmpF .lt (eD value0) (eI x2)).rb asBl else Res.ok false).rb fun x4 => Res.ok (!x4)).rb fun c18 =>
  if c18 = true then
  Res.ok none
  else
  ((((Res.ok borders0).rb fun w12 => (cmpR (fun border11 : Int => ((cmpF .le (eI border11) (eD value0)).rb asBl).rb fun b13 => if b13 = true then ((Res.ok border11 : Res Int)).rb fun y14 => Res.ok (some y14) else Res.ok none) w12).rb lenT).rb fun x15 => Res.ok (x15.length : Int)).rb fun x16 => Res.ok (x16 - 1)).rb fun x17 => Res.ok (some x17)
def count_data_ti_d (borders0 : List Int) (data0 : D) : Res (List Int) :=
  (((Res.ok data0).rb walkF).rb fun w2 => (mapR (fun value1 : D => find_bucket_ti_d borders0 value1) w2).rb lenT).rb fun places3 =>
  (((Res.ok ((borders0.length : Int) - 1)).rb fun n4 => rngT 0 n4).rb fun w6 => lenT (w6.map (fun index5 : Int => (countT (some index5) places3)))).rb fun x7 => Res.ok x7
def do_have_d_h (data0 : D) (histogram0 : (List Int) × (List Int)) : Res Bool :=
  (((lenF data0).rb asInt).rb fun x1 => (size_of_h histogram0).rb fun x2 => Res.ok (decide (x1 = x2))).rb fun c4 => if c4 = true then (count_data_ti_d histogram0.1 data0).rb fun x3 => Res.ok (decide (x3 = histogram0.2)) else Res.ok false
def are_data_with_sum_h_i_d (histogram0 : (List Int) × (List Int)) (total0 : Int) (candidate0 : D) : Res Bool :=
  (check_total_h_i histogram0 total0).rb fun _ =>
  (are_data_d candidate0).rb fun c3 => if c3 = true then (do_have_d_h candidate0 histogram0).rb fun c2 => if c2 = true then (bi1 .sum candidate0).rb fun x1 => (cmpF .eq (eD x1) (eD (eI total0))).rb asBl else Res.ok false else Res.ok false
def lstatement_z_i_i (script0 : List Int) (place0 : Int) (many0 : Int) : Res W :=
  (lpick_z_i_i script0 place0 3).rb fun kind1 =>
  ((lpick_z_i_i script0 (place0 + 1) 40).rb fun x3 => (lpick_z_i_i script0 (place0 + 2) 30).rb fun x4 => Res.ok (x3, x4) : Res (Int × Int)).rb fun p2 =>
  if ((decide (kind1 = 0)) && (decide (0 < many0))) = true then
  ((lpick_z_i_i script0 (place0 + 3) many0).rb fun x7 => Res.ok (1 + x7)).rb fun x8 => Res.ok (W.mk "rank" [x8, p2.1, (p2.1 + p2.2)])
  else
  if (decide (kind1 = 1)) = true then
  (lpick_z_i_i script0 (place0 + 4) (many0 + 1)).rb fun least9 =>
  (lpick_z_i_i script0 (place0 + 5) 50).rb fun x14 => ((lpick_z_i_i script0 (place0 + 6) 6).rb fun x13 => Res.ok (least9 + x13)).rb fun x15 => Res.ok (W.mk "less" [x14, least9, x15])
  else
  ((lpick_z_i_i script0 (place0 + 7) 60).rb fun x16 => (lpick_z_i_i script0 (place0 + 8) 5).rb fun x17 => mulT x16 x17).rb fun low18 =>
  Res.ok (W.mk "sum" [low18, (low18 + (p2.2 * 10))])
def lnumber_li_w (data0 : List Int) (statement0 : W) : Res Int :=
  (streqT statement0.k ("rank")).rb fun c10 =>
  if c10 = true then
  ((w1T statement0).rb fun x1 => Res.ok (x1 - 1)).rb fun x2 => atT data0 x2
  else
  (streqT statement0.k ("less")).rb fun c9 =>
  if c9 = true then
  ((Res.ok data0).rb fun w5 => (cmpR (fun value3 : Int => ((w1T statement0).rb fun x4 => Res.ok (decide (value3 < x4))).rb fun b6 => if b6 = true then ((Res.ok value3 : Res Int)).rb fun y7 => Res.ok (some y7) else Res.ok none) w5).rb lenT).rb fun x8 => Res.ok (x8.length : Int)
  else
  Res.ok data0.sum
def ltrue_li_w (data0 : List Int) (statement0 : W) : Res Bool :=
  (lnumber_li_w data0 statement0).rb fun number1 =>
  ((wkT statement0).rb fun x2 => Res.ok (decide (x2 ≤ number1))).rb fun c4 => if c4 = true then (wlT statement0).rb fun x3 => Res.ok (decide (number1 ≤ x3)) else Res.ok false
def is_total_i (value0 : Int) : Res Bool :=
  Res.ok (decide (0 ≤ value0))
def is_statement_for_i_w (many0 : Int) (candidate0 : W) : Res Bool :=
  (((cmpF .eq (eD (eW candidate0)) (eD ((eT eI) []))).rb asBl).rb fun c1 => if c1 = true then Res.ok true else Res.ok false).rb fun c20 =>
  if c20 = true then
  Res.ok false
  else
  ((streqT candidate0.k ("rank")).rb fun c2 => if c2 = true then Res.ok (decide ((candidate0.a.length : Int) = 3)) else Res.ok false).rb fun c19 =>
  if c19 = true then
  ((atT candidate0.a 0).rb fun x3 => is_int_i_i_i x3 1 many0).rb fun c7 => if c7 = true then ((atT candidate0.a 1).rb fun x4 => is_int_i_i_i x4 0 999).rb fun c6 => if c6 = true then (atT candidate0.a 2).rb fun x5 => is_int_i_i_i x5 0 999 else Res.ok false else Res.ok false
  else
  ((streqT candidate0.k ("less")).rb fun c8 => if c8 = true then Res.ok (decide ((candidate0.a.length : Int) = 3)) else Res.ok false).rb fun c18 =>
  if c18 = true then
  ((atT candidate0.a 0).rb fun x9 => is_int_i_i_i x9 0 1000).rb fun c13 => if c13 = true then ((atT candidate0.a 1).rb fun x10 => is_int_i_i_i x10 0 200).rb fun c12 => if c12 = true then (atT candidate0.a 2).rb fun x11 => is_int_i_i_i x11 0 200 else Res.ok false else Res.ok false
  else
  (streqT candidate0.k ("sum")).rb fun c17 => if c17 = true then (if (decide ((candidate0.a.length : Int) = 2)) = true then ((atT candidate0.a 0).rb fun x14 => is_total_i x14).rb fun c16 => if c16 = true then (atT candidate0.a 1).rb fun x15 => is_total_i x15 else Res.ok false else Res.ok false) else Res.ok false
def check_statement_h_w (histogram0 : (List Int) × (List Int)) (statement0 : W) : Res Unit :=
  (check_histogram_h histogram0).rb fun _ =>
  (((size_of_h histogram0).rb fun x1 => is_statement_for_i_w x1 statement0).rb fun x2 => Res.ok (!x2)).rb fun c3 =>
  if c3 = true then
  Res.bad
  else
  Res.ok ()
def number_bounds_h_w (histogram0 : (List Int) × (List Int)) (statement0 : W) : Res (Int × Int) :=
  (streqT statement0.k ("rank")).rb fun c4 =>
  if c4 = true then
  (w1T statement0).rb fun x1 => find_bounds_h_i histogram0 x1
  else
  (streqT statement0.k ("less")).rb fun c3 => if c3 = true then (w1T statement0).rb fun x2 => find_range_h_i histogram0 x2 else find_sums_h histogram0
def surely_holds_h_w (histogram0 : (List Int) × (List Int)) (statement0 : W) : Res Bool :=
  (number_bounds_h_w histogram0 statement0).rb fun p1 =>
  ((wkT statement0).rb fun x2 => Res.ok (decide (x2 ≤ p1.1))).rb fun c4 => if c4 = true then (wlT statement0).rb fun x3 => Res.ok (decide (p1.2 ≤ x3)) else Res.ok false
def is_certain_h_w (histogram0 : (List Int) × (List Int)) (statement0 : W) : Res Bool :=
  (check_statement_h_w histogram0 statement0).rb fun _ =>
  surely_holds_h_w histogram0 statement0
def can_hold_h_w (histogram0 : (List Int) × (List Int)) (statement0 : W) : Res Bool :=
  (check_statement_h_w histogram0 statement0).rb fun _ =>
  (number_bounds_h_w histogram0 statement0).rb fun p1 =>
  ((wkT statement0).rb fun x2 => Res.ok (max2 p1.1 x2)).rb fun x4 => ((wlT statement0).rb fun x3 => Res.ok (min2 p1.2 x3)).rb fun x5 => Res.ok (decide (x4 ≤ x5))
def number_in_li_w (data0 : List Int) (statement0 : W) : Res Int :=
  (streqT statement0.k ("rank")).rb fun c10 =>
  if c10 = true then
  ((w1T statement0).rb fun x1 => Res.ok (x1 - 1)).rb fun x2 => atT data0 x2
  else
  (streqT statement0.k ("less")).rb fun c9 =>
  if c9 = true then
  ((Res.ok data0).rb fun w5 => (cmpR (fun value3 : Int => ((w1T statement0).rb fun x4 => Res.ok (decide (value3 < x4))).rb fun b6 => if b6 = true then ((Res.ok value3 : Res Int)).rb fun y7 => Res.ok (some y7) else Res.ok none) w5).rb lenT).rb fun x8 => Res.ok (x8.length : Int)
  else
  Res.ok data0.sum
def do_hold_li_w (data0 : List Int) (statement0 : W) : Res Bool :=
  (wkT statement0).rb fun x1 => (number_in_li_w data0 statement0).rb fun x2 => (if (decide (x1 ≤ x2)) = true then (wlT statement0).rb fun x3 => Res.ok (decide (x2 ≤ x3)) else Res.ok false)
def counter_data_h_w (histogram0 : (List Int) × (List Int)) (statement0 : W) : Res (Option (List Int)) :=
  (check_statement_h_w histogram0 statement0).rb fun _ =>
  (((lowest_h histogram0).rb fun x3 => (highest_h histogram0).rb fun x4 => Res.ok [x3, x4]).rb fun w7 => (cmpR (fun data5 : List Int => ((do_hold_li_w data5 statement0).rb fun x6 => Res.ok (!x6)).rb fun b8 => if b8 = true then ((Res.ok data5 : Res (List Int))).rb fun y9 => Res.ok (some y9) else Res.ok none) w7).rb lenT).rb fun found10 =>
  (if (!decide (found10 = [])) = true then (atT found10 0).rb fun x11 => Res.ok (some x11) else Res.ok none)
def are_counter_data_h_w_n (histogram0 : (List Int) × (List Int)) (statement0 : W) (candidate0 : Unit) : Res Bool :=
  (check_statement_h_w histogram0 statement0).rb fun _ =>
  (are_data_n candidate0).rb fun c2 => if c2 = true then (do_have_n_h candidate0 histogram0).rb fun c1 => if c1 = true then Res.bad else Res.ok false else Res.ok false
def are_counter_data_h_w_li (histogram0 : (List Int) × (List Int)) (statement0 : W) (candidate0 : List Int) : Res Bool :=
  (check_statement_h_w histogram0 statement0).rb fun _ =>
  (are_data_li candidate0).rb fun c3 => if c3 = true then (do_have_li_h candidate0 histogram0).rb fun c2 => if c2 = true then (do_hold_li_w candidate0 statement0).rb fun x1 => Res.ok (!x1) else Res.ok false else Res.ok false
def holds_li_w (data0 : List Int) (statement0 : W) : Res Bool :=
  (check_data_li data0).rb fun _ =>
  ((is_statement_for_i_w (data0.length : Int) statement0).rb fun x1 => Res.ok (!x1)).rb fun c2 =>
  if c2 = true then
  Res.bad
  else
  do_hold_li_w data0 statement0
def is_statement_h_w (histogram0 : (List Int) × (List Int)) (candidate0 : W) : Res Bool :=
  (check_histogram_h histogram0).rb fun _ =>
  (size_of_h histogram0).rb fun x1 => is_statement_for_i_w x1 candidate0
def is_total_d (value0 : D) : Res Bool :=
  (isF .int value0).rb fun c3 => if c3 = true then ((isF .bool value0).rb fun x1 => Res.ok (!x1)).rb fun c2 => if c2 = true then (cmpF .ge (eD value0) (eI 0)).rb asBl else Res.ok false else Res.ok false
def is_statement_for_i_d (many0 : Int) (candidate0 : D) : Res Bool :=
  (((isF .tuple candidate0).rb fun x1 => Res.ok (!x1)).rb fun c5 => if c5 = true then Res.ok true else ((cmpF .eq (eD candidate0) (eD (D.tup []))).rb asBl).rb fun c4 => if c4 = true then Res.ok true else ((ixF candidate0 (eI 0)).rb fun x2 => isF .str x2).rb fun x3 => Res.ok (!x3)).rb fun c31 =>
  if c31 = true then
  Res.ok false
  else
  ((ixF candidate0 (eI 0)).rb fun x7 => (slF candidate0 (some 1) none).rb fun x8 => Res.ok (x7, x8) : Res (D × D)).rb fun p6 =>
  (((cmpF .eq (eD p6.1) (eD (eS ("rank")))).rb asBl).rb fun c10 => if c10 = true then ((lenF p6.2).rb asInt).rb fun x9 => Res.ok (decide (x9 = 3)) else Res.ok false).rb fun c30 =>
  if c30 = true then
  ((ixF p6.2 (eI 0)).rb fun x11 => is_int_d_i_i x11 1 many0).rb fun c15 => if c15 = true then ((ixF p6.2 (eI 1)).rb fun x12 => is_int_d_i_i x12 0 999).rb fun c14 => if c14 = true then (ixF p6.2 (eI 2)).rb fun x13 => is_int_d_i_i x13 0 999 else Res.ok false else Res.ok false
  else
  (((cmpF .eq (eD p6.1) (eD (eS ("less")))).rb asBl).rb fun c17 => if c17 = true then ((lenF p6.2).rb asInt).rb fun x16 => Res.ok (decide (x16 = 3)) else Res.ok false).rb fun c29 =>
  if c29 = true then
  ((ixF p6.2 (eI 0)).rb fun x18 => is_int_d_i_i x18 0 1000).rb fun c22 => if c22 = true then ((ixF p6.2 (eI 1)).rb fun x19 => is_int_d_i_i x19 0 200).rb fun c21 => if c21 = true then (ixF p6.2 (eI 2)).rb fun x20 => is_int_d_i_i x20 0 200 else Res.ok false else Res.ok false
  else
  ((cmpF .eq (eD p6.1) (eD (eS ("sum")))).rb asBl).rb fun c28 => if c28 = true then (((lenF p6.2).rb asInt).rb fun x23 => Res.ok (decide (x23 = 2))).rb fun c27 => if c27 = true then ((ixF p6.2 (eI 0)).rb fun x24 => is_total_d x24).rb fun c26 => if c26 = true then (ixF p6.2 (eI 1)).rb fun x25 => is_total_d x25 else Res.ok false else Res.ok false else Res.ok false
def is_statement_h_d (histogram0 : (List Int) × (List Int)) (candidate0 : D) : Res Bool :=
  (check_histogram_h histogram0).rb fun _ =>
  (size_of_h histogram0).rb fun x1 => is_statement_for_i_d x1 candidate0
def ljudged_h_i (histogram0 : (List Int) × (List Int)) (many0 : Int) : Res Bool :=
  (Res.ok ([(D.tup [(eS ("less")), (eI 5), (eI 0), (eI 201)]), (D.tup [(eS ("less")), (eI 5), (eI (-1)), (eI 1)]), (D.tup [(eS ("sum")), (eI (-1)), (eI 5)]), (D.tup [(eS ("sum")), (eI 1)]), (D.tup [(eS ("sum")), (eI 1), (eI 2), (eI 3)])])).rb fun x2 => (extT ([(eN ()), (D.tup []), (eS ("rank")), (D.tup [(eS ("rank"))]), (D.tup [(eS ("rank")), (eI 0), (eI 0), (eI 9)]), (D.tup [(eS ("rank")), (eI (many0 + 1)), (eI 0), (eI 9)]), (D.tup [(eS ("less")), (eI 1001), (eI 0), (eI 1)])]) x2).rb fun bad1 =>
  (Res.ok ([(D.tup [(eS ("more")), (eI 1), (eI 2), (eI 3)]), (D.tup [(eS ("sum")), (eS ("a")), (eI 2)]), (D.tup [(eS ("sum")), (eI 1), (eN ())]), (D.tup [(eS ("sum")), (eI 1), (eI (-1))]), (D.tup [(eS ("sum")), (eI 1), (eB true)])])).rb fun x4 => (extT bad1 x4).rb fun bad3 =>
  (Res.ok (D.tup [((eL eS) ["sum"]), (eI 1), (eI 2)])).rb fun x6 => (pushT bad3 x6).rb fun bad5 =>
  (Res.ok ([((eL eD) [(eS ("sum")), (eI 1), (eI 2)]), (D.tup [(eS ("sum")), (eB true), (eI 2)]), (D.tup [(eS ("less")), (eN ()), (eI 0), (eI 1)]), (D.tup [(eI 1), (eI 1), (eI 0), (eI 9)]), (D.tup [(eS ("rank")), (eB true), (eI 0), (eI 9)])])).rb fun x8 => (extT bad5 x8).rb fun bad7 =>
  (Res.ok (decide (0 < many0))).rb fun c26 => ((if c26 = true then
  (Res.ok ([(W.mk "rank" [1, 0, 999]), (W.mk "rank" [many0, 999, 0])])).rb fun x10 => (extT ([(W.mk "less" [0, 0, 200]), (W.mk "less" [1000, 200, 0]), (W.mk "sum" [0, 1000000000000]), (W.mk "sum" [5, 3])]) x10).rb fun good9 =>
  (Res.ok ([(D.tup [(eS ("rank")), (eI 1), (eI 0), (eI 1000)]), (D.tup [(eS ("rank")), (eI 1), (eI (-1)), (eI 5)]), (D.tup [(eS ("rank")), (eI 1), (eI 0)]), (D.tup [(eS ("rank")), (eI 1), (eI 0), (eI 1), (eI 2)])])).rb fun x12 => (extT bad7 x12).rb fun bad11 =>
  Res.ok (.nx (good9, bad11))
  else
  Res.ok (.nx ([(W.mk "less" [0, 0, 200]), (W.mk "less" [1000, 200, 0]), (W.mk "sum" [0, 1000000000000]), (W.mk "sum" [5, 3])], bad7))) : Res (Stp ((List W) × (List D)) Bool)).rb fun o25 => after o25 (fun s13 =>
  (((Res.ok s13.1).rb fun w16 => (mapR (fun value14 : W => (is_statement_h_w histogram0 value14).rb fun x15 => Res.ok (!decide (x15 = true))) w16).rb lenT).rb fun x17 => Res.ok (x17.any id)).rb fun c23 =>
  if c23 = true then
  Res.ok false
  else
  (((Res.ok s13.2).rb fun w20 => (mapR (fun value18 : D => (is_statement_h_d histogram0 value18).rb fun x19 => Res.ok (!decide (x19 = false))) w20).rb lenT).rb fun x21 => Res.ok (x21.any id)).rb fun x22 => Res.ok (!x22)) (fun r24 => Res.ok r24)
def number_in_d_w (data0 : D) (statement0 : W) : Res D :=
  (streqT statement0.k ("rank")).rb fun c17 =>
  if c17 = true then
  ((w1T statement0).rb fun x1 => Res.ok (x1 - 1)).rb fun x2 => ixF data0 (eI x2)
  else
  (streqT statement0.k ("less")).rb fun c16 =>
  if c16 = true then
  ((((Res.ok data0).rb walkF).rb fun w11 => (cmpR (fun value9 : D => ((w1T statement0).rb fun x10 => (cmpF .lt (eD value9) (eI x10)).rb asBl).rb fun b12 => if b12 = true then ((Res.ok value9 : Res D)).rb fun y13 => Res.ok (some y13) else Res.ok none) w11).rb lenT).rb fun x14 => Res.ok (x14.length : Int)).rb fun x15 => Res.ok (eI x15)
  else
  bi1 .sum data0
def do_hold_d_w (data0 : D) (statement0 : W) : Res Bool :=
  (wkT statement0).rb fun x1 => (number_in_d_w data0 statement0).rb fun x2 => ((cmpF .le (eI x1) (eD x2)).rb asBl).rb fun c4 => if c4 = true then (wlT statement0).rb fun x3 => (cmpF .le (eD x2) (eI x3)).rb asBl else Res.ok false
def are_counter_data_h_w_d (histogram0 : (List Int) × (List Int)) (statement0 : W) (candidate0 : D) : Res Bool :=
  (check_statement_h_w histogram0 statement0).rb fun _ =>
  (are_data_d candidate0).rb fun c3 => if c3 = true then (do_have_d_h candidate0 histogram0).rb fun c2 => if c2 = true then (do_hold_d_w candidate0 statement0).rb fun x1 => Res.ok (!x1) else Res.ok false else Res.ok false
def are_coarser_ti_ti (one0 : List Int) (other0 : List Int) : Res Bool :=
  ((atT one0 0).rb fun x1 => (atT other0 0).rb fun x2 => Res.ok (decide (x1 = x2))).rb fun c9 => if c9 = true then ((atT one0 (-1)).rb fun x3 => (atT other0 (-1)).rb fun x4 => Res.ok (decide (x3 = x4))).rb fun c8 => if c8 = true then ((Res.ok one0).rb fun w6 => lenT (w6.map (fun border5 : Int => (decide (border5 ∈ other0))))).rb fun x7 => Res.ok (x7.all id) else Res.ok false else Res.ok false
def is_coarser_ti_ti (one0 : List Int) (other0 : List Int) : Res Bool :=
  (check_borders_ti one0).rb fun _ =>
  (check_borders_ti other0).rb fun _ =>
  are_coarser_ti_ti one0 other0
def merged_h_ti (histogram0 : (List Int) × (List Int)) (borders0 : List Int) : Res ((List Int) × (List Int)) :=
  (((Res.ok histogram0.1).rb fun z1 => (Res.ok histogram0.2).rb fun z2 => Res.ok (z1.zip z2)).rb rgT).rb fun pairs3 =>
  ((Res.ok borders0).rb fun z4 => (Res.ok (cut borders0 (some 1) none)).rb fun z5 => Res.ok (z4.zip z5)).rb fun w16 => (forT (ρ := (List Int) × (List Int)) (fun (s6 : List Int) (p7 : Int × Int) =>
  (((Res.ok pairs3).rb fun w9 => lenT ((w9.filter (fun p8 : Int × Int => ((decide (p7.1 ≤ p8.1)) && (decide (p8.1 < p7.2))))).map (fun p8 : Int × Int => p8.2))).rb fun x10 => Res.ok x10.sum).rb fun x12 => (pushT s6 x12).rb fun counts11 =>
  Res.ok (.nx (counts11))) w16 ([])).rb fun o15 => after o15 (fun s13 =>
  Res.ok (borders0, s13)) (fun r14 => Res.ok r14)
def coarsened_h_ti (histogram0 : (List Int) × (List Int)) (borders0 : List Int) : Res ((List Int) × (List Int)) :=
  (check_histogram_h histogram0).rb fun _ =>
  (check_borders_ti borders0).rb fun _ =>
  ((are_coarser_ti_ti borders0 histogram0.1).rb fun x1 => Res.ok (!x1)).rb fun c5 =>
  if c5 = true then
  Res.bad
  else
  (merged_h_ti histogram0 borders0).rb fun found2 =>
  ((maxT found2.2).rb fun x3 => Res.ok (decide (60 < x3))).rb fun c4 =>
  if c4 = true then
  Res.bad
  else
  Res.ok found2
def lfolded_h_ti (histogram0 : (List Int) × (List Int)) (borders0 : List Int) : Res ((List Int) × (List Int)) :=
  ((Res.ok borders0).rb fun z1 => (Res.ok (cut borders0 (some 1) none)).rb fun z2 => Res.ok (z1.zip z2)).rb fun w15 => (forT (ρ := (List Int) × (List Int)) (fun (s3 : List Int) (p4 : Int × Int) =>
  (((Res.ok histogram0.1).rb fun z5 => (Res.ok histogram0.2).rb fun z6 => Res.ok (z5.zip z6)).rb fun w8 => lenT ((w8.filter (fun p7 : Int × Int => ((decide (p4.1 ≤ p7.1)) && (decide (p7.1 < p4.2))))).map (fun p7 : Int × Int => p7.2))).rb fun marks9 =>
  (Res.ok marks9.sum).rb fun x11 => (pushT s3 x11).rb fun counts10 =>
  Res.ok (.nx (counts10))) w15 ([])).rb fun o14 => after o14 (fun s12 =>
  Res.ok (borders0, s12)) (fun r13 => Res.ok r13)
def lsure_h_w (histogram0 : (List Int) × (List Int)) (statement0 : W) : Res Bool :=
  (lends_h histogram0).rb fun p1 =>
  (ltrue_li_w p1.1 statement0).rb fun c2 => if c2 = true then ltrue_li_w p1.2 statement0 else Res.ok false
def all_coarser_ti (borders0 : List Int) : Res (List (List Int)) :=
  (Res.ok (cut borders0 (some 1) (some (-1)))).rb fun w18 => (forT (ρ := List (List Int)) (fun (s1 : List (List Int)) (border2 : Int) =>
  (((Res.ok s1).rb fun w4 => (mapR (fun inner3 : List Int => appT inner3 [border2]) w4).rb lenT).rb fun x5 => appT s1 x5).rb fun found6 =>
  Res.ok (.nx (found6))) w18 ([[]])).rb fun o17 => after o17 (fun s7 =>
  (((Res.ok s7).rb fun w11 => (mapR (fun inner8 : List Int => ((appT (cut borders0 none (some 1)) inner8).rb fun x9 => appT x9 (cut borders0 (some (-1)) none)).rb fun x10 => Res.ok ((inner8.length : Int), x10)) w11).rb lenT).rb fun x12 => Res.ok (sortO ltIT x12)).rb fun found13 =>
  (Res.ok found13).rb fun w15 => lenT (w15.map (fun p14 : Int × (List Int) => p14.2))) (fun r16 => Res.ok r16)
def fewest_borders_h_lw (histogram0 : (List Int) × (List Int)) (statements0 : List W) : Res (Option (List Int)) :=
  (check_histogram_h histogram0).rb fun _ =>
  if (decide (6 < (statements0.length : Int))) = true then
  Res.bad
  else
  (size_of_h histogram0).rb fun many1 =>
  ((((Res.ok statements0).rb fun w3 => (mapR (fun statement2 : W => is_statement_for_i_w many1 statement2) w3).rb lenT).rb fun x4 => Res.ok (x4.all id)).rb fun x5 => Res.ok (!x5)).rb fun c19 =>
  if c19 = true then
  Res.bad
  else
  (all_coarser_ti histogram0.1).rb fun w18 => (forT (ρ := Option (List Int)) (fun (s6 : Unit) (borders7 : List Int) =>
  (merged_h_ti histogram0 borders7).rb fun found8 =>
  (((maxT found8.2).rb fun x9 => Res.ok (decide (x9 ≤ 60))).rb fun c13 => if c13 = true then ((Res.ok statements0).rb fun w11 => (mapR (fun statement10 : W => surely_holds_h_w found8 statement10) w11).rb lenT).rb fun x12 => Res.ok (x12.all id) else Res.ok false).rb fun c14 =>
  if c14 = true then
  Res.ok (.ret (some borders7))
  else
  Res.ok (.nx ())) w18 ()).rb fun o17 => after o17 (fun s15 =>
  Res.ok none) (fun r16 => Res.ok r16)
def looseness_h (histogram0 : (List Int) × (List Int)) : Res Int :=
  (find_sums_h histogram0).rb fun p1 =>
  Res.ok (p1.2 - p1.1)
def least_loss_h (histogram0 : (List Int) × (List Int)) : Res (Option (Int × Int)) :=
  (check_histogram_h histogram0).rb fun _ =>
  ((Res.ok 1).rb fun n1 => (Res.ok ((histogram0.1.length : Int) - 1)).rb fun n2 => rngT n1 n2).rb fun w20 => (forT (ρ := Option (Int × Int)) (fun (s3 : List (Int × Int)) (index4 : Int) =>
  ((appT (cut histogram0.1 none (some index4)) (cut histogram0.1 (some (index4 + 1)) none)).rb fun x5 => merged_h_ti histogram0 x5).rb fun coarse6 =>
  ((maxT coarse6.2).rb fun x7 => Res.ok (decide (x7 ≤ 60))).rb fun c13 =>
  if c13 = true then
  (((looseness_h coarse6).rb fun x8 => (looseness_h histogram0).rb fun x9 => Res.ok (x8 - x9)).rb fun x10 => Res.ok (x10, index4)).rb fun x12 => (pushT s3 x12).rb fun found11 =>
  Res.ok (.nx (found11))
  else
  Res.ok (.nx (s3))) w20 ([])).rb fun o19 => after o19 (fun s14 =>
  (if (!decide (s14 = [])) = true then ((minO ltII s14).rb fun x16 => Res.ok (x16.2, x16.1)).rb fun x17 => Res.ok (some x17) else Res.ok none)) (fun r18 => Res.ok r18)
def check_two_h_h (one0 : (List Int) × (List Int)) (other0 : (List Int) × (List Int)) : Res Unit :=
  (check_histogram_h one0).rb fun _ =>
  (check_histogram_h other0).rb fun _ =>
  Res.ok ()
def is_conflict_h_h_i (one0 : (List Int) × (List Int)) (other0 : (List Int) × (List Int)) (value0 : Int) : Res Bool :=
  ((find_range_h_i one0 value0).rb fun x2 => (find_range_h_i other0 value0).rb fun x3 => Res.ok (x2, x3) : Res ((Int × Int) × (Int × Int))).rb fun p1 =>
  Res.ok ((decide (p1.1.2 < p1.2.1)) || (decide (p1.2.2 < p1.1.1)))
def are_compatible_h_h (one0 : (List Int) × (List Int)) (other0 : (List Int) × (List Int)) : Res Bool :=
  ((size_of_h one0).rb fun x1 => (size_of_h other0).rb fun x2 => Res.ok (!decide (x1 = x2))).rb fun c7 =>
  if c7 = true then
  Res.ok false
  else
  (((appT one0.1 other0.1).rb fun w4 => (mapR (fun value3 : Int => is_conflict_h_h_i one0 other0 value3) w4).rb lenT).rb fun x5 => Res.ok (x5.any id)).rb fun x6 => Res.ok (!x6)
def can_be_same_h_h (one0 : (List Int) × (List Int)) (other0 : (List Int) × (List Int)) : Res Bool :=
  (check_two_h_h one0 other0).rb fun _ =>
  are_compatible_h_h one0 other0
def find_conflict_h_h (one0 : (List Int) × (List Int)) (other0 : (List Int) × (List Int)) : Res (Option Int) :=
  (((Res.ok (1000 + 1)).rb fun n1 => rngT 0 n1).rb fun w3 => (cmpR (fun value2 : Int => (is_conflict_h_h_i one0 other0 value2).rb fun b4 => if b4 = true then ((Res.ok value2 : Res Int)).rb fun y5 => Res.ok (some y5) else Res.ok none) w3).rb lenT).rb fun found6 =>
  (if (!decide (found6 = [])) = true then (atT found6 0).rb fun x7 => Res.ok (some x7) else Res.ok none)
def conflict_h_h (one0 : (List Int) × (List Int)) (other0 : (List Int) × (List Int)) : Res (Option Int) :=
  (check_two_h_h one0 other0).rb fun _ =>
  ((size_of_h one0).rb fun x1 => (size_of_h other0).rb fun x2 => Res.ok (!decide (x1 = x2))).rb fun c3 =>
  if c3 = true then
  Res.bad
  else
  find_conflict_h_h one0 other0
def known_ranks_h_h (one0 : (List Int) × (List Int)) (other0 : (List Int) × (List Int)) : Res (List (Int × Int)) :=
  ((appT one0.1 other0.1).rb fun x1 => ssT x1).rb fun w12 => (forT (ρ := List (Int × Int)) (fun (s2 : List (Int × Int)) (value3 : Int) =>
  ((find_range_h_i one0 value3).rb fun x5 => (find_range_h_i other0 value3).rb fun x6 => Res.ok (x5, x6) : Res ((Int × Int) × (Int × Int))).rb fun p4 =>
  if ((decide (p4.1.1 = p4.1.2)) || (decide (p4.2.1 = p4.2.2))) = true then
  (Res.ok (value3, (if (decide (p4.1.1 = p4.1.2)) = true then p4.1.1 else p4.2.1))).rb fun x8 => (pushT s2 x8).rb fun found7 =>
  Res.ok (.nx (found7))
  else
  Res.ok (.nx (s2))) w12 ([])).rb fun o11 => after o11 (fun s9 =>
  Res.ok s9) (fun r10 => Res.ok r10)
def find_common_bounds_h_h_i (one0 : (List Int) × (List Int)) (other0 : (List Int) × (List Int)) (rank0 : Int) : Res (Int × Int) :=
  (known_ranks_h_h one0 other0).rb fun known1 =>
  (((Res.ok known1).rb fun w3 => lenT ((w3.filter (fun p2 : Int × Int => (decide (p2.2 < rank0)))).map (fun p2 : Int × Int => p2.1))).rb fun x4 => maxT x4).rb fun low5 =>
  ((((Res.ok known1).rb fun w7 => lenT ((w7.filter (fun p6 : Int × Int => (decide (rank0 ≤ p6.2)))).map (fun p6 : Int × Int => p6.1))).rb fun x8 => minT x8).rb fun x9 => Res.ok (x9 - 1)).rb fun x10 => Res.ok (low5, x10)
def find_common_h_h (one0 : (List Int) × (List Int)) (other0 : (List Int) × (List Int)) : Res (Option (List Int)) :=
  ((are_compatible_h_h one0 other0).rb fun x1 => Res.ok (!x1)).rb fun c15 =>
  if c15 = true then
  Res.ok none
  else
  (((Res.ok 1).rb fun n9 => ((size_of_h one0).rb fun x8 => Res.ok (x8 + 1)).rb fun n10 => rngT n9 n10).rb fun w13 => (mapR (fun rank11 : Int => (find_common_bounds_h_h_i one0 other0 rank11).rb fun x12 => Res.ok x12.1) w13).rb lenT).rb fun x14 => Res.ok (some x14)
def common_data_h_h (one0 : (List Int) × (List Int)) (other0 : (List Int) × (List Int)) : Res (Option (List Int)) :=
  (check_two_h_h one0 other0).rb fun _ =>
  find_common_h_h one0 other0
def are_common_data_h_h_li (one0 : (List Int) × (List Int)) (other0 : (List Int) × (List Int)) (candidate0 : List Int) : Res Bool :=
  (check_two_h_h one0 other0).rb fun _ =>
  (are_data_li candidate0).rb fun c2 => if c2 = true then (do_have_li_h candidate0 one0).rb fun c1 => if c1 = true then do_have_li_h candidate0 other0 else Res.ok false else Res.ok false
def are_common_data_h_h_n (one0 : (List Int) × (List Int)) (other0 : (List Int) × (List Int)) (candidate0 : Unit) : Res Bool :=
  (check_two_h_h one0 other0).rb fun _ =>
  (are_data_n candidate0).rb fun c2 => if c2 = true then (do_have_n_h candidate0 one0).rb fun c1 => if c1 = true then do_have_n_h candidate0 other0 else Res.ok false else Res.ok false
def common_rank_bounds_h_h_i (one0 : (List Int) × (List Int)) (other0 : (List Int) × (List Int)) (rank0 : Int) : Res (Int × Int) :=
  (check_two_h_h one0 other0).rb fun _ =>
  ((are_compatible_h_h one0 other0).rb fun x1 => Res.ok (!x1)).rb fun c2 =>
  if c2 = true then
  Res.bad
  else
  (check_rank_h_i one0 rank0).rb fun _ =>
  find_common_bounds_h_h_i one0 other0 rank0
def lranges_h_i (histogram0 : (List Int) × (List Int)) (value0 : Int) : Res (Int × Int) :=
  (lends_h histogram0).rb fun p1 =>
  (((Res.ok p1.2).rb fun w3 => lenT ((w3.filter (fun one2 : Int => (decide (one2 < value0)))).map (fun one2 : Int => one2))).rb fun x4 => Res.ok (x4.length : Int)).rb fun x8 => (((Res.ok p1.1).rb fun w6 => lenT ((w6.filter (fun one5 : Int => (decide (one5 < value0)))).map (fun one5 : Int => one5))).rb fun x7 => Res.ok (x7.length : Int)).rb fun x9 => Res.ok (x8, x9)
def ldrawn_z_i_i (script0 : List Int) (k0 : Int) (many0 : Int) : Res Int :=
  if (!decide (script0 = [])) = true then
  ((modT k0 (script0.length : Int)).rb fun x15 => atT script0 x15).rb fun cell16 =>
  (fdivT k0 (script0.length : Int)).rb fun turn17 =>
  if ((decide (1000000000000000000 ≤ cell16)) && (decide (turn17 < 60))) = true then
  (Res.ok (cell16 / 1000000000000000000)).rb fun rest22 =>
  (whlT (ρ := Int) (fun (s23 : Int × Int) => Res.ok ((decide (0 < s23.2)) && (decide (0 < s23.1)))) (fun (s23 : Int × Int) =>
  Res.ok (.nx ((s23.1 - 1), (s23.2 / 1000000)))) 100000 (turn17, rest22)).rb fun o37 => after o37 (fun s24 =>
  if (decide (0 < s24.2)) = true then
  modT (s24.2 % 1000000) many0
  else
  (((fdivT k0 (script0.length : Int)).rb fun x25 => Res.ok (6553 * x25)).rb fun x26 => Res.ok (cell16 + x26)).rb fun cell27 =>
  (Res.ok ((((cell27 % 2147483563) * 69069) + (104723 * (k0 + 1))) % 2147483563)).rb fun cell28 =>
  (((mulT cell28 cell28).rb fun x29 => Res.ok (x29 + (cell28 / 3))).rb fun x30 => Res.ok (x30 % 2147483399)).rb fun cell31 =>
  ((((mulT cell31 cell31).rb fun x32 => Res.ok (x32 + (cell31 / 7))).rb fun x33 => Res.ok (x33 % 2147483647)).rb fun x34 => Res.ok (x34 / 11)).rb fun x35 => modT x35 many0) (fun r36 => Res.ok r36)
  else
  (((fdivT k0 (script0.length : Int)).rb fun x38 => Res.ok (6553 * x38)).rb fun x39 => Res.ok (cell16 + x39)).rb fun cell40 =>
  (Res.ok ((((cell40 % 2147483563) * 69069) + (104723 * (k0 + 1))) % 2147483563)).rb fun cell41 =>
  (((mulT cell41 cell41).rb fun x42 => Res.ok (x42 + (cell41 / 3))).rb fun x43 => Res.ok (x43 % 2147483399)).rb fun cell44 =>
  ((((mulT cell44 cell44).rb fun x45 => Res.ok (x45 + (cell44 / 7))).rb fun x46 => Res.ok (x46 % 2147483647)).rb fun x47 => Res.ok (x47 / 11)).rb fun x48 => modT x48 many0
  else
  (Res.ok (((((7 * k0) % 2147483563) * 69069) + (104723 * (k0 + 1))) % 2147483563)).rb fun cell49 =>
  (((mulT cell49 cell49).rb fun x50 => Res.ok (x50 + (cell49 / 3))).rb fun x51 => Res.ok (x51 % 2147483399)).rb fun cell52 =>
  ((((mulT cell52 cell52).rb fun x53 => Res.ok (x53 + (cell52 / 7))).rb fun x54 => Res.ok (x54 % 2147483647)).rb fun x55 => Res.ok (x55 / 11)).rb fun x56 => modT x56 many0
def lvalues_z_i_i_i (script0 : List Int) (at0 : Int) (most0 : Int) (last0 : Int) : Res (List Int) :=
  (((ldrawn_z_i_i script0 at0 (most0 + 1)).rb fun n1 => rngT 0 n1).rb fun w3 => (mapR (fun k2 : Int => ldrawn_z_i_i script0 ((at0 + 1) + k2) last0) w3).rb lenT).rb fun x4 => Res.ok (sortI x4)
def lborders_z_i_i_i (script0 : List Int) (at0 : Int) (first0 : Int) (last0 : Int) : Res (List Int) :=
  ((ldrawn_z_i_i script0 at0 4).rb fun n1 => rngT 0 n1).rb fun w14 => (forT (ρ := List Int) (fun (s2 : List Int) (k3 : Int) =>
  (((atT s2 (-1)).rb fun x4 => Res.ok (x4 + 1)).rb fun x5 => (ldrawn_z_i_i script0 ((at0 + 1) + k3) 8).rb fun x6 => Res.ok (x5 + x6)).rb fun place7 =>
  if (decide (place7 < last0)) = true then
  (Res.ok place7).rb fun x9 => (pushT s2 x9).rb fun found8 =>
  Res.ok (.nx (found8))
  else
  Res.ok (.nx (s2))) w14 ([first0])).rb fun o13 => after o13 (fun s10 =>
  (appT s10 [last0]).rb fun x11 => Res.ok x11) (fun r12 => Res.ok r12)
def lof_ti_li (borders0 : List Int) (data0 : List Int) : Res ((List Int) × (List Int)) :=
  ((Res.ok borders0).rb fun z1 => (Res.ok (cut borders0 (some 1) none)).rb fun z2 => Res.ok (z1.zip z2)).rb fun w13 => (forT (ρ := (List Int) × (List Int)) (fun (s3 : List Int) (p4 : Int × Int) =>
  (((Res.ok data0).rb fun w6 => lenT ((w6.filter (fun value5 : Int => ((decide (p4.1 ≤ value5)) && (decide (value5 < p4.2))))).map (fun value5 : Int => value5))).rb fun x7 => Res.ok (x7.length : Int)).rb fun x9 => (pushT s3 x9).rb fun counts8 =>
  Res.ok (.nx (counts8))) w13 ([])).rb fun o12 => after o12 (fun s10 =>
  Res.ok (borders0, s10)) (fun r11 => Res.ok r11)
def check_histograms_lh (value0 : List ((List Int) × (List Int))) : Res Unit :=
  if (!((decide (1 ≤ (value0.length : Int))) && (decide ((value0.length : Int) ≤ 5)))) = true then
  Res.bad
  else
  ((((Res.ok value0).rb fun w2 => (mapR (fun one1 : (List Int) × (List Int) => is_histogram_h one1) w2).rb lenT).rb fun x3 => Res.ok (x3.all id)).rb fun x4 => Res.ok (!x4)).rb fun c5 =>
  if c5 = true then
  Res.bad
  else
  Res.ok ()
def known_numbers_lh (histograms0 : List ((List Int) × (List Int))) : Res (List (Int × Int)) :=
  (Res.ok histograms0).rb fun w16 => (forT (ρ := List (Int × Int)) (fun (s1 : List (Int × Int)) (p2 : (List Int) × (List Int)) =>
  ((Res.ok p2.1).rb fun z3 => (appT p2.2 [0]).rb fun z4 => Res.ok (z3.zip z4)).rb fun w12 => (forT (ρ := List (Int × Int)) (fun (s5 : (List (Int × Int)) × Int) (p6 : Int × Int) =>
  (Res.ok (p6.1, s5.2)).rb fun x8 => (pushT s5.1 x8).rb fun found7 =>
  Res.ok (.nx (found7, (s5.2 + p6.2)))) w12 (s1, 0)).rb fun o11 => after o11 (fun s9 =>
  Res.ok (.nx (s9.1))) (fun r10 => Res.ok (.ret r10))) w16 ([])).rb fun o15 => after o15 (fun s13 =>
  ssPT s13) (fun r14 => Res.ok r14)
def have_common_lh (histograms0 : List ((List Int) × (List Int))) : Res Bool :=
  (known_numbers_lh histograms0).rb fun known1 =>
  ((((Res.ok histograms0).rb fun w3 => lenT (w3.map (fun p2 : (List Int) × (List Int) => p2.2.sum))).rb fun x4 => lsT x4).rb fun x5 => Res.ok (decide (1 < x5))).rb fun c11 =>
  if c11 = true then
  Res.ok false
  else
  (((Res.ok known1).rb fun z6 => (Res.ok (cut known1 (some 1) none)).rb fun z7 => Res.ok (z6.zip z7)).rb fun w9 => lenT (w9.map (fun p8 : (Int × Int) × (Int × Int) => ((decide (p8.1.1 < p8.2.1)) && (decide (p8.1.2 ≤ p8.2.2)))))).rb fun x10 => Res.ok (x10.all id)
def can_all_be_same_lh (histograms0 : List ((List Int) × (List Int))) : Res Bool :=
  (check_histograms_lh histograms0).rb fun _ =>
  have_common_lh histograms0
def conflicting_pair_lh (histograms0 : List ((List Int) × (List Int))) : Res (Option (Int × Int)) :=
  (check_histograms_lh histograms0).rb fun _ =>
  ((Res.ok histograms0).rb fun z1 => Res.ok (enumT 0 z1)).rb fun w18 => (forT (ρ := Option (Int × Int)) (fun (s2 : Unit) (p3 : Int × ((List Int) × (List Int))) =>
  ((Res.ok (p3.1 + 1)).rb fun n4 => (Res.ok (histograms0.length : Int)).rb fun n5 => rngT n4 n5).rb fun w14 => (forT (ρ := Option (Int × Int)) (fun (s6 : Unit) (after7 : Int) =>
  (((atT histograms0 after7).rb fun x8 => are_compatible_h_h p3.2 x8).rb fun x9 => Res.ok (!x9)).rb fun c10 =>
  if c10 = true then
  Res.ok (.ret (some (p3.1, after7)))
  else
  Res.ok (.nx ())) w14 ()).rb fun o13 => after o13 (fun s11 =>
  Res.ok (.nx ())) (fun r12 => Res.ok (.ret r12))) w18 ()).rb fun o17 => after o17 (fun s15 =>
  Res.ok none) (fun r16 => Res.ok r16)
def are_all_common_data_lh_li (histograms0 : List ((List Int) × (List Int))) (candidate0 : List Int) : Res Bool :=
  (check_histograms_lh histograms0).rb fun _ =>
  (are_data_li candidate0).rb fun c4 => if c4 = true then ((Res.ok histograms0).rb fun w2 => (mapR (fun one1 : (List Int) × (List Int) => do_have_li_h candidate0 one1) w2).rb lenT).rb fun x3 => Res.ok (x3.all id) else Res.ok false
def find_counts_lp2ii (known0 : List (Int × Int)) : Res (List Int) :=
  (((Res.ok known0).rb fun z1 => (Res.ok (cut known0 (some 1) none)).rb fun z2 => Res.ok (z1.zip z2)).rb fun w4 => lenT (w4.map (fun p3 : (Int × Int) × (Int × Int) => (p3.2.2 - p3.1.2)))).rb fun x5 => Res.ok x5
def combined_lh (histograms0 : List ((List Int) × (List Int))) : Res ((List Int) × (List Int)) :=
  (check_histograms_lh histograms0).rb fun _ =>
  ((have_common_lh histograms0).rb fun x1 => Res.ok (!x1)).rb fun c10 =>
  if c10 = true then
  Res.bad
  else
  (known_numbers_lh histograms0).rb fun known2 =>
  (find_counts_lp2ii known2).rb fun counts3 =>
  ((if (decide (12 < (known2.length : Int))) = true then Res.ok true else (maxT counts3).rb fun x4 => Res.ok (decide (60 < x4)))).rb fun c9 =>
  if c9 = true then
  Res.bad
  else
  (((Res.ok known2).rb fun w6 => lenT (w6.map (fun p5 : Int × Int => p5.1))).rb fun x7 => Res.ok x7).rb fun x8 => Res.ok (x8, counts3)
def all_common_data_lh (histograms0 : List ((List Int) × (List Int))) : Res (Option (List Int)) :=
  (check_histograms_lh histograms0).rb fun _ =>
  ((have_common_lh histograms0).rb fun x1 => Res.ok (!x1)).rb fun c14 =>
  if c14 = true then
  Res.ok none
  else
  ((known_numbers_lh histograms0).rb fun x3 => Res.ok (x3, []) : Res ((List (Int × Int)) × (List Int))).rb fun p2 =>
  ((Res.ok p2.1).rb fun z4 => (find_counts_lp2ii p2.1).rb fun z5 => Res.ok (z4.zip z5)).rb fun w13 => (forT (ρ := Option (List Int)) (fun (s6 : List Int) (p7 : (Int × Int) × Int) =>
  (repT [p7.1.1] p7.2).rb fun x9 => (extT s6 x9).rb fun found8 =>
  Res.ok (.nx (found8))) w13 (p2.2)).rb fun o12 => after o12 (fun s10 =>
  Res.ok (some s10)) (fun r11 => Res.ok r11)
def check_data_n (value0 : Unit) : Res Unit :=
  ((are_data_n value0).rb fun x1 => Res.ok (!x1)).rb fun c2 =>
  if c2 = true then
  Res.bad
  else
  Res.ok ()
def have_n_h (data0 : Unit) (histogram0 : (List Int) × (List Int)) : Res Bool :=
  (check_data_n data0).rb fun _ =>
  (check_histogram_h histogram0).rb fun _ =>
  do_have_n_h data0 histogram0
def are_all_common_data_lh_n (histograms0 : List ((List Int) × (List Int))) (candidate0 : Unit) : Res Bool :=
  (check_histograms_lh histograms0).rb fun _ =>
  (are_data_n candidate0).rb fun c4 => if c4 = true then ((Res.ok histograms0).rb fun w2 => (mapR (fun one1 : (List Int) × (List Int) => do_have_n_h candidate0 one1) w2).rb lenT).rb fun x3 => Res.ok (x3.all id) else Res.ok false
def lwithin_z_i_h (script0 : List Int) (at0 : Int) (histogram0 : (List Int) × (List Int)) : Res (List Int) :=
  ((Res.ok histogram0.2).rb fun z1 => Res.ok (enumT 0 z1)).rb fun w16 => (forT (ρ := List Int) (fun (s2 : List Int) (p3 : Int × Int) =>
  ((atT histogram0.1 p3.1).rb fun x4 => (atT histogram0.1 (p3.1 + 1)).rb fun x5 => Res.ok (x4, x5)).rb fun p6 =>
  ((((Res.ok p3.2).rb fun n7 => rngT 0 n7).rb fun w10 => (mapR (fun n8 : Int => (ldrawn_z_i_i script0 ((at0 + (7 * p3.1)) + n8) (p6.2 - p6.1)).rb fun x9 => Res.ok (p6.1 + x9)) w10).rb lenT).rb fun x11 => appT s2 x11).rb fun found12 =>
  Res.ok (.nx (found12))) w16 ([])).rb fun o15 => after o15 (fun s13 =>
  Res.ok (sortI s13)) (fun r14 => Res.ok r14)
def lhistogram_z_i (script0 : List Int) (at0 : Int) : Res ((List Int) × (List Int)) :=
  ((ldrawn_z_i_i script0 (at0 + 6) 3).rb fun x1 => lborders_z_i_i_i script0 at0 x1 30).rb fun borders2 =>
  ((((Res.ok ((borders2.length : Int) - 1)).rb fun n3 => rngT 0 n3).rb fun w5 => (mapR (fun k4 : Int => ldrawn_z_i_i script0 ((at0 + 7) + k4) 4) w5).rb lenT).rb fun x6 => Res.ok x6).rb fun x7 => Res.ok (borders2, x7)
def lpairs_z_lh (script0 : List Int) (histograms0 : List ((List Int) × (List Int))) : Res Bool :=
  (lhistogram_z_i script0 200).rb fun other1 =>
  ((atT histograms0 0).rb fun x2 => Res.ok [other1, x2]).rb fun pair3 =>
  ((can_all_be_same_lh pair3).rb fun x5 => ((atT histograms0 0).rb fun x4 => can_be_same_h_h other1 x4).rb fun x6 => Res.ok (!decide (x5 = x6))).rb fun c18 =>
  if c18 = true then
  Res.ok false
  else
  (((conflicting_pair_lh pair3).rb fun x7 => Res.ok (x7.isNone)).rb fun x8 => (can_all_be_same_lh pair3).rb fun x9 => Res.ok (!decide (x8 = x9))).rb fun c17 =>
  if c17 = true then
  Res.ok false
  else
  (((atT histograms0 1).rb fun x10 => Res.ok [x10]).rb fun x11 => appT pair3 x11).rb fun three12 =>
  ((can_all_be_same_lh three12).rb fun c14 => if c14 = true then Res.ok true else (can_all_be_same_lh pair3).rb fun x13 => Res.ok (!x13)).rb fun c16 =>
  if c16 = true then
  Res.ok true
  else
  (conflicting_pair_lh three12).rb fun x15 => Res.ok (decide (x15 = (some (0, 2))))
end Y
-- K36_D
set_option Elab.async false
set_option linter.all false
set_option maxRecDepth 100000
set_option maxHeartbeats 4000000
/-! typed functions of K36 alone (printed by tgen.py) -/
namespace Y
open PL
def law_k36 (script0 : List Int) : Res Bool :=
  ((Res.ok 3).rb fun n1 => rngT 0 n1).rb fun w106 => (forT (ρ := Bool) (fun (s2 : Unit) (i3 : Int) =>
  (lhistogram_z_i_i script0 (100 * i3) 5).rb fun histogram4 =>
  (Res.ok (histogram4.1, histogram4.2.sum)).rb fun p5 =>
  (Res.ok (cut p5.1 (some 1) (some (-1)))).rb fun w87 => (forT (ρ := Bool) (fun (s6 : List (List Int)) (border7 : Int) =>
  (((Res.ok s6).rb fun w9 => (mapR (fun part8 : List Int => appT part8 [border7]) w9).rb lenT).rb fun x10 => appT s6 x10).rb fun inner11 =>
  Res.ok (.nx (inner11))) w87 ([[]])).rb fun o86 => after o86 (fun s12 =>
  (((Res.ok s12).rb fun w16 => (mapR (fun part13 : List Int => ((appT (cut p5.1 none (some 1)) part13).rb fun x14 => appT x14 (cut p5.1 (some (-1)) none)).rb fun x15 => Res.ok ((part13.length : Int), x15)) w16).rb lenT).rb fun x17 => Res.ok (sortO ltIT x17)).rb fun rows18 =>
  ((lpick_z_i_i script0 ((100 * i3) + 40) 4).rb fun n19 => rngT 0 n19).rb fun w84 => (forT (ρ := Bool) (fun (s20 : List W) (j21 : Int) =>
  (lstatement_z_i_i script0 (((100 * i3) + 41) + (9 * j21)) p5.2).rb fun word22 =>
  (lends_h histogram4).rb fun p23 =>
  (((lnumber_li_w p23.1 word22).rb fun x24 => (lnumber_li_w p23.2 word22).rb fun x25 => Res.ok [x24, x25]).rb fun x26 => Res.ok (sortI x26)).rb fun ends27 =>
  ((lpick_z_i_i script0 (((100 * i3) + 80) + j21) 3).rb fun x28 => atT [0, 3, 20] x28).rb fun slack29 =>
  (((((atT ends27 0).rb fun x30 => Res.ok (x30 - slack29)).rb fun x31 => Res.ok (max2 x31 0)).rb fun x36 => (((atT ends27 1).rb fun x32 => Res.ok (x32 + slack29)).rb fun x34 => ((streqT word22.k ("less")).rb fun c33 => if c33 = true then Res.ok 200 else Res.ok 999).rb fun x35 => Res.ok (min2 x34 x35)).rb fun x37 => Res.ok (x36, x37)).rb fun x38 => wSet word22 x38).rb fun x40 => (pushT s20 x40).rb fun words39 =>
  Res.ok (.nx (words39))) w84 ([])).rb fun o83 => after o83 (fun s41 =>
  ((Res.ok rows18).rb fun w47 => (cmpR (fun p42 : Int × (List Int) => (((Res.ok s41).rb fun w45 => (mapR (fun word43 : W => (lfolded_h_ti histogram4 p42.2).rb fun x44 => lsure_h_w x44 word43) w45).rb lenT).rb fun x46 => Res.ok (x46.all id)).rb fun b48 => if b48 = true then ((Res.ok p42.2 : Res (List Int))).rb fun y49 => Res.ok (some y49) else Res.ok none) w47).rb lenT).rb fun good50 =>
  ((fewest_borders_h_lw histogram4 s41).rb fun x52 => ((if (!decide (good50 = [])) = true then (atT good50 0).rb fun x51 => Res.ok (some x51) else Res.ok none)).rb fun x53 => Res.ok (!decide (x52 = x53))).rb fun c81 =>
  if c81 = true then
  Res.ok (.ret false)
  else
  ((Res.ok 1).rb fun n54 => (Res.ok ((p5.1.length : Int) - 1)).rb fun n55 => rngT n54 n55).rb fun w80 => (forT (ρ := Bool) (fun (s56 : List Int) (index57 : Int) =>
  (((appT (cut p5.1 none (some index57)) (cut p5.1 (some (index57 + 1)) none)).rb fun x58 => lfolded_h_ti histogram4 x58).rb fun x59 => lends_h x59).rb fun p60 =>
  (Res.ok (p60.2.sum - p60.1.sum)).rb fun x62 => (pushT s56 x62).rb fun losses61 =>
  Res.ok (.nx (losses61))) w80 ([])).rb fun o79 => after o79 (fun s63 =>
  (lends_h histogram4).rb fun p64 =>
  (Res.ok (!decide (s63 = []))).rb fun c77 => ((if c77 = true then
  ((((minT s63).rb fun x65 => indexT x65 s63).rb fun x66 => Res.ok (1 + x66)).rb fun x69 => (((minT s63).rb fun x67 => Res.ok (x67 - p64.2.sum)).rb fun x68 => Res.ok (x68 + p64.1.sum)).rb fun x70 => Res.ok (x69, x70)).rb fun due71 =>
  Res.ok (.nx ((some due71)))
  else
  Res.ok (.nx (none))) : Res (Stp (Option (Int × Int)) Bool)).rb fun o76 => after o76 (fun s72 =>
  ((least_loss_h histogram4).rb fun x73 => Res.ok (!decide (x73 = s72))).rb fun c74 =>
  if c74 = true then
  Res.ok (.ret false)
  else
  Res.ok (.nx ())) (fun r75 => Res.ok (.ret r75))) (fun r78 => Res.ok (.ret r78))) (fun r82 => Res.ok (.ret r82))) (fun r85 => Res.ok (.ret r85))) w106 ()).rb fun o105 => after o105 (fun s88 =>
  (Res.ok ([0, 5, 9, 12], [60, 50, 3])).rb fun full89 =>
  (((least_loss_h ([0, 5, 9], [60, 60])).rb fun x90 => Res.ok (!x90.isNone)).rb fun c92 => if c92 = true then Res.ok true else (fewest_borders_h_lw full89 []).rb fun x91 => Res.ok (!decide (x91 = (some [0, 5, 12])))).rb fun c103 =>
  if c103 = true then
  Res.ok false
  else
  (((coarsened_h_ti ([0, 5, 9], [30, 30]) [0, 9]).rb fun x93 => Res.ok (!decide (x93 = ([0, 9], [60])))).rb fun c97 => if c97 = true then Res.ok true else ((least_loss_h full89).rb fun x95 => optE x95 Res.bad (fun v94 => Res.ok v94.1)).rb fun x96 => Res.ok (!decide (x96 = 2))).rb fun c102 =>
  if c102 = true then
  Res.ok false
  else
  (((repT ([(W.mk "sum" [0, 9999])]) 6).rb fun x98 => fewest_borders_h_lw ([0, 5, 9, 12], [3, 50, 60]) x98).rb fun x99 => Res.ok (!decide (x99 = (some [0, 9, 12])))).rb fun c101 =>
  if c101 = true then
  Res.ok false
  else
  (least_loss_h ([0, 50, 51, 52], [3, 50, 60])).rb fun x100 => Res.ok (decide (x100 = (some (1, 2503))))) (fun r104 => Res.ok r104)
end Y
-- K36_Y
set_option Elab.async false
set_option linter.all false
set_option maxRecDepth 100000
set_option maxHeartbeats 4000000
/-! the pure forms of K36 refine the typed functions (printed by tgen.py) -/
namespace K36
open PL Y
theorem lpick_z_i_i_ok (m : Nat) (script0 : List Int) (k0 : Int) (many0 : Int) : Rf (run T (m + 1) 26 [eSc script0, eI k0, eI many0]) (Y.lpick_z_i_i script0 k0 many0) eI :=
  fn_of (f := f26) (m := m + 0) rfl rfl (by
    show Cor _ (Y.lpick_z_i_i script0 k0 many0) ((execs (run T (m + 0)) f26.body [.sh (eSc script0), .sh (eI k0), .sh (eI many0), .no, .no, .no, .no]).th .nx)
    unfold Y.lpick_z_i_i
    exact (s_asg (enc := eI) (es_f (y_ife_p (p_cmp (p_var (x := eSc script0) rfl) (p_lst p_nil rfl) (o_scrne _)) (y_ix (b_p (p_var (x := eSc script0) rfl) (b_m (y_bin (b_p (p_var (x := eI k0) rfl) (b_p (p_bi (p_cons (p_var (x := eSc script0) rfl) p_nil) (o_lenS _)) ((o_mod _ _))))) (fun x1 => (o_ixS _ _))))) (Rf.ok (a := 0) (e := eI) p_con))) (fun cell2 =>
    (s_par (ds := (fun p3 : Int × Int => [eI p3.1, eI p3.2])) (E1 := fun p3 => [.sh (eSc script0), .sh (eI k0), .sh (eI many0), .sh (eI cell2), .sh (eI p3.1), .sh (eI p3.2), .no]) rfl (args_id (a_p (p_bin (p_var (x := eI cell2) rfl) (p_bin p_con p_con rfl) (o_fdivc _ _ rfl)) (a_m (y_bin (b_p (p_var (x := eI k0) rfl) (b_p (p_bi (p_cons (p_bi (p_cons (p_var (x := eSc script0) rfl) p_nil) (o_lenS _)) (p_cons p_con p_nil)) (o_max2 _ _)) ((o_fdiv _ _))))) (fun x4 => a_nil (Rf.ok (a := ((cell2 / 1000000000000000000), x4)) rfl))))) (fun _ => rfl) (fun p3 =>
    (s_whl (er := eI) (fr := false) (E := (fun s5 : Int × Int => [.sh (eSc script0), .sh (eI k0), .sh (eI many0), .sh (eI cell2), .sh (eI s5.1), .sh (eI s5.2), .no])) (kw rfl) (fun s5 => (Rf.ok (a := ((decide (0 < s5.1)) && (decide (0 < s5.2)))) (e := eB) (p_and (p_cmp (p_var (x := eI s5.1) rfl) p_con (o_gt _ _)) (p_cmp (p_var (x := eI s5.2) rfl) p_con (o_gt _ _))))) (fun s5 =>
    (s_par_p (E1 := [.sh (eSc script0), .sh (eI k0), .sh (eI many0), .sh (eI cell2), .sh (eI (s5.1 / 840)), .sh (eI (s5.2 - 1)), .no]) rfl (p_cons (p_bin (p_var (x := eI s5.1) rfl) p_con (o_fdivc _ _ rfl)) (p_cons (p_bin (p_var (x := eI s5.2) rfl) p_con (o_sub _ _)) p_nil)) rfl (s_end (l_nxw rfl)))) (fun s6 =>
    (s_ite_p (p_cmp (p_var (x := eI s6.1) rfl) p_con (o_gt _ _))
    (s_retm (y_bin (b_p (p_bin (p_var (x := eI s6.1) rfl) p_con (o_modc _ _ rfl)) (b_p (p_var (x := eI many0) rfl) ((o_mod _ _))))) rfl)
    (s_end (s_asg (enc := eI) (es_f (Rf.ok (a := ((((cell2 * 31) + (6151 * (k0 + 1))) * 40692) % 2147483399)) (e := eI) (p_bin (p_bin (p_bin (p_bin (p_var (x := eI cell2) rfl) p_con (o_mulr _ _ rfl)) (p_bin p_con (p_bin (p_var (x := eI k0) rfl) p_con (o_add _ _)) (o_mull _ _ rfl)) (o_add _ _)) p_con (o_mulr _ _ rfl)) p_con (o_modc _ _ rfl)))) (fun drawn7 =>
    (s_retm (y_bin (b_m (y_bin (b_m (y_bin (b_m (y_bin (b_p (p_var (x := eI drawn7) rfl) (b_p (p_var (x := eI drawn7) rfl) ((o_mul _ _))))) (fun x8 => b_p (p_bin (p_var (x := eI drawn7) rfl) p_con (o_fdivc _ _ rfl)) ((Rf.ok (a := (x8 + (drawn7 / 31))) (e := eI) (o_add _ _)))))) (fun x9 => b_p p_con ((Rf.ok (a := (x9 % 2147483629)) (e := eI) (o_modc _ _ rfl)))))) (fun x10 => b_p (p_var (x := eI many0) rfl) ((o_mod _ _))))) rfl)))))) (fun _ _ h => cw_ret rfl h)))))))
theorem lborders_z_i_i_ok (m : Nat) (script0 : List Int) (place0 : Int) (most0 : Int) : Rf (run T (m + 2) 27 [eSc script0, eI place0, eI most0]) (Y.lborders_z_i_i script0 place0 most0) (eT eI) :=
  fn_of (f := f27) (m := m + 1) rfl rfl (by
    show Cor _ (Y.lborders_z_i_i script0 place0 most0) ((execs (run T (m + 1)) f27.body [.sh (eSc script0), .sh (eI place0), .sh (eI most0), .no, .no, .no]).th .nx)
    unfold Y.lborders_z_i_i
    exact (s_asg (enc := eI) (es_f (y_ix (b_p (ty_p (e := (eT eI)) (x := [0, 0, 3, 960]) (p_tup (p_cons p_con (p_cons p_con (p_cons p_con (p_cons p_con p_nil)))) rfl)) (b_m (y_call (a_p (p_var (x := eSc script0) rfl) (a_p (p_var (x := eI place0) rfl) (a_p p_con (a_nil (lpick_z_i_i_ok (m + 0) script0 place0 4)))))) (fun x1 => (o_ixT _ _)))))) (fun at2 =>
    (s_own_p (enc := eI) (xs := [at2]) rfl (es_fp (ty_p (e := (eL eI)) (x := [at2]) (p_lst (p_cons (p_var (x := eI at2) rfl) p_nil) rfl))) (s_for (er := (eT eI)) (fr := false) (E := (fun s5 : Int × (List Int) => [.sh (eSc script0), .sh (eI place0), .sh (eI most0), .sh (eI s5.1), .own (List.map eI s5.2), .no])) (E1 := fun s5 i6 => [.sh (eSc script0), .sh (eI place0), .sh (eI most0), .sh (eI s5.1), .own (List.map eI s5.2), .sh (eI i6)]) (i_r1 (y_bin (b_p p_con (b_m (y_call (a_p (p_var (x := eSc script0) rfl) (a_p (p_bin (p_var (x := eI place0) rfl) p_con (o_add _ _)) (a_p (p_var (x := eI most0) rfl) (a_nil (lpick_z_i_i_ok (m + 0) script0 (place0 + 1) most0)))))) (fun x3 => (Rf.ok (a := (1 + x3)) (e := eI) (o_add _ _))))))) (kw rfl) (fun _ _ => rfl) (fun s5 i6 =>
    (s_asg (enc := eI) (es_f (y_bin (b_p (p_bin (p_var (x := eI s5.1) rfl) p_con (o_add _ _)) (b_m (y_call (a_p (p_var (x := eSc script0) rfl) (a_p (p_bin (p_bin (p_var (x := eI place0) rfl) p_con (o_add _ _)) (p_var (x := eI i6) rfl) (o_add _ _)) (a_m (y_ix (b_p (ty_p (e := (eT eI)) (x := [2, 5, 9]) (p_tup (p_cons p_con (p_cons p_con (p_cons p_con p_nil))) rfl)) (b_m (y_call (a_p (p_var (x := eSc script0) rfl) (a_p (p_bin (p_var (x := eI place0) rfl) p_con (o_add _ _)) (a_p p_con (a_nil (lpick_z_i_i_ok (m + 0) script0 (place0 + 12) 3)))))) (fun x7 => (o_ixT _ _))))) (fun x8 => a_nil (lpick_z_i_i_ok (m + 0) script0 ((place0 + 2) + i6) x8)))))) (fun x9 => (Rf.ok (a := ((s5.1 + 1) + x9)) (e := eI) (o_add _ _))))))) (fun at10 =>
    (s_app (enc := eI) (xs := s5.2) rfl (es_f (Rf.ok (a := (min2 at10 1000)) (e := eI) (p_bi (p_cons (p_var (x := eI at10) rfl) (p_cons p_con p_nil)) (o_min2 _ _)))) (fun found11 =>
    (s_end (l_nxw rfl))))))) (fun s13 =>
    (s_retm (y_bi (a_m (y_ss (b_p (p_var (x := (eL eI) s13.2) rfl) ((o_ssL _)))) (fun x14 => a_nil (Rf.ok (a := x14) (e := (eT eI)) (o_tupleL _))))) rfl)) (fun _ _ h => cw_ret rfl h))))))
theorem lhistogram_z_i_i_ok (m : Nat) (script0 : List Int) (place0 : Int) (most0 : Int) : Rf (run T (m + 3) 28 [eSc script0, eI place0, eI most0]) (Y.lhistogram_z_i_i script0 place0 most0) (eP (eT eI) (eT eI)) :=
  fn_of (f := f28) (m := m + 2) rfl rfl (by
    show Cor _ (Y.lhistogram_z_i_i script0 place0 most0) ((execs (run T (m + 2)) f28.body [.sh (eSc script0), .sh (eI place0), .sh (eI most0), .no, .no, .no]).th .nx)
    unfold Y.lhistogram_z_i_i
    exact (s_asg (enc := (eT eI)) (es_f (y_call (a_p (p_var (x := eSc script0) rfl) (a_p (p_var (x := eI place0) rfl) (a_p (p_var (x := eI most0) rfl) (a_nil (lborders_z_i_i_ok (m + 0) script0 place0 most0))))))) (fun borders1 =>
    (s_asg (enc := (eL eI)) (es_f (c_m (eb := eI) (f := fun i3 : Int => (lpick_z_i_i script0 ((place0 + 13) + i3) 6).rb fun x4 => atT [0, 1, 2, 1, 3, 4] x4) (E1 := (fun i3 : Int => [some (eSc script0), some (eI place0), some (eI most0), some ((eT eI) borders1), none, some (eI i3)])) (i_r1 (Rf.ok (a := ((borders1.length : Int) - 1)) (e := eI) (p_bin (p_bi (p_cons (p_var (x := (eT eI) borders1) rfl) p_nil) (o_lenT _)) p_con (o_sub _ _)))) (fun _ => rfl) (fun i3 => (y_ix (b_p (ty_p (e := (eT eI)) (x := [0, 1, 2, 1, 3, 4]) (p_tup (p_cons p_con (p_cons p_con (p_cons p_con (p_cons p_con (p_cons p_con (p_cons p_con p_nil)))))) rfl)) (b_m (y_call (a_p (p_var (x := eSc script0) rfl) (a_p (p_bin (p_bin (p_var (x := eI place0) rfl) p_con (o_add _ _)) (p_var (x := eI i3) rfl) (o_add _ _)) (a_p p_con (a_nil (lpick_z_i_i_ok (m + 1) script0 ((place0 + 13) + i3) 6)))))) (fun x4 => (o_ixT _ _)))))))) (fun counts6 =>
    (s_ret_p (ty_p (e := (eP (eT eI) (eT eI))) (x := (borders1, counts6)) (p_tup (p_cons (p_var (x := (eT eI) borders1) rfl) (p_cons (p_bi (p_cons (p_var (x := (eL eI) counts6) rfl) p_nil) (o_tupleL _)) p_nil)) rfl)) (w_ret rfl rfl)))))))
theorem lstatement_z_i_i_ok (m : Nat) (script0 : List Int) (place0 : Int) (many0 : Int) : Rf (run T (m + 2) 29 [eSc script0, eI place0, eI many0]) (Y.lstatement_z_i_i script0 place0 many0) eW :=
  fn_of (f := f29) (m := m + 1) rfl rfl (by
    show Cor _ (Y.lstatement_z_i_i script0 place0 many0) ((execs (run T (m + 1)) f29.body [.sh (eSc script0), .sh (eI place0), .sh (eI many0), .no, .no, .no, .no]).th .nx)
    unfold Y.lstatement_z_i_i
    exact (s_asg (enc := eI) (es_f (y_call (a_p (p_var (x := eSc script0) rfl) (a_p (p_var (x := eI place0) rfl) (a_p p_con (a_nil (lpick_z_i_i_ok (m + 0) script0 place0 3))))))) (fun kind1 =>
    (s_par (ds := (fun p2 : Int × Int => [eI p2.1, eI p2.2])) (E1 := fun p2 => [.sh (eSc script0), .sh (eI place0), .sh (eI many0), .sh (eI kind1), .sh (eI p2.1), .sh (eI p2.2), .no]) rfl (args_id (a_m (y_call (a_p (p_var (x := eSc script0) rfl) (a_p (p_bin (p_var (x := eI place0) rfl) p_con (o_add _ _)) (a_p p_con (a_nil (lpick_z_i_i_ok (m + 0) script0 (place0 + 1) 40)))))) (fun x3 => a_m (y_call (a_p (p_var (x := eSc script0) rfl) (a_p (p_bin (p_var (x := eI place0) rfl) p_con (o_add _ _)) (a_p p_con (a_nil (lpick_z_i_i_ok (m + 0) script0 (place0 + 2) 30)))))) (fun x4 => a_nil (Rf.ok (a := (x3, x4)) rfl))))) (fun _ => rfl) (fun p2 =>
    (s_ite_p (p_and (p_cmp (p_var (x := eI kind1) rfl) p_con (o_eq eqe_I (by decide) _ _)) (p_cmp (p_var (x := eI many0) rfl) p_con (o_gt _ _)))
    (s_retm (y_tup (a_p p_con (a_m (y_bin (b_p p_con (b_m (y_call (a_p (p_var (x := eSc script0) rfl) (a_p (p_bin (p_var (x := eI place0) rfl) p_con (o_add _ _)) (a_p (p_var (x := eI many0) rfl) (a_nil (lpick_z_i_i_ok (m + 0) script0 (place0 + 3) many0)))))) (fun x7 => (Rf.ok (a := (1 + x7)) (e := eI) (o_add _ _)))))) (fun x8 => a_p (p_var (x := eI p2.1) rfl) (a_p (p_bin (p_var (x := eI p2.1) rfl) (p_var (x := eI p2.2) rfl) (o_add _ _)) (a_nil (Rf.ok (a := (W.mk "rank" [x8, p2.1, (p2.1 + p2.2)])) (e := eW) (o_okT rfl)))))))) rfl)
    (s_end (s_ite_p (p_cmp (p_var (x := eI kind1) rfl) p_con (o_eq eqe_I (by decide) _ _))
    (s_asg (enc := eI) (es_f (y_call (a_p (p_var (x := eSc script0) rfl) (a_p (p_bin (p_var (x := eI place0) rfl) p_con (o_add _ _)) (a_p (p_bin (p_var (x := eI many0) rfl) p_con (o_add _ _)) (a_nil (lpick_z_i_i_ok (m + 0) script0 (place0 + 4) (many0 + 1)))))))) (fun least9 =>
    (s_retm (y_tup (a_p p_con (a_m (y_call (a_p (p_var (x := eSc script0) rfl) (a_p (p_bin (p_var (x := eI place0) rfl) p_con (o_add _ _)) (a_p p_con (a_nil (lpick_z_i_i_ok (m + 0) script0 (place0 + 5) 50)))))) (fun x14 => a_p (p_var (x := eI least9) rfl) (a_m (y_bin (b_p (p_var (x := eI least9) rfl) (b_m (y_call (a_p (p_var (x := eSc script0) rfl) (a_p (p_bin (p_var (x := eI place0) rfl) p_con (o_add _ _)) (a_p p_con (a_nil (lpick_z_i_i_ok (m + 0) script0 (place0 + 6) 6)))))) (fun x13 => (Rf.ok (a := (least9 + x13)) (e := eI) (o_add _ _)))))) (fun x15 => a_nil (Rf.ok (a := (W.mk "less" [x14, least9, x15])) (e := eW) (o_okT rfl)))))))) rfl)))
    (s_end (s_asg (enc := eI) (es_f (y_bin (b_m (y_call (a_p (p_var (x := eSc script0) rfl) (a_p (p_bin (p_var (x := eI place0) rfl) p_con (o_add _ _)) (a_p p_con (a_nil (lpick_z_i_i_ok (m + 0) script0 (place0 + 7) 60)))))) (fun x16 => b_m (y_call (a_p (p_var (x := eSc script0) rfl) (a_p (p_bin (p_var (x := eI place0) rfl) p_con (o_add _ _)) (a_p p_con (a_nil (lpick_z_i_i_ok (m + 0) script0 (place0 + 8) 5)))))) (fun x17 => (o_mul _ _)))))) (fun low18 =>
    (s_ret_p (ty_p (e := eW) (x := (W.mk "sum" [low18, (low18 + (p2.2 * 10))])) (p_tup (p_cons p_con (p_cons (p_var (x := eI low18) rfl) (p_cons (p_bin (p_var (x := eI low18) rfl) (p_bin (p_var (x := eI p2.2) rfl) p_con (o_mulr _ _ rfl)) (o_add _ _)) p_nil))) rfl)) (w_ret rfl rfl)))))))))))))
theorem lends_h_ok (m : Nat) (histogram0 : (List Int) × (List Int)) : Rf (run T (m + 1) 23 [(eP (eT eI) (eT eI)) histogram0]) (Y.lends_h histogram0) (eP (eL eI) (eL eI)) :=
  fn_of (f := f23) (m := m + 0) rfl rfl (by
    show Cor _ (Y.lends_h histogram0) ((execs (run T (m + 0)) f23.body [.sh ((eP (eT eI) (eT eI)) histogram0), .no, .no, .no, .no, .no]).th .nx)
    unfold Y.lends_h
    exact (s_tp_p (E1 := [.sh ((eP (eT eI) (eT eI)) histogram0), .sh ((eT eI) histogram0.1), .sh ((eT eI) histogram0.2), .no, .no, .no]) (es_fp (p_var (x := (eP (eT eI) (eT eI)) histogram0) rfl)) rfl (s_par_p (E1 := [.sh ((eP (eT eI) (eT eI)) histogram0), .sh ((eT eI) histogram0.1), .sh ((eT eI) histogram0.2), .own (List.map eI []), .own (List.map eI []), .no]) rfl (p_cons (ty_p (e := (eL eI)) (x := []) (p_lst p_nil rfl)) (p_cons (ty_p (e := (eL eI)) (x := []) (p_lst p_nil rfl)) p_nil)) rfl (s_for (er := (eP (eL eI) (eL eI))) (fr := false) (E := (fun s2 : (List Int) × (List Int) => [.sh ((eP (eT eI) (eT eI)) histogram0), .sh ((eT eI) histogram0.1), .sh ((eT eI) histogram0.2), .own (List.map eI s2.1), .own (List.map eI s2.2), .no])) (E1 := fun s2 i3 => [.sh ((eP (eT eI) (eT eI)) histogram0), .sh ((eT eI) histogram0.1), .sh ((eT eI) histogram0.2), .own (List.map eI s2.1), .own (List.map eI s2.2), .sh (eI i3)]) (i_r1 (Rf.ok (a := (histogram0.2.length : Int)) (e := eI) (p_bi (p_cons (p_var (x := (eT eI) histogram0.2) rfl) p_nil) (o_lenT _)))) (kw rfl) (fun _ _ => rfl) (fun s2 i3 =>
    (s_ext (enc := eI) (xs := s2.1) rfl (es_f (y_bin (b_m (y_lst (a_m (y_ix (b_p (p_var (x := (eT eI) histogram0.1) rfl) (b_p (p_var (x := eI i3) rfl) ((o_ixT _ _))))) (fun x4 => a_nil (Rf.ok (a := [x4]) (e := (eL eI)) (o_okL rfl))))) (fun x5 => b_m (y_ix (b_p (p_var (x := (eT eI) histogram0.2) rfl) (b_p (p_var (x := eI i3) rfl) ((o_ixT _ _))))) (fun x6 => (o_repL _ _)))))) (fun low7 =>
    (s_ext (enc := eI) (xs := s2.2) rfl (es_f (y_bin (b_m (y_lst (a_m (y_bin (b_m (y_ix (b_p (p_var (x := (eT eI) histogram0.1) rfl) (b_p (p_bin (p_var (x := eI i3) rfl) p_con (o_add _ _)) ((o_ixT _ _))))) (fun x9 => b_p p_con ((Rf.ok (a := (x9 - 1)) (e := eI) (o_sub _ _)))))) (fun x10 => a_nil (Rf.ok (a := [x10]) (e := (eL eI)) (o_okL rfl))))) (fun x11 => b_m (y_ix (b_p (p_var (x := (eT eI) histogram0.2) rfl) (b_p (p_var (x := eI i3) rfl) ((o_ixT _ _))))) (fun x12 => (o_repL _ _)))))) (fun high13 =>
    (s_end (l_nxw rfl))))))) (fun s15 =>
    (s_ret_p (ty_p (e := (eP (eL eI) (eL eI))) (x := (s15.1, s15.2)) (p_tup (p_cons (p_var (x := (eL eI) s15.1) rfl) (p_cons (p_var (x := (eL eI) s15.2) rfl) p_nil)) rfl)) (w_ret rfl rfl))) (fun _ _ h => cw_ret rfl h)))))
theorem lnumber_li_w_ok (m : Nat) (data0 : List Int) (statement0 : W) : Rf (run T (m + 1) 24 [(eL eI) data0, eW statement0]) (Y.lnumber_li_w data0 statement0) eI :=
  fn_of (f := f24) (m := m + 0) rfl rfl (by
    show Cor _ (Y.lnumber_li_w data0 statement0) ((execs (run T (m + 0)) f24.body [.sh ((eL eI) data0), .sh (eW statement0), .no]).th .nx)
    unfold Y.lnumber_li_w
    exact (s_ite (y_cmp (b_p (p_ix (p_var (x := eW statement0) rfl) p_con (o_W0 _)) (b_p p_con ((o_streq _ _)))))
    (s_retm (y_ix (b_p (p_var (x := (eL eI) data0) rfl) (b_m (y_bin (b_m (y_ix (b_p (p_var (x := eW statement0) rfl) (b_p p_con ((o_w1T _))))) (fun x1 => b_p p_con ((Rf.ok (a := (x1 - 1)) (e := eI) (o_sub _ _)))))) (fun x2 => (o_ixL _ _))))) rfl)
    (s_end (s_ite (y_cmp (b_p (p_ix (p_var (x := eW statement0) rfl) p_con (o_W0 _)) (b_p p_con ((o_streq _ _)))))
    (s_retm (y_bi (a_m (c_mm (eb := eI) (f := fun value3 : Int => Res.ok value3) (p := fun value3 : Int => (w1T statement0).rb fun x4 => Res.ok (decide (value3 < x4))) (E1 := (fun value3 : Int => [some ((eL eI) data0), some (eW statement0), some (eI value3)])) (i_exL (e := eI) (Rf.ok (a := data0) (e := (eL eI)) (p_var (x := (eL eI) data0) rfl))) (fun _ => rfl) (fun value3 => (y_cmp (b_p (p_var (x := eI value3) rfl) (b_m (y_ix (b_p (p_var (x := eW statement0) rfl) (b_p p_con ((o_w1T _))))) (fun x4 => (Rf.ok (a := (decide (value3 < x4))) (e := eB) (o_lt _ _))))))) (fun value3 => (Rf.ok (a := value3) (e := eI) (p_var (x := eI value3) rfl)))) (fun x8 => a_nil (Rf.ok (a := (x8.length : Int)) (e := eI) (o_lenL _))))) rfl)
    (s_end (s_ret_p (p_bi (p_cons (p_var (x := (eL eI) data0) rfl) p_nil) (o_sumL _)) (w_ret rfl rfl)))))))
theorem lfolded_h_ti_ok (m : Nat) (histogram0 : (List Int) × (List Int)) (borders0 : List Int) : Rf (run T (m + 1) 30 [(eP (eT eI) (eT eI)) histogram0, (eT eI) borders0]) (Y.lfolded_h_ti histogram0 borders0) (eP (eT eI) (eT eI)) :=
  fn_of (f := f30) (m := m + 0) rfl rfl (by
    show Cor _ (Y.lfolded_h_ti histogram0 borders0) ((execs (run T (m + 0)) f30.body [.sh ((eP (eT eI) (eT eI)) histogram0), .sh ((eT eI) borders0), .no, .no, .no, .no, .no, .no]).th .nx)
    unfold Y.lfolded_h_ti
    exact (s_own_p (enc := eI) (xs := []) rfl (es_fp (ty_p (e := (eL eI)) (x := []) (p_lst p_nil rfl))) (s_for (er := (eP (eT eI) (eT eI))) (fr := false) (E := (fun s3 : List Int => [.sh ((eP (eT eI) (eT eI)) histogram0), .sh ((eT eI) borders0), .own (List.map eI s3), .no, .no, .no, .no, .no])) (E1 := fun s3 p4 => [.sh ((eP (eT eI) (eT eI)) histogram0), .sh ((eT eI) borders0), .own (List.map eI s3), .sh (eI p4.1), .sh (eI p4.2), .no, .no, .no]) (i_z2 (e := eI) (g := eI) o_zTT (Rf.ok (a := borders0) (e := (eT eI)) (p_var (x := (eT eI) borders0) rfl)) (Rf.ok (a := (cut borders0 (some 1) none)) (e := (eT eI)) (p_sl (p_var (x := (eT eI) borders0) rfl) (po_so p_con) po_no (o_slT _ _ _)))) (kw rfl) (fun _ _ => rfl) (fun s3 p4 =>
    (s_asg (enc := (eL eI)) (es_f (c_pf (eb := eI) (f := fun p7 : Int × Int => p7.2) (p := fun p7 : Int × Int => ((decide (p4.1 ≤ p7.1)) && (decide (p7.1 < p4.2)))) (E1 := (fun p7 : Int × Int => [some ((eP (eT eI) (eT eI)) histogram0), some ((eT eI) borders0), none, some (eI p4.1), some (eI p4.2), none, some (eI p7.1), some (eI p7.2)])) (i_z2 (e := eI) (g := eI) o_zTT (Rf.ok (a := histogram0.1) (e := (eT eI)) (ty_p (e := (eT eI)) (x := histogram0.1) (p_ix (p_var (x := (eP (eT eI) (eT eI)) histogram0) rfl) p_con rfl))) (Rf.ok (a := histogram0.2) (e := (eT eI)) (ty_p (e := (eT eI)) (x := histogram0.2) (p_ix (p_var (x := (eP (eT eI) (eT eI)) histogram0) rfl) p_con rfl)))) (fun _ => rfl) (fun p7 => (p_and (p_cmp (p_var (x := eI p4.1) rfl) (p_var (x := eI p7.1) rfl) (o_le _ _)) (p_cmp (p_var (x := eI p7.1) rfl) (p_var (x := eI p4.2) rfl) (o_lt _ _)))) (fun p7 => (p_var (x := eI p7.2) rfl)))) (fun marks9 =>
    (s_app (enc := eI) (xs := s3) rfl (es_f (Rf.ok (a := marks9.sum) (e := eI) (p_bi (p_cons (p_var (x := (eL eI) marks9) rfl) p_nil) (o_sumL _)))) (fun counts10 =>
    (s_end (l_nxw rfl))))))) (fun s12 =>
    (s_ret_p (ty_p (e := (eP (eT eI) (eT eI))) (x := (borders0, s12)) (p_tup (p_cons (p_var (x := (eT eI) borders0) rfl) (p_cons (p_bi (p_cons (p_var (x := (eL eI) s12) rfl) p_nil) (o_tupleL _)) p_nil)) rfl)) (w_ret rfl rfl))) (fun _ _ h => cw_ret rfl h))))
theorem ltrue_li_w_ok (m : Nat) (data0 : List Int) (statement0 : W) : Rf (run T (m + 2) 25 [(eL eI) data0, eW statement0]) (Y.ltrue_li_w data0 statement0) eB :=
  fn_of (f := f25) (m := m + 1) rfl rfl (by
    show Cor _ (Y.ltrue_li_w data0 statement0) ((execs (run T (m + 1)) f25.body [.sh ((eL eI) data0), .sh (eW statement0), .no]).th .nx)
    unfold Y.ltrue_li_w
    exact (s_asg (enc := eI) (es_f (y_call (a_p (p_var (x := (eL eI) data0) rfl) (a_p (p_var (x := eW statement0) rfl) (a_nil (lnumber_li_w_ok (m + 0) data0 statement0)))))) (fun number1 =>
    (s_retm (y_and_m (y_cmp (b_m (y_ix (b_p (p_var (x := eW statement0) rfl) (b_p (p_neg p_con) ((o_wkT _))))) (fun x2 => b_p (p_var (x := eI number1) rfl) ((Rf.ok (a := (decide (x2 ≤ number1))) (e := eB) (o_le _ _)))))) (y_cmp (b_p (p_var (x := eI number1) rfl) (b_m (y_ix (b_p (p_var (x := eW statement0) rfl) (b_p (p_neg p_con) ((o_wlT _))))) (fun x3 => (Rf.ok (a := (decide (number1 ≤ x3))) (e := eB) (o_le _ _))))))) rfl))))
theorem lsure_h_w_ok (m : Nat) (histogram0 : (List Int) × (List Int)) (statement0 : W) : Rf (run T (m + 3) 31 [(eP (eT eI) (eT eI)) histogram0, eW statement0]) (Y.lsure_h_w histogram0 statement0) eB :=
  fn_of (f := f31) (m := m + 2) rfl rfl (by
    show Cor _ (Y.lsure_h_w histogram0 statement0) ((execs (run T (m + 2)) f31.body [.sh ((eP (eT eI) (eT eI)) histogram0), .sh (eW statement0), .no, .no]).th .nx)
    unfold Y.lsure_h_w
    exact (s_tp (E1 := fun p1 => [.sh ((eP (eT eI) (eT eI)) histogram0), .sh (eW statement0), .sh ((eL eI) p1.1), .sh ((eL eI) p1.2)]) (es_f (y_call (a_p (p_var (x := (eP (eT eI) (eT eI)) histogram0) rfl) (a_nil (lends_h_ok (m + 1) histogram0))))) (fun _ => rfl) (fun p1 =>
    (s_retm (y_and_m (y_call (a_p (p_var (x := (eL eI) p1.1) rfl) (a_p (p_var (x := eW statement0) rfl) (a_nil (ltrue_li_w_ok (m + 0) p1.1 statement0))))) (y_call (a_p (p_var (x := (eL eI) p1.2) rfl) (a_p (p_var (x := eW statement0) rfl) (a_nil (ltrue_li_w_ok (m + 0) p1.2 statement0)))))) rfl))))
theorem is_int_i_i_i_ok (m : Nat) (value0 : Int) (least0 : Int) (most0 : Int) : Rf (run T (m + 1) 0 [eI value0, eI least0, eI most0]) (Y.is_int_i_i_i value0 least0 most0) eB :=
  fn_of (f := f0) (m := m + 0) rfl rfl (by
    show Cor _ (Y.is_int_i_i_i value0 least0 most0) ((execs (run T (m + 0)) f0.body [.sh (eI value0), .sh (eI least0), .sh (eI most0)]).th .nx)
    unfold Y.is_int_i_i_i
    exact (s_ret_p (and_t (p_isI (p := true) (p_var (x := eI value0) rfl) rfl) (and_t (p_not (p := false) (p_isI (p := false) (p_var (x := eI value0) rfl) rfl)) (p_chain (p_var (x := eI least0) rfl) (p_var (x := eI value0) rfl) (p_var (x := eI most0) rfl) (o_le _ _) (o_le _ _)))) (w_ret rfl rfl)))
theorem are_borders_ti_ok (m : Nat) (candidate0 : List Int) : Rf (run T (m + 2) 1 [(eT eI) candidate0]) (Y.are_borders_ti candidate0) eB :=
  fn_of (f := f1) (m := m + 1) rfl rfl (by
    show Cor _ (Y.are_borders_ti candidate0) ((execs (run T (m + 1)) f1.body [.sh ((eT eI) candidate0), .no, .no, .no]).th .nx)
    unfold Y.are_borders_ti
    exact (s_ite_p (or_f (p_not (p := true) (p_isI (p := true) (p_var (x := (eT eI) candidate0) rfl) rfl)) (p_not (p_chain p_con (p_bi (p_cons (p_var (x := (eT eI) candidate0) rfl) p_nil) (o_lenT _)) p_gl (o_le _ _) (o_le _ _))))
    (s_ret_p p_con (w_ret rfl rfl))
    (s_end (s_ite (y_not (b_m (y_bi (a_m (c_m (eb := eB) (f := fun border1 : Int => is_int_i_i_i border1 0 1000) (E1 := (fun border1 : Int => [some ((eT eI) candidate0), none, none, some (eI border1)])) (i_exT (e := eI) (Rf.ok (a := candidate0) (e := (eT eI)) (p_var (x := (eT eI) candidate0) rfl))) (fun _ => rfl) (fun border1 => (y_call (a_p (p_var (x := eI border1) rfl) (a_p p_con (a_p p_gl (a_nil (is_int_i_i_i_ok (m + 0) border1 0 1000)))))))) (fun x3 => a_nil (Rf.ok (a := (x3.all id)) (e := eB) (o_all _))))) (fun x4 => (Rf.ok (a := (!x4)) (e := eB) rfl))))
    (s_ret_p p_con (w_ret rfl rfl))
    (s_end (s_retm (y_bi (a_m (c_p (eb := eB) (f := fun p7 : Int × Int => (decide (p7.1 < p7.2))) (E1 := (fun p7 : Int × Int => [some ((eT eI) candidate0), some (eI p7.1), some (eI p7.2), none])) (i_z2 (e := eI) (g := eI) o_zTT (Rf.ok (a := candidate0) (e := (eT eI)) (p_var (x := (eT eI) candidate0) rfl)) (Rf.ok (a := (cut candidate0 (some 1) none)) (e := (eT eI)) (p_sl (p_var (x := (eT eI) candidate0) rfl) (po_so p_con) po_no (o_slT _ _ _)))) (fun _ => rfl) (fun p7 => (p_cmp (p_var (x := eI p7.1) rfl) (p_var (x := eI p7.2) rfl) (o_lt _ _)))) (fun x9 => a_nil (Rf.ok (a := (x9.all id)) (e := eB) (o_all _))))) rfl))))))
theorem is_histogram_h_ok (m : Nat) (candidate0 : (List Int) × (List Int)) : Rf (run T (m + 3) 2 [(eP (eT eI) (eT eI)) candidate0]) (Y.is_histogram_h candidate0) eB :=
  fn_of (f := f2) (m := m + 2) rfl rfl (by
    show Cor _ (Y.is_histogram_h candidate0) ((execs (run T (m + 2)) f2.body [.sh ((eP (eT eI) (eT eI)) candidate0), .no, .no, .no]).th .nx)
    unfold Y.is_histogram_h
    exact (s_ite (Rf.eq (or_f (p_not (p := true) (p_isI (p := true) (p_var (x := (eP (eT eI) (eT eI)) candidate0) rfl) rfl)) rfl) (Rf.eq (or_f (p_cmp (p_bi (p_cons (p_var (x := (eP (eT eI) (eT eI)) candidate0) rfl) p_nil) rfl) p_con rfl) rfl) (y_not (b_m (y_call (a_p (ty_p (e := (eT eI)) (x := candidate0.1) (p_ix (p_var (x := (eP (eT eI) (eT eI)) candidate0) rfl) p_con rfl)) (a_nil (are_borders_ti_ok (m + 0) candidate0.1)))) (fun x1 => (Rf.ok (a := (!x1)) (e := eB) rfl))))))
    (s_ret_p p_con (w_ret rfl rfl))
    (s_end (s_tp_p (E1 := [.sh ((eP (eT eI) (eT eI)) candidate0), .sh ((eT eI) candidate0.1), .sh ((eT eI) candidate0.2), .no]) (es_fp (p_var (x := (eP (eT eI) (eT eI)) candidate0) rfl)) rfl (s_ite_p (or_f (p_not (p := true) (p_isI (p := true) (p_var (x := (eT eI) candidate0.2) rfl) rfl)) (p_cmp (p_bi (p_cons (p_var (x := (eT eI) candidate0.2) rfl) p_nil) (o_lenT _)) (p_bin (p_bi (p_cons (p_var (x := (eT eI) candidate0.1) rfl) p_nil) (o_lenT _)) p_con (o_sub _ _)) (o_ne eqe_I (by decide) _ _)))
    (s_ret_p p_con (w_ret rfl rfl))
    (s_end (s_retm (y_and_m (y_bi (a_m (c_m (eb := eB) (f := fun count2 : Int => is_int_i_i_i count2 0 60) (E1 := (fun count2 : Int => [some ((eP (eT eI) (eT eI)) candidate0), some ((eT eI) candidate0.1), some ((eT eI) candidate0.2), some (eI count2)])) (i_exT (e := eI) (Rf.ok (a := candidate0.2) (e := (eT eI)) (p_var (x := (eT eI) candidate0.2) rfl))) (fun _ => rfl) (fun count2 => (y_call (a_p (p_var (x := eI count2) rfl) (a_p p_con (a_p p_gl (a_nil (is_int_i_i_i_ok (m + 1) count2 0 60)))))))) (fun x4 => a_nil (Rf.ok (a := (x4.all id)) (e := eB) (o_all _))))) (Rf.ok (a := (decide (candidate0.2.sum ≤ 200))) (e := eB) (p_cmp (p_bi (p_cons (p_var (x := (eT eI) candidate0.2) rfl) p_nil) (o_sumT _)) p_gl (o_le _ _)))) rfl)))))))
theorem check_histogram_h_ok (m : Nat) (value0 : (List Int) × (List Int)) : Rf (run T (m + 4) 4 [(eP (eT eI) (eT eI)) value0]) (Y.check_histogram_h value0) eN :=
  fn_of (f := f4) (m := m + 3) rfl rfl (by
    show Cor _ (Y.check_histogram_h value0) ((execs (run T (m + 3)) f4.body [.sh ((eP (eT eI) (eT eI)) value0)]).th .nx)
    unfold Y.check_histogram_h
    exact (s_ite (y_not (b_m (y_call (a_p (p_var (x := (eP (eT eI) (eT eI)) value0) rfl) (a_nil (is_histogram_h_ok (m + 0) value0)))) (fun x1 => (Rf.ok (a := (!x1)) (e := eB) rfl))))
    Cor.no
    (s_end (s_end (w_fall rfl rfl)))))
theorem size_of_h_ok (m : Nat) (histogram0 : (List Int) × (List Int)) : Rf (run T (m + 1) 5 [(eP (eT eI) (eT eI)) histogram0]) (Y.size_of_h histogram0) eI :=
  fn_of (f := f5) (m := m + 0) rfl rfl (by
    show Cor _ (Y.size_of_h histogram0) ((execs (run T (m + 0)) f5.body [.sh ((eP (eT eI) (eT eI)) histogram0)]).th .nx)
    unfold Y.size_of_h
    exact (s_ret_p (p_bi (p_cons (ty_p (e := (eT eI)) (x := histogram0.2) (p_ix (p_var (x := (eP (eT eI) (eT eI)) histogram0) rfl) p_con rfl)) p_nil) (o_sumT _)) (w_ret rfl rfl)))
theorem is_total_i_ok (m : Nat) (value0 : Int) : Rf (run T (m + 1) 12 [eI value0]) (Y.is_total_i value0) eB :=
  fn_of (f := f12) (m := m + 0) rfl rfl (by
    show Cor _ (Y.is_total_i value0) ((execs (run T (m + 0)) f12.body [.sh (eI value0)]).th .nx)
    unfold Y.is_total_i
    exact (s_ret_p (and_t (p_isI (p := true) (p_var (x := eI value0) rfl) rfl) (and_t (p_not (p := false) (p_isI (p := false) (p_var (x := eI value0) rfl) rfl)) (p_cmp (p_var (x := eI value0) rfl) p_con (o_ge _ _)))) (w_ret rfl rfl)))
theorem is_statement_for_i_w_ok (m : Nat) (many0 : Int) (candidate0 : W) : Rf (run T (m + 2) 13 [eI many0, eW candidate0]) (Y.is_statement_for_i_w many0 candidate0) eB :=
  fn_of (f := f13) (m := m + 1) rfl rfl (by
    show Cor _ (Y.is_statement_for_i_w many0 candidate0) ((execs (run T (m + 1)) f13.body [.sh (eI many0), .sh (eW candidate0), .no, .no]).th .nx)
    unfold Y.is_statement_for_i_w
    exact (s_ite (Rf.eq (or_f (p_not (p := true) (p_isI (p := true) (p_var (x := eW candidate0) rfl) rfl)) rfl) (y_or_m (y_cmp (b_p (ty_p (e := eD) (x := (eW candidate0)) (p_var (x := eW candidate0) rfl)) (b_p (ty_p (e := eD) (x := ((eT eI) [])) (ty_p (e := (eT eI)) (x := []) (p_tup p_nil rfl))) (o_rawB)))) (Rf.ok (a := false) (e := eB) (p_not (p := true) (p_isI (p := true) (p_ix (p_var (x := eW candidate0) rfl) p_con (o_W0 _)) rfl)))))
    (s_ret_p p_con (w_ret rfl rfl))
    (s_end (s_par_p (E1 := [.sh (eI many0), .sh (eW candidate0), .sh (eS candidate0.k), .sh ((eT eI) candidate0.a)]) rfl (p_cons (p_ix (p_var (x := eW candidate0) rfl) p_con (o_W0 _)) (p_cons (p_sl (p_var (x := eW candidate0) rfl) (po_so p_con) po_no (o_W1 _)) p_nil)) rfl (s_ite (y_and_m (y_cmp (b_p (p_var (x := eS candidate0.k) rfl) (b_p p_gl ((o_streq _ _))))) (Rf.ok (a := (decide ((candidate0.a.length : Int) = 3))) (e := eB) (p_cmp (p_bi (p_cons (p_var (x := (eT eI) candidate0.a) rfl) p_nil) (o_lenT _)) p_con (o_eq eqe_I (by decide) _ _))))
    (s_retm (y_and_m (y_call (a_m (y_ix (b_p (p_var (x := (eT eI) candidate0.a) rfl) (b_p p_con ((o_ixT _ _))))) (fun x3 => a_p p_con (a_p (p_var (x := eI many0) rfl) (a_nil (is_int_i_i_i_ok (m + 0) x3 1 many0)))))) (y_and_m (y_call (a_m (y_ix (b_p (p_var (x := (eT eI) candidate0.a) rfl) (b_p p_con ((o_ixT _ _))))) (fun x4 => a_p p_con (a_p p_gl (a_nil (is_int_i_i_i_ok (m + 0) x4 0 999)))))) (y_call (a_m (y_ix (b_p (p_var (x := (eT eI) candidate0.a) rfl) (b_p p_con ((o_ixT _ _))))) (fun x5 => a_p p_con (a_p p_gl (a_nil (is_int_i_i_i_ok (m + 0) x5 0 999)))))))) rfl)
    (s_end (s_ite (y_and_m (y_cmp (b_p (p_var (x := eS candidate0.k) rfl) (b_p p_gl ((o_streq _ _))))) (Rf.ok (a := (decide ((candidate0.a.length : Int) = 3))) (e := eB) (p_cmp (p_bi (p_cons (p_var (x := (eT eI) candidate0.a) rfl) p_nil) (o_lenT _)) p_con (o_eq eqe_I (by decide) _ _))))
    (s_retm (y_and_m (y_call (a_m (y_ix (b_p (p_var (x := (eT eI) candidate0.a) rfl) (b_p p_con ((o_ixT _ _))))) (fun x9 => a_p p_con (a_p p_gl (a_nil (is_int_i_i_i_ok (m + 0) x9 0 1000)))))) (y_and_m (y_call (a_m (y_ix (b_p (p_var (x := (eT eI) candidate0.a) rfl) (b_p p_con ((o_ixT _ _))))) (fun x10 => a_p p_con (a_p p_gl (a_nil (is_int_i_i_i_ok (m + 0) x10 0 200)))))) (y_call (a_m (y_ix (b_p (p_var (x := (eT eI) candidate0.a) rfl) (b_p p_con ((o_ixT _ _))))) (fun x11 => a_p p_con (a_p p_gl (a_nil (is_int_i_i_i_ok (m + 0) x11 0 200)))))))) rfl)
    (s_end (s_retm (y_and_m (y_cmp (b_p (p_var (x := eS candidate0.k) rfl) (b_p p_gl ((o_streq _ _))))) (y_and_p (p_cmp (p_bi (p_cons (p_var (x := (eT eI) candidate0.a) rfl) p_nil) (o_lenT _)) p_con (o_eq eqe_I (by decide) _ _)) (y_and_m (y_call (a_m (y_ix (b_p (p_var (x := (eT eI) candidate0.a) rfl) (b_p p_con ((o_ixT _ _))))) (fun x14 => a_nil (is_total_i_ok (m + 0) x14)))) (y_call (a_m (y_ix (b_p (p_var (x := (eT eI) candidate0.a) rfl) (b_p p_con ((o_ixT _ _))))) (fun x15 => a_nil (is_total_i_ok (m + 0) x15))))))) rfl)))))))))
theorem all_coarser_ti_ok (m : Nat) (borders0 : List Int) : Rf (run T (m + 1) 19 [(eT eI) borders0]) (Y.all_coarser_ti borders0) (eL (eT eI)) :=
  fn_of (f := f19) (m := m + 0) rfl rfl (by
    show Cor _ (Y.all_coarser_ti borders0) ((execs (run T (m + 0)) f19.body [.sh ((eT eI) borders0), .no, .no, .no, .no, .no]).th .nx)
    unfold Y.all_coarser_ti
    exact (s_asg_p (d := (eL (eT eI)) ([[]])) (es_fp (ty_p (e := (eL (eT eI))) (x := [[]]) (p_lst (p_cons (ty_p (e := (eT eI)) (x := []) (p_tup p_nil rfl)) p_nil) rfl))) (s_for (er := (eL (eT eI))) (fr := true) (E := (fun s1 : List (List Int) => [.sh ((eT eI) borders0), .sh ((eL (eT eI)) s1), .no, .no, .no, .no])) (E1 := fun s1 border2 => [.sh ((eT eI) borders0), .sh ((eL (eT eI)) s1), .sh (eI border2), .no, .no, .no]) (i_exT (e := eI) (Rf.ok (a := (cut borders0 (some 1) (some (-1)))) (e := (eT eI)) (p_sl (p_var (x := (eT eI) borders0) rfl) (po_so p_con) (po_so (p_neg p_con)) (o_slT _ _ _)))) (kw rfl) (fun _ _ => rfl) (fun s1 border2 =>
    (s_asg (enc := (eL (eT eI))) (es_f (y_bin (b_p (p_var (x := (eL (eT eI)) s1) rfl) (b_m (c_m (eb := (eT eI)) (f := fun inner3 : List Int => appT inner3 [border2]) (E1 := (fun inner3 : List Int => [some ((eT eI) borders0), some ((eL (eT eI)) s1), some (eI border2), none, none, some ((eT eI) inner3)])) (i_exL (e := (eT eI)) (Rf.ok (a := s1) (e := (eL (eT eI))) (p_var (x := (eL (eT eI)) s1) rfl))) (fun _ => rfl) (fun inner3 => (y_bin (b_p (p_var (x := (eT eI) inner3) rfl) (b_p (ty_p (e := (eT eI)) (x := [border2]) (p_tup (p_cons (p_var (x := eI border2) rfl) p_nil) rfl)) ((o_appT _ _))))))) (fun x5 => (o_appL _ _)))))) (fun found6 =>
    (s_end (l_nxw rfl))))) (fun s7 =>
    (s_asg (enc := (eL (eP eI (eT eI)))) (es_f (y_bi (a_m (c_m (eb := (eP eI (eT eI))) (f := fun inner8 : List Int => ((appT (cut borders0 none (some 1)) inner8).rb fun x9 => appT x9 (cut borders0 (some (-1)) none)).rb fun x10 => Res.ok ((inner8.length : Int), x10)) (E1 := (fun inner8 : List Int => [some ((eT eI) borders0), some ((eL (eT eI)) s7), none, none, none, some ((eT eI) inner8)])) (i_exL (e := (eT eI)) (Rf.ok (a := s7) (e := (eL (eT eI))) (p_var (x := (eL (eT eI)) s7) rfl))) (fun _ => rfl) (fun inner8 => (y_tup (a_p (p_bi (p_cons (p_var (x := (eT eI) inner8) rfl) p_nil) (o_lenT _)) (a_m (y_bin (b_m (y_bin (b_p (p_sl (p_var (x := (eT eI) borders0) rfl) po_no (po_so p_con) (o_slT _ _ _)) (b_p (p_var (x := (eT eI) inner8) rfl) ((o_appT _ _))))) (fun x9 => b_p (p_sl (p_var (x := (eT eI) borders0) rfl) (po_so (p_neg p_con)) po_no (o_slT _ _ _)) ((o_appT _ _))))) (fun x10 => a_nil (Rf.ok (a := ((inner8.length : Int), x10)) (e := (eP eI (eT eI))) (o_okT rfl)))))))) (fun x12 => a_nil (Rf.ok (a := (sortO ltIT x12)) (e := (eL (eP eI (eT eI)))) (o_sortO ore_IT _)))))) (fun found13 =>
    (s_retm (c_p (eb := (eT eI)) (f := fun p14 : Int × (List Int) => p14.2) (E1 := (fun p14 : Int × (List Int) => [some ((eT eI) borders0), some ((eL (eP eI (eT eI))) found13), none, some (eI p14.1), some ((eT eI) p14.2), none])) (i_exL (e := (eP eI (eT eI))) (Rf.ok (a := found13) (e := (eL (eP eI (eT eI)))) (p_var (x := (eL (eP eI (eT eI))) found13) rfl))) (fun _ => rfl) (fun p14 => (p_var (x := (eT eI) p14.2) rfl))) rfl)))) (fun _ _ h => cw_ret rfl h))))
theorem merged_h_ti_ok (m : Nat) (histogram0 : (List Int) × (List Int)) (borders0 : List Int) : Rf (run T (m + 1) 17 [(eP (eT eI) (eT eI)) histogram0, (eT eI) borders0]) (Y.merged_h_ti histogram0 borders0) (eP (eT eI) (eT eI)) :=
  fn_of (f := f17) (m := m + 0) rfl rfl (by
    show Cor _ (Y.merged_h_ti histogram0 borders0) ((execs (run T (m + 0)) f17.body [.sh ((eP (eT eI) (eT eI)) histogram0), .sh ((eT eI) borders0), .no, .no, .no, .no, .no, .no]).th .nx)
    unfold Y.merged_h_ti
    exact (s_asg (enc := (eL (eP eI eI))) (es_f (y_rgL (i_z2 (e := eI) (g := eI) o_zTT (Rf.ok (a := histogram0.1) (e := (eT eI)) (ty_p (e := (eT eI)) (x := histogram0.1) (p_ix (p_var (x := (eP (eT eI) (eT eI)) histogram0) rfl) p_con rfl))) (Rf.ok (a := histogram0.2) (e := (eT eI)) (ty_p (e := (eT eI)) (x := histogram0.2) (p_ix (p_var (x := (eP (eT eI) (eT eI)) histogram0) rfl) p_con rfl)))))) (fun pairs3 =>
    (s_own_p (enc := eI) (xs := []) rfl (es_fp (ty_p (e := (eL eI)) (x := []) (p_lst p_nil rfl))) (s_for (er := (eP (eT eI) (eT eI))) (fr := false) (E := (fun s6 : List Int => [.sh ((eP (eT eI) (eT eI)) histogram0), .sh ((eT eI) borders0), .sh ((eL (eP eI eI)) pairs3), .own (List.map eI s6), .no, .no, .no, .no])) (E1 := fun s6 p7 => [.sh ((eP (eT eI) (eT eI)) histogram0), .sh ((eT eI) borders0), .sh ((eL (eP eI eI)) pairs3), .own (List.map eI s6), .sh (eI p7.1), .sh (eI p7.2), .no, .no]) (i_z2 (e := eI) (g := eI) o_zTT (Rf.ok (a := borders0) (e := (eT eI)) (p_var (x := (eT eI) borders0) rfl)) (Rf.ok (a := (cut borders0 (some 1) none)) (e := (eT eI)) (p_sl (p_var (x := (eT eI) borders0) rfl) (po_so p_con) po_no (o_slT _ _ _)))) (kw rfl) (fun _ _ => rfl) (fun s6 p7 =>
    (s_app (enc := eI) (xs := s6) rfl (es_f (y_bi (a_m (c_pf (eb := eI) (f := fun p8 : Int × Int => p8.2) (p := fun p8 : Int × Int => ((decide (p7.1 ≤ p8.1)) && (decide (p8.1 < p7.2)))) (E1 := (fun p8 : Int × Int => [some ((eP (eT eI) (eT eI)) histogram0), some ((eT eI) borders0), some ((eL (eP eI eI)) pairs3), none, some (eI p7.1), some (eI p7.2), some (eI p8.1), some (eI p8.2)])) (i_exL (e := (eP eI eI)) (Rf.ok (a := pairs3) (e := (eL (eP eI eI))) (p_var (x := (eL (eP eI eI)) pairs3) rfl))) (fun _ => rfl) (fun p8 => (p_chain (p_var (x := eI p7.1) rfl) (p_var (x := eI p8.1) rfl) (p_var (x := eI p7.2) rfl) (o_le _ _) (o_lt _ _))) (fun p8 => (p_var (x := eI p8.2) rfl))) (fun x10 => a_nil (Rf.ok (a := x10.sum) (e := eI) (o_sumL _)))))) (fun counts11 =>
    (s_end (l_nxw rfl))))) (fun s13 =>
    (s_ret_p (ty_p (e := (eP (eT eI) (eT eI))) (x := (borders0, s13)) (p_tup (p_cons (p_var (x := (eT eI) borders0) rfl) (p_cons (p_bi (p_cons (p_var (x := (eL eI) s13) rfl) p_nil) (o_tupleL _)) p_nil)) rfl)) (w_ret rfl rfl))) (fun _ _ h => cw_ret rfl h))))))
theorem filled_h_ti_ok (m : Nat) (histogram0 : (List Int) × (List Int)) (values0 : List Int) : Rf (run T (m + 1) 6 [(eP (eT eI) (eT eI)) histogram0, (eT eI) values0]) (Y.filled_h_ti histogram0 values0) (eL eI) :=
  fn_of (f := f6) (m := m + 0) rfl rfl (by
    show Cor _ (Y.filled_h_ti histogram0 values0) ((execs (run T (m + 0)) f6.body [.sh ((eP (eT eI) (eT eI)) histogram0), .sh ((eT eI) values0), .no, .no, .no]).th .nx)
    unfold Y.filled_h_ti
    exact (s_own_p (enc := eI) (xs := []) rfl (es_fp (ty_p (e := (eL eI)) (x := []) (p_lst p_nil rfl))) (s_for (er := (eL eI)) (fr := true) (E := (fun s3 : List Int => [.sh ((eP (eT eI) (eT eI)) histogram0), .sh ((eT eI) values0), .own (List.map eI s3), .no, .no])) (E1 := fun s3 p4 => [.sh ((eP (eT eI) (eT eI)) histogram0), .sh ((eT eI) values0), .own (List.map eI s3), .sh (eI p4.1), .sh (eI p4.2)]) (i_z2 (e := eI) (g := eI) o_zTT (Rf.ok (a := values0) (e := (eT eI)) (p_var (x := (eT eI) values0) rfl)) (Rf.ok (a := histogram0.2) (e := (eT eI)) (ty_p (e := (eT eI)) (x := histogram0.2) (p_ix (p_var (x := (eP (eT eI) (eT eI)) histogram0) rfl) p_con rfl)))) (kw rfl) (fun _ _ => rfl) (fun s3 p4 =>
    (s_ext (enc := eI) (xs := s3) rfl (es_f (y_bin (b_p (ty_p (e := (eL eI)) (x := [p4.1]) (p_lst (p_cons (p_var (x := eI p4.1) rfl) p_nil) rfl)) (b_p (p_var (x := eI p4.2) rfl) ((o_repL _ _)))))) (fun found5 =>
    (s_end (l_nxw rfl))))) (fun s7 =>
    (s_ret_p (p_var (x := (eL eI) s7) rfl) (w_ret rfl rfl))) (fun _ _ h => cw_ret rfl h))))
theorem lowest_h_ok (m : Nat) (histogram0 : (List Int) × (List Int)) : Rf (run T (m + 2) 7 [(eP (eT eI) (eT eI)) histogram0]) (Y.lowest_h histogram0) (eL eI) :=
  fn_of (f := f7) (m := m + 1) rfl rfl (by
    show Cor _ (Y.lowest_h histogram0) ((execs (run T (m + 1)) f7.body [.sh ((eP (eT eI) (eT eI)) histogram0)]).th .nx)
    unfold Y.lowest_h
    exact (s_retm (y_call (a_p (p_var (x := (eP (eT eI) (eT eI)) histogram0) rfl) (a_p (p_sl (ty_p (e := (eT eI)) (x := histogram0.1) (p_ix (p_var (x := (eP (eT eI) (eT eI)) histogram0) rfl) p_con rfl)) po_no (po_so (p_neg p_con)) (o_slT _ _ _)) (a_nil (filled_h_ti_ok (m + 0) histogram0 (cut histogram0.1 none (some (-1)))))))) rfl))
theorem filled_h_li_ok (m : Nat) (histogram0 : (List Int) × (List Int)) (values0 : List Int) : Rf (run T (m + 1) 6 [(eP (eT eI) (eT eI)) histogram0, (eL eI) values0]) (Y.filled_h_li histogram0 values0) (eL eI) :=
  fn_of (f := f6) (m := m + 0) rfl rfl (by
    show Cor _ (Y.filled_h_li histogram0 values0) ((execs (run T (m + 0)) f6.body [.sh ((eP (eT eI) (eT eI)) histogram0), .sh ((eL eI) values0), .no, .no, .no]).th .nx)
    unfold Y.filled_h_li
    exact (s_own_p (enc := eI) (xs := []) rfl (es_fp (ty_p (e := (eL eI)) (x := []) (p_lst p_nil rfl))) (s_for (er := (eL eI)) (fr := true) (E := (fun s3 : List Int => [.sh ((eP (eT eI) (eT eI)) histogram0), .sh ((eL eI) values0), .own (List.map eI s3), .no, .no])) (E1 := fun s3 p4 => [.sh ((eP (eT eI) (eT eI)) histogram0), .sh ((eL eI) values0), .own (List.map eI s3), .sh (eI p4.1), .sh (eI p4.2)]) (i_z2 (e := eI) (g := eI) o_zLT (Rf.ok (a := values0) (e := (eL eI)) (p_var (x := (eL eI) values0) rfl)) (Rf.ok (a := histogram0.2) (e := (eT eI)) (ty_p (e := (eT eI)) (x := histogram0.2) (p_ix (p_var (x := (eP (eT eI) (eT eI)) histogram0) rfl) p_con rfl)))) (kw rfl) (fun _ _ => rfl) (fun s3 p4 =>
    (s_ext (enc := eI) (xs := s3) rfl (es_f (y_bin (b_p (ty_p (e := (eL eI)) (x := [p4.1]) (p_lst (p_cons (p_var (x := eI p4.1) rfl) p_nil) rfl)) (b_p (p_var (x := eI p4.2) rfl) ((o_repL _ _)))))) (fun found5 =>
    (s_end (l_nxw rfl))))) (fun s7 =>
    (s_ret_p (p_var (x := (eL eI) s7) rfl) (w_ret rfl rfl))) (fun _ _ h => cw_ret rfl h))))
theorem highest_h_ok (m : Nat) (histogram0 : (List Int) × (List Int)) : Rf (run T (m + 2) 8 [(eP (eT eI) (eT eI)) histogram0]) (Y.highest_h histogram0) (eL eI) :=
  fn_of (f := f8) (m := m + 1) rfl rfl (by
    show Cor _ (Y.highest_h histogram0) ((execs (run T (m + 1)) f8.body [.sh ((eP (eT eI) (eT eI)) histogram0), .no]).th .nx)
    unfold Y.highest_h
    exact (s_retm (y_call (a_p (p_var (x := (eP (eT eI) (eT eI)) histogram0) rfl) (a_m (c_p (eb := eI) (f := fun border1 : Int => (border1 - 1)) (E1 := (fun border1 : Int => [some ((eP (eT eI) (eT eI)) histogram0), some (eI border1)])) (i_exT (e := eI) (Rf.ok (a := (cut histogram0.1 (some 1) none)) (e := (eT eI)) (p_sl (ty_p (e := (eT eI)) (x := histogram0.1) (p_ix (p_var (x := (eP (eT eI) (eT eI)) histogram0) rfl) p_con rfl)) (po_so p_con) po_no (o_slT _ _ _)))) (fun _ => rfl) (fun border1 => (p_bin (p_var (x := eI border1) rfl) p_con (o_sub _ _)))) (fun x3 => a_nil (filled_h_li_ok (m + 0) histogram0 x3))))) rfl))
theorem find_bounds_h_i_ok (m : Nat) (histogram0 : (List Int) × (List Int)) (rank0 : Int) : Rf (run T (m + 3) 9 [(eP (eT eI) (eT eI)) histogram0, eI rank0]) (Y.find_bounds_h_i histogram0 rank0) (eP eI eI) :=
  fn_of (f := f9) (m := m + 2) rfl rfl (by
    show Cor _ (Y.find_bounds_h_i histogram0 rank0) ((execs (run T (m + 2)) f9.body [.sh ((eP (eT eI) (eT eI)) histogram0), .sh (eI rank0)]).th .nx)
    unfold Y.find_bounds_h_i
    exact (s_retm (y_tup (a_m (y_ix (b_m (y_call (a_p (p_var (x := (eP (eT eI) (eT eI)) histogram0) rfl) (a_nil (lowest_h_ok (m + 0) histogram0)))) (fun x1 => b_p (p_bin (p_var (x := eI rank0) rfl) p_con (o_sub _ _)) ((o_ixL _ _))))) (fun x3 => a_m (y_ix (b_m (y_call (a_p (p_var (x := (eP (eT eI) (eT eI)) histogram0) rfl) (a_nil (highest_h_ok (m + 0) histogram0)))) (fun x2 => b_p (p_bin (p_var (x := eI rank0) rfl) p_con (o_sub _ _)) ((o_ixL _ _))))) (fun x4 => a_nil (Rf.ok (a := (x3, x4)) (e := (eP eI eI)) (o_okT rfl)))))) rfl))
theorem find_range_h_i_ok (m : Nat) (histogram0 : (List Int) × (List Int)) (value0 : Int) : Rf (run T (m + 3) 10 [(eP (eT eI) (eT eI)) histogram0, eI value0]) (Y.find_range_h_i histogram0 value0) (eP eI eI) :=
  fn_of (f := f10) (m := m + 2) rfl rfl (by
    show Cor _ (Y.find_range_h_i histogram0 value0) ((execs (run T (m + 2)) f10.body [.sh ((eP (eT eI) (eT eI)) histogram0), .sh (eI value0), .no, .no]).th .nx)
    unfold Y.find_range_h_i
    exact (s_asg (enc := eI) (es_f (y_bi (a_m (c_pf (eb := eI) (f := fun one1 : Int => one1) (p := fun one1 : Int => (decide (one1 < value0))) (E1 := (fun one1 : Int => [some ((eP (eT eI) (eT eI)) histogram0), some (eI value0), none, some (eI one1)])) (i_exL (e := eI) (y_call (a_p (p_var (x := (eP (eT eI) (eT eI)) histogram0) rfl) (a_nil (highest_h_ok (m + 0) histogram0))))) (fun _ => rfl) (fun one1 => (p_cmp (p_var (x := eI one1) rfl) (p_var (x := eI value0) rfl) (o_lt _ _))) (fun one1 => (p_var (x := eI one1) rfl))) (fun x3 => a_nil (Rf.ok (a := (x3.length : Int)) (e := eI) (o_lenL _)))))) (fun least4 =>
    (s_retm (y_tup (a_p (p_var (x := eI least4) rfl) (a_m (y_bi (a_m (c_pf (eb := eI) (f := fun one5 : Int => one5) (p := fun one5 : Int => (decide (one5 < value0))) (E1 := (fun one5 : Int => [some ((eP (eT eI) (eT eI)) histogram0), some (eI value0), some (eI least4), some (eI one5)])) (i_exL (e := eI) (y_call (a_p (p_var (x := (eP (eT eI) (eT eI)) histogram0) rfl) (a_nil (lowest_h_ok (m + 0) histogram0))))) (fun _ => rfl) (fun one5 => (p_cmp (p_var (x := eI one5) rfl) (p_var (x := eI value0) rfl) (o_lt _ _))) (fun one5 => (p_var (x := eI one5) rfl))) (fun x7 => a_nil (Rf.ok (a := (x7.length : Int)) (e := eI) (o_lenL _))))) (fun x8 => a_nil (Rf.ok (a := (least4, x8)) (e := (eP eI eI)) (o_okT rfl)))))) rfl))))
theorem find_sums_h_ok (m : Nat) (histogram0 : (List Int) × (List Int)) : Rf (run T (m + 3) 11 [(eP (eT eI) (eT eI)) histogram0]) (Y.find_sums_h histogram0) (eP eI eI) :=
  fn_of (f := f11) (m := m + 2) rfl rfl (by
    show Cor _ (Y.find_sums_h histogram0) ((execs (run T (m + 2)) f11.body [.sh ((eP (eT eI) (eT eI)) histogram0)]).th .nx)
    unfold Y.find_sums_h
    exact (s_retm (y_tup (a_m (y_bi (a_m (y_call (a_p (p_var (x := (eP (eT eI) (eT eI)) histogram0) rfl) (a_nil (lowest_h_ok (m + 0) histogram0)))) (fun x1 => a_nil (Rf.ok (a := x1.sum) (e := eI) (o_sumL _))))) (fun x3 => a_m (y_bi (a_m (y_call (a_p (p_var (x := (eP (eT eI) (eT eI)) histogram0) rfl) (a_nil (highest_h_ok (m + 0) histogram0)))) (fun x2 => a_nil (Rf.ok (a := x2.sum) (e := eI) (o_sumL _))))) (fun x4 => a_nil (Rf.ok (a := (x3, x4)) (e := (eP eI eI)) (o_okT rfl)))))) rfl))
theorem number_bounds_h_w_ok (m : Nat) (histogram0 : (List Int) × (List Int)) (statement0 : W) : Rf (run T (m + 4) 14 [(eP (eT eI) (eT eI)) histogram0, eW statement0]) (Y.number_bounds_h_w histogram0 statement0) (eP eI eI) :=
  fn_of (f := f14) (m := m + 3) rfl rfl (by
    show Cor _ (Y.number_bounds_h_w histogram0 statement0) ((execs (run T (m + 3)) f14.body [.sh ((eP (eT eI) (eT eI)) histogram0), .sh (eW statement0)]).th .nx)
    unfold Y.number_bounds_h_w
    exact (s_ite (y_cmp (b_p (p_ix (p_var (x := eW statement0) rfl) p_con (o_W0 _)) (b_p p_gl ((o_streq _ _)))))
    (s_retm (y_call (a_p (p_var (x := (eP (eT eI) (eT eI)) histogram0) rfl) (a_m (y_ix (b_p (p_var (x := eW statement0) rfl) (b_p p_con ((o_w1T _))))) (fun x1 => a_nil (find_bounds_h_i_ok (m + 0) histogram0 x1))))) rfl)
    (s_end (s_retm (y_ife_m (y_cmp (b_p (p_ix (p_var (x := eW statement0) rfl) p_con (o_W0 _)) (b_p p_gl ((o_streq _ _))))) (y_call (a_p (p_var (x := (eP (eT eI) (eT eI)) histogram0) rfl) (a_m (y_ix (b_p (p_var (x := eW statement0) rfl) (b_p p_con ((o_w1T _))))) (fun x2 => a_nil (find_range_h_i_ok (m + 0) histogram0 x2))))) (y_call (a_p (p_var (x := (eP (eT eI) (eT eI)) histogram0) rfl) (a_nil (find_sums_h_ok (m + 0) histogram0))))) rfl))))
theorem surely_holds_h_w_ok (m : Nat) (histogram0 : (List Int) × (List Int)) (statement0 : W) : Rf (run T (m + 5) 15 [(eP (eT eI) (eT eI)) histogram0, eW statement0]) (Y.surely_holds_h_w histogram0 statement0) eB :=
  fn_of (f := f15) (m := m + 4) rfl rfl (by
    show Cor _ (Y.surely_holds_h_w histogram0 statement0) ((execs (run T (m + 4)) f15.body [.sh ((eP (eT eI) (eT eI)) histogram0), .sh (eW statement0), .no, .no]).th .nx)
    unfold Y.surely_holds_h_w
    exact (s_tp (E1 := fun p1 => [.sh ((eP (eT eI) (eT eI)) histogram0), .sh (eW statement0), .sh (eI p1.1), .sh (eI p1.2)]) (es_f (y_call (a_p (p_var (x := (eP (eT eI) (eT eI)) histogram0) rfl) (a_p (p_var (x := eW statement0) rfl) (a_nil (number_bounds_h_w_ok (m + 0) histogram0 statement0)))))) (fun _ => rfl) (fun p1 =>
    (s_retm (y_and_m (y_cmp (b_m (y_ix (b_p (p_var (x := eW statement0) rfl) (b_p (p_neg p_con) ((o_wkT _))))) (fun x2 => b_p (p_var (x := eI p1.1) rfl) ((Rf.ok (a := (decide (x2 ≤ p1.1))) (e := eB) (o_le _ _)))))) (y_cmp (b_p (p_var (x := eI p1.2) rfl) (b_m (y_ix (b_p (p_var (x := eW statement0) rfl) (b_p (p_neg p_con) ((o_wlT _))))) (fun x3 => (Rf.ok (a := (decide (p1.2 ≤ x3))) (e := eB) (o_le _ _))))))) rfl))))
theorem fewest_borders_h_lw_ok (m : Nat) (histogram0 : (List Int) × (List Int)) (statements0 : List W) : Rf (run T (m + 6) 20 [(eP (eT eI) (eT eI)) histogram0, (eL eW) statements0]) (Y.fewest_borders_h_lw histogram0 statements0) (eO (eT eI)) :=
  fn_of (f := f20) (m := m + 5) rfl rfl (by
    show Cor _ (Y.fewest_borders_h_lw histogram0 statements0) ((execs (run T (m + 5)) f20.body [.sh ((eP (eT eI) (eT eI)) histogram0), .sh ((eL eW) statements0), .no, .no, .no, .no]).th .nx)
    unfold Y.fewest_borders_h_lw
    exact (s_ex (y_call (a_p (p_var (x := (eP (eT eI) (eT eI)) histogram0) rfl) (a_nil (check_histogram_h_ok (m + 1) histogram0)))) (s_ite_p (or_f (p_not (p := true) (p_isI (p := true) (p_var (x := (eL eW) statements0) rfl) rfl)) (p_cmp (p_bi (p_cons (p_var (x := (eL eW) statements0) rfl) p_nil) (o_lenL _)) p_gl (o_gt _ _)))
    Cor.no
    (s_end (s_asg (enc := eI) (es_f (y_call (a_p (p_var (x := (eP (eT eI) (eT eI)) histogram0) rfl) (a_nil (size_of_h_ok (m + 4) histogram0))))) (fun many1 =>
    (s_ite (y_not (b_m (y_bi (a_m (c_m (eb := eB) (f := fun statement2 : W => is_statement_for_i_w many1 statement2) (E1 := (fun statement2 : W => [some ((eP (eT eI) (eT eI)) histogram0), some ((eL eW) statements0), some (eI many1), none, none, some (eW statement2)])) (i_exL (e := eW) (Rf.ok (a := statements0) (e := (eL eW)) (p_var (x := (eL eW) statements0) rfl))) (fun _ => rfl) (fun statement2 => (y_call (a_p (p_var (x := eI many1) rfl) (a_p (p_var (x := eW statement2) rfl) (a_nil (is_statement_for_i_w_ok (m + 3) many1 statement2))))))) (fun x4 => a_nil (Rf.ok (a := (x4.all id)) (e := eB) (o_all _))))) (fun x5 => (Rf.ok (a := (!x5)) (e := eB) rfl))))
    Cor.no
    (s_end (s_for (er := (eO (eT eI))) (fr := false) (E := (fun s6 : Unit => [.sh ((eP (eT eI) (eT eI)) histogram0), .sh ((eL eW) statements0), .sh (eI many1), .no, .no, .no])) (E1 := fun s6 borders7 => [.sh ((eP (eT eI) (eT eI)) histogram0), .sh ((eL eW) statements0), .sh (eI many1), .sh ((eT eI) borders7), .no, .no]) (i_exL (e := (eT eI)) (y_call (a_p (ty_p (e := (eT eI)) (x := histogram0.1) (p_ix (p_var (x := (eP (eT eI) (eT eI)) histogram0) rfl) p_con rfl)) (a_nil (all_coarser_ti_ok (m + 4) histogram0.1))))) (kw rfl) (fun _ _ => rfl) (fun s6 borders7 =>
    (s_asg (enc := (eP (eT eI) (eT eI))) (es_f (y_call (a_p (p_var (x := (eP (eT eI) (eT eI)) histogram0) rfl) (a_p (p_var (x := (eT eI) borders7) rfl) (a_nil (merged_h_ti_ok (m + 4) histogram0 borders7)))))) (fun found8 =>
    (s_ite (y_and_m (y_cmp (b_m (y_bi (a_p (ty_p (e := (eT eI)) (x := found8.2) (p_ix (p_var (x := (eP (eT eI) (eT eI)) found8) rfl) p_con rfl)) (a_nil (o_maxT _)))) (fun x9 => b_p p_gl ((Rf.ok (a := (decide (x9 ≤ 60))) (e := eB) (o_le _ _)))))) (y_bi (a_m (c_m (eb := eB) (f := fun statement10 : W => surely_holds_h_w found8 statement10) (E1 := (fun statement10 : W => [some ((eP (eT eI) (eT eI)) histogram0), some ((eL eW) statements0), some (eI many1), some ((eT eI) borders7), some ((eP (eT eI) (eT eI)) found8), some (eW statement10)])) (i_exL (e := eW) (Rf.ok (a := statements0) (e := (eL eW)) (p_var (x := (eL eW) statements0) rfl))) (fun _ => rfl) (fun statement10 => (y_call (a_p (p_var (x := (eP (eT eI) (eT eI)) found8) rfl) (a_p (p_var (x := eW statement10) rfl) (a_nil (surely_holds_h_w_ok (m + 0) found8 statement10))))))) (fun x12 => a_nil (Rf.ok (a := (x12.all id)) (e := eB) (o_all _))))))
    (s_ret_p (ty_p (e := (eO (eT eI))) (x := (some borders7)) (p_var (x := (eT eI) borders7) rfl)) (l_ret rfl rfl))
    (s_end (s_end (l_nxw rfl))))))) (fun s15 =>
    (s_ret_p (ty_p (e := (eO (eT eI))) (x := none) p_con) (w_ret rfl rfl))) (fun _ _ h => cw_ret rfl h))))))))))
theorem looseness_h_ok (m : Nat) (histogram0 : (List Int) × (List Int)) : Rf (run T (m + 4) 21 [(eP (eT eI) (eT eI)) histogram0]) (Y.looseness_h histogram0) eI :=
  fn_of (f := f21) (m := m + 3) rfl rfl (by
    show Cor _ (Y.looseness_h histogram0) ((execs (run T (m + 3)) f21.body [.sh ((eP (eT eI) (eT eI)) histogram0), .no, .no]).th .nx)
    unfold Y.looseness_h
    exact (s_tp (E1 := fun p1 => [.sh ((eP (eT eI) (eT eI)) histogram0), .sh (eI p1.1), .sh (eI p1.2)]) (es_f (y_call (a_p (p_var (x := (eP (eT eI) (eT eI)) histogram0) rfl) (a_nil (find_sums_h_ok (m + 0) histogram0))))) (fun _ => rfl) (fun p1 =>
    (s_ret_p (p_bin (p_var (x := eI p1.2) rfl) (p_var (x := eI p1.1) rfl) (o_sub _ _)) (w_ret rfl rfl)))))
theorem least_loss_h_ok (m : Nat) (histogram0 : (List Int) × (List Int)) : Rf (run T (m + 5) 22 [(eP (eT eI) (eT eI)) histogram0]) (Y.least_loss_h histogram0) (eO (eP eI eI)) :=
  fn_of (f := f22) (m := m + 4) rfl rfl (by
    show Cor _ (Y.least_loss_h histogram0) ((execs (run T (m + 4)) f22.body [.sh ((eP (eT eI) (eT eI)) histogram0), .no, .no, .no, .no]).th .nx)
    unfold Y.least_loss_h
    exact (s_ex (y_call (a_p (p_var (x := (eP (eT eI) (eT eI)) histogram0) rfl) (a_nil (check_histogram_h_ok (m + 0) histogram0)))) (s_par_p (E1 := [.sh ((eP (eT eI) (eT eI)) histogram0), .sh ((eT eI) histogram0.1), .own (List.map (eP eI eI) []), .no, .no]) rfl (p_cons (ty_p (e := (eT eI)) (x := histogram0.1) (p_ix (p_var (x := (eP (eT eI) (eT eI)) histogram0) rfl) p_con rfl)) (p_cons (ty_p (e := (eL (eP eI eI))) (x := []) (p_lst p_nil rfl)) p_nil)) rfl (s_for (er := (eO (eP eI eI))) (fr := false) (E := (fun s3 : List (Int × Int) => [.sh ((eP (eT eI) (eT eI)) histogram0), .sh ((eT eI) histogram0.1), .own (List.map (eP eI eI) s3), .no, .no])) (E1 := fun s3 index4 => [.sh ((eP (eT eI) (eT eI)) histogram0), .sh ((eT eI) histogram0.1), .own (List.map (eP eI eI) s3), .sh (eI index4), .no]) (i_r2 (Rf.ok (a := 1) (e := eI) p_con) (Rf.ok (a := ((histogram0.1.length : Int) - 1)) (e := eI) (p_bin (p_bi (p_cons (p_var (x := (eT eI) histogram0.1) rfl) p_nil) (o_lenT _)) p_con (o_sub _ _)))) (kw rfl) (fun _ _ => rfl) (fun s3 index4 =>
    (s_asg (enc := (eP (eT eI) (eT eI))) (es_f (y_call (a_p (p_var (x := (eP (eT eI) (eT eI)) histogram0) rfl) (a_m (y_bin (b_p (p_sl (p_var (x := (eT eI) histogram0.1) rfl) po_no (po_so (p_var (x := eI index4) rfl)) (o_slT _ _ _)) (b_p (p_sl (p_var (x := (eT eI) histogram0.1) rfl) (po_so (p_bin (p_var (x := eI index4) rfl) p_con (o_add _ _))) po_no (o_slT _ _ _)) ((o_appT _ _))))) (fun x5 => a_nil (merged_h_ti_ok (m + 3) histogram0 x5)))))) (fun coarse6 =>
    (s_ite (y_cmp (b_m (y_bi (a_p (ty_p (e := (eT eI)) (x := coarse6.2) (p_ix (p_var (x := (eP (eT eI) (eT eI)) coarse6) rfl) p_con rfl)) (a_nil (o_maxT _)))) (fun x7 => b_p p_gl ((Rf.ok (a := (decide (x7 ≤ 60))) (e := eB) (o_le _ _))))))
    (s_app (enc := (eP eI eI)) (xs := s3) rfl (es_f (y_tup (a_m (y_bin (b_m (y_call (a_p (p_var (x := (eP (eT eI) (eT eI)) coarse6) rfl) (a_nil (looseness_h_ok (m + 0) coarse6)))) (fun x8 => b_m (y_call (a_p (p_var (x := (eP (eT eI) (eT eI)) histogram0) rfl) (a_nil (looseness_h_ok (m + 0) histogram0)))) (fun x9 => (Rf.ok (a := (x8 - x9)) (e := eI) (o_sub _ _)))))) (fun x10 => a_p (p_var (x := eI index4) rfl) (a_nil (Rf.ok (a := (x10, index4)) (e := (eP eI eI)) (o_okT rfl))))))) (fun found11 =>
    (s_end (s_end (l_nxw rfl)))))
    (s_end (s_end (l_nxw rfl))))))) (fun s14 =>
    (s_retm (y_ife_p (p_cmp (p_var (x := (eL (eP eI eI)) s14) rfl) (ty_p (e := (eL (eP eI eI))) (x := []) (p_lst p_nil rfl)) (o_ne (eqe_L (eqe_P (eqe_up (m := 0) eqe_I (by decide)) (eqe_up (m := 0) eqe_I (by decide)))) (by decide) _ _)) (Rf.conv (g := (eP eI eI)) (f := fun x17 : Int × Int => (some x17)) (g2 := (eO (eP eI eI))) (y_rev (b_m (y_bi (a_p (p_var (x := (eL (eP eI eI)) s14) rfl) (a_nil (o_minO ore_II _)))) (fun x16 => (Rf.ok (a := (x16.2, x16.1)) (e := (eP eI eI)) rfl)))) (fun _ => rfl)) (Rf.ok (a := none) (e := (eO (eP eI eI))) (ty_p (e := (eO (eP eI eI))) (x := none) p_con))) rfl)) (fun _ _ h => cw_ret rfl h)))))
theorem check_borders_ti_ok (m : Nat) (value0 : List Int) : Rf (run T (m + 3) 3 [(eT eI) value0]) (Y.check_borders_ti value0) eN :=
  fn_of (f := f3) (m := m + 2) rfl rfl (by
    show Cor _ (Y.check_borders_ti value0) ((execs (run T (m + 2)) f3.body [.sh ((eT eI) value0)]).th .nx)
    unfold Y.check_borders_ti
    exact (s_ite (y_not (b_m (y_call (a_p (p_var (x := (eT eI) value0) rfl) (a_nil (are_borders_ti_ok (m + 0) value0)))) (fun x1 => (Rf.ok (a := (!x1)) (e := eB) rfl))))
    Cor.no
    (s_end (s_end (w_fall rfl rfl)))))
theorem are_coarser_ti_ti_ok (m : Nat) (one0 : List Int) (other0 : List Int) : Rf (run T (m + 1) 16 [(eT eI) one0, (eT eI) other0]) (Y.are_coarser_ti_ti one0 other0) eB :=
  fn_of (f := f16) (m := m + 0) rfl rfl (by
    show Cor _ (Y.are_coarser_ti_ti one0 other0) ((execs (run T (m + 0)) f16.body [.sh ((eT eI) one0), .sh ((eT eI) other0), .no]).th .nx)
    unfold Y.are_coarser_ti_ti
    exact (s_retm (y_and_m (y_cmp (b_m (y_ix (b_p (p_var (x := (eT eI) one0) rfl) (b_p p_con ((o_ixT _ _))))) (fun x1 => b_m (y_ix (b_p (p_var (x := (eT eI) other0) rfl) (b_p p_con ((o_ixT _ _))))) (fun x2 => (Rf.ok (a := (decide (x1 = x2))) (e := eB) (o_eq eqe_I (by decide) _ _)))))) (y_and_m (y_cmp (b_m (y_ix (b_p (p_var (x := (eT eI) one0) rfl) (b_p (p_neg p_con) ((o_ixT _ _))))) (fun x3 => b_m (y_ix (b_p (p_var (x := (eT eI) other0) rfl) (b_p (p_neg p_con) ((o_ixT _ _))))) (fun x4 => (Rf.ok (a := (decide (x3 = x4))) (e := eB) (o_eq eqe_I (by decide) _ _)))))) (y_bi (a_m (c_p (eb := eB) (f := fun border5 : Int => (decide (border5 ∈ other0))) (E1 := (fun border5 : Int => [some ((eT eI) one0), some ((eT eI) other0), some (eI border5)])) (i_exT (e := eI) (Rf.ok (a := one0) (e := (eT eI)) (p_var (x := (eT eI) one0) rfl))) (fun _ => rfl) (fun border5 => (p_cmp (p_var (x := eI border5) rfl) (p_var (x := (eT eI) other0) rfl) (o_inT eqe_I at_I _ _)))) (fun x7 => a_nil (Rf.ok (a := (x7.all id)) (e := eB) (o_all _))))))) rfl))
theorem coarsened_h_ti_ok (m : Nat) (histogram0 : (List Int) × (List Int)) (borders0 : List Int) : Rf (run T (m + 5) 18 [(eP (eT eI) (eT eI)) histogram0, (eT eI) borders0]) (Y.coarsened_h_ti histogram0 borders0) (eP (eT eI) (eT eI)) :=
  fn_of (f := f18) (m := m + 4) rfl rfl (by
    show Cor _ (Y.coarsened_h_ti histogram0 borders0) ((execs (run T (m + 4)) f18.body [.sh ((eP (eT eI) (eT eI)) histogram0), .sh ((eT eI) borders0), .no]).th .nx)
    unfold Y.coarsened_h_ti
    exact (s_ex (y_call (a_p (p_var (x := (eP (eT eI) (eT eI)) histogram0) rfl) (a_nil (check_histogram_h_ok (m + 0) histogram0)))) (s_ex (y_call (a_p (p_var (x := (eT eI) borders0) rfl) (a_nil (check_borders_ti_ok (m + 1) borders0)))) (s_ite (y_not (b_m (y_call (a_p (p_var (x := (eT eI) borders0) rfl) (a_p (ty_p (e := (eT eI)) (x := histogram0.1) (p_ix (p_var (x := (eP (eT eI) (eT eI)) histogram0) rfl) p_con rfl)) (a_nil (are_coarser_ti_ti_ok (m + 3) borders0 histogram0.1))))) (fun x1 => (Rf.ok (a := (!x1)) (e := eB) rfl))))
    Cor.no
    (s_end (s_asg (enc := (eP (eT eI) (eT eI))) (es_f (y_call (a_p (p_var (x := (eP (eT eI) (eT eI)) histogram0) rfl) (a_p (p_var (x := (eT eI) borders0) rfl) (a_nil (merged_h_ti_ok (m + 3) histogram0 borders0)))))) (fun found2 =>
    (s_ite (y_cmp (b_m (y_bi (a_p (ty_p (e := (eT eI)) (x := found2.2) (p_ix (p_var (x := (eP (eT eI) (eT eI)) found2) rfl) p_con rfl)) (a_nil (o_maxT _)))) (fun x3 => b_p p_gl ((Rf.ok (a := (decide (60 < x3))) (e := eB) (o_gt _ _))))))
    Cor.no
    (s_end (s_ret_p (p_var (x := (eP (eT eI) (eT eI)) found2) rfl) (w_ret rfl rfl)))))))))))
theorem law_k36_ok (m : Nat) (script0 : List Int) : Rf (run T (m + 7) 32 [eSc script0]) (Y.law_k36 script0) eB :=
  fn_of (f := f32) (m := m + 6) rfl rfl (by
    show Cor _ (Y.law_k36 script0) ((execs (run T (m + 6)) f32.body [.sh (eSc script0), .no, .no, .no, .no, .no, .no, .no, .no, .no, .no, .no, .no, .no, .no, .no, .no, .no, .no, .no, .no, .no, .no]).th .nx)
    unfold Y.law_k36
    exact (s_for (er := eB) (fr := false) (E := (fun s2 : Unit => [.sh (eSc script0), .no, .no, .no, .no, .no, .no, .no, .no, .no, .no, .no, .no, .no, .no, .no, .no, .no, .no, .no, .no, .no, .no])) (E1 := fun s2 i3 => [.sh (eSc script0), .sh (eI i3), .no, .no, .no, .no, .no, .no, .no, .no, .no, .no, .no, .no, .no, .no, .no, .no, .no, .no, .no, .no, .no]) (i_r1 (Rf.ok (a := 3) (e := eI) p_con)) (kw rfl) (fun _ _ => rfl) (fun s2 i3 =>
    (s_asg (enc := (eP (eT eI) (eT eI))) (es_f (y_call (a_p (p_var (x := eSc script0) rfl) (a_p (p_bin p_con (p_var (x := eI i3) rfl) (o_mull _ _ rfl)) (a_p p_con (a_nil (lhistogram_z_i_i_ok (m + 3) script0 (100 * i3) 5))))))) (fun histogram4 =>
    (s_tp (E1 := fun p5 => [.sh (eSc script0), .sh (eI i3), .sh ((eP (eT eI) (eT eI)) histogram4), .sh ((eT eI) p5.1), .sh (eI p5.2), .no, .no, .no, .no, .no, .no, .no, .no, .no, .no, .no, .no, .no, .no, .no, .no, .no, .no]) (es_f (Rf.ok (a := (histogram4.1, histogram4.2.sum)) (e := (eP (eT eI) eI)) (ty_p (e := (eP (eT eI) eI)) (x := (histogram4.1, histogram4.2.sum)) (p_tup (p_cons (ty_p (e := (eT eI)) (x := histogram4.1) (p_ix (p_var (x := (eP (eT eI) (eT eI)) histogram4) rfl) p_con rfl)) (p_cons (p_bi (p_cons (ty_p (e := (eT eI)) (x := histogram4.2) (p_ix (p_var (x := (eP (eT eI) (eT eI)) histogram4) rfl) p_con rfl)) p_nil) (o_sumT _)) p_nil)) rfl)))) (fun _ => rfl) (fun p5 =>
    (s_asg_p (d := (eL (eT eI)) ([[]])) (es_fp (ty_p (e := (eL (eT eI))) (x := [[]]) (p_lst (p_cons (ty_p (e := (eT eI)) (x := []) (p_tup p_nil rfl)) p_nil) rfl))) (s_for (er := eB) (fr := false) (E := (fun s6 : List (List Int) => [.sh (eSc script0), .sh (eI i3), .sh ((eP (eT eI) (eT eI)) histogram4), .sh ((eT eI) p5.1), .sh (eI p5.2), .sh ((eL (eT eI)) s6), .no, .no, .no, .no, .no, .no, .no, .no, .no, .no, .no, .no, .no, .no, .no, .no, .no])) (E1 := fun s6 border7 => [.sh (eSc script0), .sh (eI i3), .sh ((eP (eT eI) (eT eI)) histogram4), .sh ((eT eI) p5.1), .sh (eI p5.2), .sh ((eL (eT eI)) s6), .sh (eI border7), .no, .no, .no, .no, .no, .no, .no, .no, .no, .no, .no, .no, .no, .no, .no, .no]) (i_exT (e := eI) (Rf.ok (a := (cut p5.1 (some 1) (some (-1)))) (e := (eT eI)) (p_sl (p_var (x := (eT eI) p5.1) rfl) (po_so p_con) (po_so (p_neg p_con)) (o_slT _ _ _)))) (kw rfl) (fun _ _ => rfl) (fun s6 border7 =>
    (s_asg (enc := (eL (eT eI))) (es_f (y_bin (b_p (p_var (x := (eL (eT eI)) s6) rfl) (b_m (c_m (eb := (eT eI)) (f := fun part8 : List Int => appT part8 [border7]) (E1 := (fun part8 : List Int => [some (eSc script0), some (eI i3), some ((eP (eT eI) (eT eI)) histogram4), some ((eT eI) p5.1), some (eI p5.2), some ((eL (eT eI)) s6), some (eI border7), none, none, none, none, none, none, none, none, none, none, none, none, none, none, none, some ((eT eI) part8)])) (i_exL (e := (eT eI)) (Rf.ok (a := s6) (e := (eL (eT eI))) (p_var (x := (eL (eT eI)) s6) rfl))) (fun _ => rfl) (fun part8 => (y_bin (b_p (p_var (x := (eT eI) part8) rfl) (b_p (ty_p (e := (eT eI)) (x := [border7]) (p_tup (p_cons (p_var (x := eI border7) rfl) p_nil) rfl)) ((o_appT _ _))))))) (fun x10 => (o_appL _ _)))))) (fun inner11 =>
    (s_end (l_nxw rfl))))) (fun s12 =>
    (s_asg (enc := (eL (eP eI (eT eI)))) (es_f (y_bi (a_m (c_m (eb := (eP eI (eT eI))) (f := fun part13 : List Int => ((appT (cut p5.1 none (some 1)) part13).rb fun x14 => appT x14 (cut p5.1 (some (-1)) none)).rb fun x15 => Res.ok ((part13.length : Int), x15)) (E1 := (fun part13 : List Int => [some (eSc script0), some (eI i3), some ((eP (eT eI) (eT eI)) histogram4), some ((eT eI) p5.1), some (eI p5.2), some ((eL (eT eI)) s12), none, none, none, none, none, none, none, none, none, none, none, none, none, none, none, none, some ((eT eI) part13)])) (i_exL (e := (eT eI)) (Rf.ok (a := s12) (e := (eL (eT eI))) (p_var (x := (eL (eT eI)) s12) rfl))) (fun _ => rfl) (fun part13 => (y_tup (a_p (p_bi (p_cons (p_var (x := (eT eI) part13) rfl) p_nil) (o_lenT _)) (a_m (y_bin (b_m (y_bin (b_p (p_sl (p_var (x := (eT eI) p5.1) rfl) po_no (po_so p_con) (o_slT _ _ _)) (b_p (p_var (x := (eT eI) part13) rfl) ((o_appT _ _))))) (fun x14 => b_p (p_sl (p_var (x := (eT eI) p5.1) rfl) (po_so (p_neg p_con)) po_no (o_slT _ _ _)) ((o_appT _ _))))) (fun x15 => a_nil (Rf.ok (a := ((part13.length : Int), x15)) (e := (eP eI (eT eI))) (o_okT rfl)))))))) (fun x17 => a_nil (Rf.ok (a := (sortO ltIT x17)) (e := (eL (eP eI (eT eI)))) (o_sortO ore_IT _)))))) (fun rows18 =>
    (s_own_p (enc := eW) (xs := []) rfl (es_fp (ty_p (e := (eL eW)) (x := []) (p_lst p_nil rfl))) (s_for (er := eB) (fr := false) (E := (fun s20 : List W => [.sh (eSc script0), .sh (eI i3), .sh ((eP (eT eI) (eT eI)) histogram4), .sh ((eT eI) p5.1), .sh (eI p5.2), .sh ((eL (eT eI)) s12), .no, .sh ((eL (eP eI (eT eI))) rows18), .own (List.map eW s20), .no, .no, .no, .no, .no, .no, .no, .no, .no, .no, .no, .no, .no, .no])) (E1 := fun s20 j21 => [.sh (eSc script0), .sh (eI i3), .sh ((eP (eT eI) (eT eI)) histogram4), .sh ((eT eI) p5.1), .sh (eI p5.2), .sh ((eL (eT eI)) s12), .no, .sh ((eL (eP eI (eT eI))) rows18), .own (List.map eW s20), .sh (eI j21), .no, .no, .no, .no, .no, .no, .no, .no, .no, .no, .no, .no, .no]) (i_r1 (y_call (a_p (p_var (x := eSc script0) rfl) (a_p (p_bin (p_bin p_con (p_var (x := eI i3) rfl) (o_mull _ _ rfl)) p_con (o_add _ _)) (a_p p_con (a_nil (lpick_z_i_i_ok (m + 5) script0 ((100 * i3) + 40) 4))))))) (kw rfl) (fun _ _ => rfl) (fun s20 j21 =>
    (s_asg (enc := eW) (es_f (y_call (a_p (p_var (x := eSc script0) rfl) (a_p (p_bin (p_bin (p_bin p_con (p_var (x := eI i3) rfl) (o_mull _ _ rfl)) p_con (o_add _ _)) (p_bin p_con (p_var (x := eI j21) rfl) (o_mull _ _ rfl)) (o_add _ _)) (a_p (p_var (x := eI p5.2) rfl) (a_nil (lstatement_z_i_i_ok (m + 4) script0 (((100 * i3) + 41) + (9 * j21)) p5.2))))))) (fun word22 =>
    (s_tp (E1 := fun p23 => [.sh (eSc script0), .sh (eI i3), .sh ((eP (eT eI) (eT eI)) histogram4), .sh ((eT eI) p5.1), .sh (eI p5.2), .sh ((eL (eT eI)) s12), .no, .sh ((eL (eP eI (eT eI))) rows18), .own (List.map eW s20), .sh (eI j21), .sh (eW word22), .sh ((eL eI) p23.1), .sh ((eL eI) p23.2), .no, .no, .no, .no, .no, .no, .no, .no, .no, .no]) (es_f (y_call (a_p (p_var (x := (eP (eT eI) (eT eI)) histogram4) rfl) (a_nil (lends_h_ok (m + 5) histogram4))))) (fun _ => rfl) (fun p23 =>
    (s_asg (enc := (eL eI)) (es_f (y_bi (a_m (y_lst (a_m (y_call (a_p (p_var (x := (eL eI) p23.1) rfl) (a_p (p_var (x := eW word22) rfl) (a_nil (lnumber_li_w_ok (m + 5) p23.1 word22))))) (fun x24 => a_m (y_call (a_p (p_var (x := (eL eI) p23.2) rfl) (a_p (p_var (x := eW word22) rfl) (a_nil (lnumber_li_w_ok (m + 5) p23.2 word22))))) (fun x25 => a_nil (Rf.ok (a := [x24, x25]) (e := (eL eI)) (o_okL rfl)))))) (fun x26 => a_nil (Rf.ok (a := (sortI x26)) (e := (eL eI)) (o_sorted _)))))) (fun ends27 =>
    (s_asg (enc := eI) (es_f (y_ix (b_p (ty_p (e := (eT eI)) (x := [0, 3, 20]) (p_tup (p_cons p_con (p_cons p_con (p_cons p_con p_nil))) rfl)) (b_m (y_call (a_p (p_var (x := eSc script0) rfl) (a_p (p_bin (p_bin (p_bin p_con (p_var (x := eI i3) rfl) (o_mull _ _ rfl)) p_con (o_add _ _)) (p_var (x := eI j21) rfl) (o_add _ _)) (a_p p_con (a_nil (lpick_z_i_i_ok (m + 5) script0 (((100 * i3) + 80) + j21) 3)))))) (fun x28 => (o_ixT _ _)))))) (fun slack29 =>
    (s_app (enc := eW) (xs := s20) rfl (es_f (y_wset (p_var (x := eW word22) rfl) (b_m (y_tup (a_m (y_bi (a_m (y_bin (b_m (y_ix (b_p (p_var (x := (eL eI) ends27) rfl) (b_p p_con ((o_ixL _ _))))) (fun x30 => b_p (p_var (x := eI slack29) rfl) ((Rf.ok (a := (x30 - slack29)) (e := eI) (o_sub _ _)))))) (fun x31 => a_p p_con (a_nil (Rf.ok (a := (max2 x31 0)) (e := eI) (o_max2 _ _)))))) (fun x36 => a_m (y_bi (a_m (y_bin (b_m (y_ix (b_p (p_var (x := (eL eI) ends27) rfl) (b_p p_con ((o_ixL _ _))))) (fun x32 => b_p (p_var (x := eI slack29) rfl) ((Rf.ok (a := (x32 + slack29)) (e := eI) (o_add _ _)))))) (fun x34 => a_m (y_ife_m (y_cmp (b_p (p_ix (p_var (x := eW word22) rfl) p_con (o_W0 _)) (b_p p_con ((o_streq _ _))))) (Rf.ok (a := 200) (e := eI) p_con) (Rf.ok (a := 999) (e := eI) p_con)) (fun x35 => a_nil (Rf.ok (a := (min2 x34 x35)) (e := eI) (o_min2 _ _)))))) (fun x37 => a_nil (Rf.ok (a := (x36, x37)) (e := (eP eI eI)) (o_okT rfl)))))) (fun x38 => (o_wSet _ _))))) (fun words39 =>
    (s_end (l_nxw rfl))))))))))))) (fun s41 =>
    (s_share (E1 := [.sh (eSc script0), .sh (eI i3), .sh ((eP (eT eI) (eT eI)) histogram4), .sh ((eT eI) p5.1), .sh (eI p5.2), .sh ((eL (eT eI)) s12), .no, .sh ((eL (eP eI (eT eI))) rows18), .sh ((eL eW) s41), .no, .no, .no, .no, .no, .no, .no, .no, .no, .no, .no, .no, .no, .no]) rfl (s_asg (enc := (eL (eT eI))) (es_f (c_mm (eb := (eT eI)) (f := fun p42 : Int × (List Int) => Res.ok p42.2) (p := fun p42 : Int × (List Int) => ((Res.ok s41).rb fun w45 => (mapR (fun word43 : W => (lfolded_h_ti histogram4 p42.2).rb fun x44 => lsure_h_w x44 word43) w45).rb lenT).rb fun x46 => Res.ok (x46.all id)) (E1 := (fun p42 : Int × (List Int) => [some (eSc script0), some (eI i3), some ((eP (eT eI) (eT eI)) histogram4), some ((eT eI) p5.1), some (eI p5.2), some ((eL (eT eI)) s12), none, some ((eL (eP eI (eT eI))) rows18), some ((eL eW) s41), none, none, none, none, none, none, none, none, none, none, none, some (eI p42.1), some ((eT eI) p42.2), none])) (i_exL (e := (eP eI (eT eI))) (Rf.ok (a := rows18) (e := (eL (eP eI (eT eI)))) (p_var (x := (eL (eP eI (eT eI))) rows18) rfl))) (fun _ => rfl) (fun p42 => (y_bi (a_m (c_m (eb := eB) (f := fun word43 : W => (lfolded_h_ti histogram4 p42.2).rb fun x44 => lsure_h_w x44 word43) (E1 := (fun word43 : W => [some (eSc script0), some (eI i3), some ((eP (eT eI) (eT eI)) histogram4), some ((eT eI) p5.1), some (eI p5.2), some ((eL (eT eI)) s12), none, some ((eL (eP eI (eT eI))) rows18), some ((eL eW) s41), none, some (eW word43), none, none, none, none, none, none, none, none, none, some (eI p42.1), some ((eT eI) p42.2), none])) (i_exL (e := eW) (Rf.ok (a := s41) (e := (eL eW)) (p_var (x := (eL eW) s41) rfl))) (fun _ => rfl) (fun word43 => (y_call (a_m (y_call (a_p (p_var (x := (eP (eT eI) (eT eI)) histogram4) rfl) (a_p (p_var (x := (eT eI) p42.2) rfl) (a_nil (lfolded_h_ti_ok (m + 5) histogram4 p42.2))))) (fun x44 => a_p (p_var (x := eW word43) rfl) (a_nil (lsure_h_w_ok (m + 3) x44 word43))))))) (fun x46 => a_nil (Rf.ok (a := (x46.all id)) (e := eB) (o_all _)))))) (fun p42 => (Rf.ok (a := p42.2) (e := (eT eI)) (p_var (x := (eT eI) p42.2) rfl))))) (fun good50 =>
    (s_ite (y_cmp (b_m (y_call (a_p (p_var (x := (eP (eT eI) (eT eI)) histogram4) rfl) (a_p (p_var (x := (eL eW) s41) rfl) (a_nil (fewest_borders_h_lw_ok (m + 0) histogram4 s41))))) (fun x52 => b_m (y_ife_p (p_cmp (p_var (x := (eL (eT eI)) good50) rfl) (ty_p (e := (eL (eT eI))) (x := []) (p_lst p_nil rfl)) (o_ne (eqe_L (eqe_T eqe_I)) (by decide) _ _)) (Rf.conv (g := (eT eI)) (f := fun x51 : List Int => (some x51)) (g2 := (eO (eT eI))) (y_ix (b_p (p_var (x := (eL (eT eI)) good50) rfl) (b_p p_con ((o_ixL _ _))))) (fun _ => rfl)) (Rf.ok (a := none) (e := (eO (eT eI))) (ty_p (e := (eO (eT eI))) (x := none) p_con))) (fun x53 => (Rf.ok (a := (!decide (x52 = x53))) (e := eB) (o_ne (eqe_O (eqe_T eqe_I) nn_T) (by decide) _ _))))))
    (s_ret_p p_con (l_ret rfl rfl))
    (s_end (s_own_p (enc := eI) (xs := []) rfl (es_fp (ty_p (e := (eL eI)) (x := []) (p_lst p_nil rfl))) (s_for (er := eB) (fr := false) (E := (fun s56 : List Int => [.sh (eSc script0), .sh (eI i3), .sh ((eP (eT eI) (eT eI)) histogram4), .sh ((eT eI) p5.1), .sh (eI p5.2), .sh ((eL (eT eI)) s12), .no, .sh ((eL (eP eI (eT eI))) rows18), .sh ((eL eW) s41), .no, .no, .no, .no, .no, .no, .sh ((eL (eT eI)) good50), .own (List.map eI s56), .no, .no, .no, .no, .no, .no])) (E1 := fun s56 index57 => [.sh (eSc script0), .sh (eI i3), .sh ((eP (eT eI) (eT eI)) histogram4), .sh ((eT eI) p5.1), .sh (eI p5.2), .sh ((eL (eT eI)) s12), .no, .sh ((eL (eP eI (eT eI))) rows18), .sh ((eL eW) s41), .no, .no, .no, .no, .no, .no, .sh ((eL (eT eI)) good50), .own (List.map eI s56), .sh (eI index57), .no, .no, .no, .no, .no]) (i_r2 (Rf.ok (a := 1) (e := eI) p_con) (Rf.ok (a := ((p5.1.length : Int) - 1)) (e := eI) (p_bin (p_bi (p_cons (p_var (x := (eT eI) p5.1) rfl) p_nil) (o_lenT _)) p_con (o_sub _ _)))) (kw rfl) (fun _ _ => rfl) (fun s56 index57 =>
    (s_tp (E1 := fun p60 => [.sh (eSc script0), .sh (eI i3), .sh ((eP (eT eI) (eT eI)) histogram4), .sh ((eT eI) p5.1), .sh (eI p5.2), .sh ((eL (eT eI)) s12), .no, .sh ((eL (eP eI (eT eI))) rows18), .sh ((eL eW) s41), .no, .no, .sh ((eL eI) p60.1), .sh ((eL eI) p60.2), .no, .no, .sh ((eL (eT eI)) good50), .own (List.map eI s56), .sh (eI index57), .no, .no, .no, .no, .no]) (es_f (y_call (a_m (y_call (a_p (p_var (x := (eP (eT eI) (eT eI)) histogram4) rfl) (a_m (y_bin (b_p (p_sl (p_var (x := (eT eI) p5.1) rfl) po_no (po_so (p_var (x := eI index57) rfl)) (o_slT _ _ _)) (b_p (p_sl (p_var (x := (eT eI) p5.1) rfl) (po_so (p_bin (p_var (x := eI index57) rfl) p_con (o_add _ _))) po_no (o_slT _ _ _)) ((o_appT _ _))))) (fun x58 => a_nil (lfolded_h_ti_ok (m + 5) histogram4 x58))))) (fun x59 => a_nil (lends_h_ok (m + 5) x59))))) (fun _ => rfl) (fun p60 =>
    (s_app (enc := eI) (xs := s56) rfl (es_f (Rf.ok (a := (p60.2.sum - p60.1.sum)) (e := eI) (p_bin (p_bi (p_cons (p_var (x := (eL eI) p60.2) rfl) p_nil) (o_sumL _)) (p_bi (p_cons (p_var (x := (eL eI) p60.1) rfl) p_nil) (o_sumL _)) (o_sub _ _)))) (fun losses61 =>
    (s_end (l_nxw rfl))))))) (fun s63 =>
    (s_tp (E1 := fun p64 => [.sh (eSc script0), .sh (eI i3), .sh ((eP (eT eI) (eT eI)) histogram4), .sh ((eT eI) p5.1), .sh (eI p5.2), .sh ((eL (eT eI)) s12), .no, .sh ((eL (eP eI (eT eI))) rows18), .sh ((eL eW) s41), .no, .no, .sh ((eL eI) p64.1), .sh ((eL eI) p64.2), .no, .no, .sh ((eL (eT eI)) good50), .own (List.map eI s63), .no, .no, .no, .no, .no, .no]) (es_f (y_call (a_p (p_var (x := (eP (eT eI) (eT eI)) histogram4) rfl) (a_nil (lends_h_ok (m + 5) histogram4))))) (fun _ => rfl) (fun p64 =>
    (s_asg_p (d := eN ()) (es_fp p_con) (s_itj (er := eB) (fr := false) (E := (fun s72 : Option (Int × Int) => [.sh (eSc script0), .sh (eI i3), .sh ((eP (eT eI) (eT eI)) histogram4), .sh ((eT eI) p5.1), .sh (eI p5.2), .sh ((eL (eT eI)) s12), .no, .sh ((eL (eP eI (eT eI))) rows18), .sh ((eL eW) s41), .no, .no, .sh ((eL eI) p64.1), .sh ((eL eI) p64.2), .no, .no, .sh ((eL (eT eI)) good50), .own (List.map eI s63), .no, .sh ((eO (eP eI eI)) s72), .no, .no, .no, .no])) (Rf.ok (a := (!decide (s63 = []))) (e := eB) (p_cmp (p_var (x := (eL eI) s63) rfl) (ty_p (e := (eL eI)) (x := []) (p_lst p_nil rfl)) (o_ne (eqe_L eqe_I) (by decide) _ _)))
    (s_asg (enc := (eP eI eI)) (es_t (y_tup (a_m (y_bin (b_p p_con (b_m (y_me (b_p (p_var (x := (eL eI) s63) rfl) ((b_p rfl (a_m (y_bi (a_p (p_var (x := (eL eI) s63) rfl) (a_nil (o_minL _)))) (fun x65 => a_nil (o_index eqe_I at_I _ _))))))) (fun x66 => (Rf.ok (a := (1 + x66)) (e := eI) (o_add _ _)))))) (fun x69 => a_m (y_bin (b_m (y_bin (b_m (y_bi (a_p (p_var (x := (eL eI) s63) rfl) (a_nil (o_minL _)))) (fun x67 => b_p (p_bi (p_cons (p_var (x := (eL eI) p64.2) rfl) p_nil) (o_sumL _)) ((Rf.ok (a := (x67 - p64.2.sum)) (e := eI) (o_sub _ _)))))) (fun x68 => b_p (p_bi (p_cons (p_var (x := (eL eI) p64.1) rfl) p_nil) (o_sumL _)) ((Rf.ok (a := (x68 + p64.1.sum)) (e := eI) (o_add _ _)))))) (fun x70 => a_nil (Rf.ok (a := (x69, x70)) (e := (eP eI eI)) (o_okT rfl)))))) (fun _ => rfl)) (fun due71 =>
    (s_end (j_nx rfl))))
    (s_end (j_nx rfl)) (fun s72 =>
    (s_ite (y_cmp (b_m (y_call (a_p (p_var (x := (eP (eT eI) (eT eI)) histogram4) rfl) (a_nil (least_loss_h_ok (m + 1) histogram4)))) (fun x73 => b_p (p_var (x := (eO (eP eI eI)) s72) rfl) ((Rf.ok (a := (!decide (x73 = s72))) (e := eB) (o_ne (eqe_O (eqe_P (eqe_up (m := 0) eqe_I (by decide)) (eqe_up (m := 0) eqe_I (by decide))) nn_P) (by decide) _ _))))))
    (s_ret_p p_con (l_ret rfl rfl))
    (s_end (s_end (l_nxw rfl))))) (fun _ _ h => cl_ret rfl h)))))) (fun _ _ h => cl_ret rfl h))))))))) (fun _ _ h => cl_ret rfl h)))))) (fun _ _ h => cl_ret rfl h)))))))) (fun s88 =>
    (s_asg (enc := (eP (eT eI) (eT eI))) (es_f (Rf.ok (a := ([0, 5, 9, 12], [60, 50, 3])) (e := (eP (eT eI) (eT eI))) (ty_p (e := (eP (eT eI) (eT eI))) (x := ([0, 5, 9, 12], [60, 50, 3])) (p_tup (p_cons (ty_p (e := (eT eI)) (x := [0, 5, 9, 12]) (p_tup (p_cons p_con (p_cons p_con (p_cons p_con (p_cons p_con p_nil)))) rfl)) (p_cons (ty_p (e := (eT eI)) (x := [60, 50, 3]) (p_tup (p_cons p_con (p_cons p_con (p_cons p_con p_nil))) rfl)) p_nil)) rfl)))) (fun full89 =>
    (s_ite (y_or_m (y_cmp (b_m (y_call (a_p (ty_p (e := (eP (eT eI) (eT eI))) (x := ([0, 5, 9], [60, 60])) (p_tup (p_cons (ty_p (e := (eT eI)) (x := [0, 5, 9]) (p_tup (p_cons p_con (p_cons p_con (p_cons p_con p_nil))) rfl)) (p_cons (ty_p (e := (eT eI)) (x := [60, 60]) (p_tup (p_cons p_con (p_cons p_con p_nil)) rfl)) p_nil)) rfl)) (a_nil (least_loss_h_ok (m + 1) ([0, 5, 9], [60, 60]))))) (fun x90 => b_p p_con ((Rf.ok (a := (!x90.isNone)) (e := eB) (o_isnO nn_P _)))))) (y_cmp (b_m (y_call (a_p (p_var (x := (eP (eT eI) (eT eI)) full89) rfl) (a_p (ty_p (e := (eL eW)) (x := []) (p_lst p_nil rfl)) (a_nil (fewest_borders_h_lw_ok (m + 0) full89 []))))) (fun x91 => b_p (ty_p (e := (eO (eT eI))) (x := (some [0, 5, 12])) (ty_p (e := (eT eI)) (x := [0, 5, 12]) (p_tup (p_cons p_con (p_cons p_con (p_cons p_con p_nil))) rfl))) ((Rf.ok (a := (!decide (x91 = (some [0, 5, 12])))) (e := eB) (o_ne (eqe_O (eqe_T eqe_I) nn_T) (by decide) _ _)))))))
    (s_ret_p p_con (w_ret rfl rfl))
    (s_end (s_ite (y_or_m (y_cmp (b_m (y_call (a_p (ty_p (e := (eP (eT eI) (eT eI))) (x := ([0, 5, 9], [30, 30])) (p_tup (p_cons (ty_p (e := (eT eI)) (x := [0, 5, 9]) (p_tup (p_cons p_con (p_cons p_con (p_cons p_con p_nil))) rfl)) (p_cons (ty_p (e := (eT eI)) (x := [30, 30]) (p_tup (p_cons p_con (p_cons p_con p_nil)) rfl)) p_nil)) rfl)) (a_p (ty_p (e := (eT eI)) (x := [0, 9]) (p_tup (p_cons p_con (p_cons p_con p_nil)) rfl)) (a_nil (coarsened_h_ti_ok (m + 1) ([0, 5, 9], [30, 30]) [0, 9]))))) (fun x93 => b_p (ty_p (e := (eP (eT eI) (eT eI))) (x := ([0, 9], [60])) (p_tup (p_cons (ty_p (e := (eT eI)) (x := [0, 9]) (p_tup (p_cons p_con (p_cons p_con p_nil)) rfl)) (p_cons (ty_p (e := (eT eI)) (x := [60]) (p_tup (p_cons p_con p_nil) rfl)) p_nil)) rfl)) ((Rf.ok (a := (!decide (x93 = ([0, 9], [60])))) (e := eB) (o_ne (eqe_P (eqe_up (m := 1) (eqe_T eqe_I) (by decide)) (eqe_up (m := 1) (eqe_T eqe_I) (by decide))) (by decide) _ _)))))) (y_cmp (b_m (y_ix (b_m (y_call (a_p (p_var (x := (eP (eT eI) (eT eI)) full89) rfl) (a_nil (least_loss_h_ok (m + 1) full89)))) (fun x95 => b_p p_con ((opt_rf (e := (eP eI eI)) (o := x95) (k := fun d => ixF d (eI 0)) Rf.no (fun _ => Rf.ok rfl)))))) (fun x96 => b_p p_con ((Rf.ok (a := (!decide (x96 = 2))) (e := eB) (o_ne eqe_I (by decide) _ _)))))))
    (s_ret_p p_con (w_ret rfl rfl))
    (s_end (s_ite (y_cmp (b_m (y_call (a_p (ty_p (e := (eP (eT eI) (eT eI))) (x := ([0, 5, 9, 12], [3, 50, 60])) (p_tup (p_cons (ty_p (e := (eT eI)) (x := [0, 5, 9, 12]) (p_tup (p_cons p_con (p_cons p_con (p_cons p_con (p_cons p_con p_nil)))) rfl)) (p_cons (ty_p (e := (eT eI)) (x := [3, 50, 60]) (p_tup (p_cons p_con (p_cons p_con (p_cons p_con p_nil))) rfl)) p_nil)) rfl)) (a_m (y_bin (b_p (ty_p (e := (eL eW)) (x := [(W.mk "sum" [0, 9999])]) (p_lst (p_cons (ty_p (e := eW) (x := (W.mk "sum" [0, 9999])) (p_tup (p_cons p_con (p_cons p_con (p_cons p_con p_nil))) rfl)) p_nil) rfl)) (b_p p_con ((o_repL _ _))))) (fun x98 => a_nil (fewest_borders_h_lw_ok (m + 0) ([0, 5, 9, 12], [3, 50, 60]) x98))))) (fun x99 => b_p (ty_p (e := (eO (eT eI))) (x := (some [0, 9, 12])) (ty_p (e := (eT eI)) (x := [0, 9, 12]) (p_tup (p_cons p_con (p_cons p_con (p_cons p_con p_nil))) rfl))) ((Rf.ok (a := (!decide (x99 = (some [0, 9, 12])))) (e := eB) (o_ne (eqe_O (eqe_T eqe_I) nn_T) (by decide) _ _))))))
    (s_ret_p p_con (w_ret rfl rfl))
    (s_end (s_retm (y_cmp (b_m (y_call (a_p (ty_p (e := (eP (eT eI) (eT eI))) (x := ([0, 50, 51, 52], [3, 50, 60])) (p_tup (p_cons (ty_p (e := (eT eI)) (x := [0, 50, 51, 52]) (p_tup (p_cons p_con (p_cons p_con (p_cons p_con (p_cons p_con p_nil)))) rfl)) (p_cons (ty_p (e := (eT eI)) (x := [3, 50, 60]) (p_tup (p_cons p_con (p_cons p_con (p_cons p_con p_nil))) rfl)) p_nil)) rfl)) (a_nil (least_loss_h_ok (m + 1) ([0, 50, 51, 52], [3, 50, 60]))))) (fun x100 => b_p (ty_p (e := (eO (eP eI eI))) (x := (some (1, 2503))) (ty_p (e := (eP eI eI)) (x := (1, 2503)) (p_tup (p_cons p_con (p_cons p_con p_nil)) rfl))) ((Rf.ok (a := (decide (x100 = (some (1, 2503))))) (e := eB) (o_eq (eqe_O (eqe_P (eqe_up (m := 0) eqe_I (by decide)) (eqe_up (m := 0) eqe_I (by decide))) nn_P) (by decide) _ _)))))) rfl)))))))))) (fun _ _ h => cw_ret rfl h)))
theorem wish_of (h : ∀ ns : List Int, ns.length ≤ 63 → Y.law_k36 ns = .ok true) (ns : List Int) (hn : ns.length ≤ 63) : run T 40 32 [.scr ns] = .ok (.bl true) :=
  (law_k36_ok (33) ns).fin (h ns hn)
end K36
-- L0
set_option Elab.async false
set_option linter.all false
set_option maxRecDepth 100000
set_option maxHeartbeats 4000000
/-! L0: plain mathematics: buckets, fills, pointwise order, sorting. -/
namespace Y
open PL
abbrev Inc (bs : List Int) : Prop := bs.Pairwise (· < ·)
abbrev Asc (xs : List Int) : Prop := xs.Pairwise (· ≤ ·)
abbrev Hst := List Int × List Int
structure GH (h : Hst) : Prop where
  inc : Inc h.1
  n2 : 2 ≤ h.1.length
  n12 : h.1.length ≤ 12
  rg : ∀ b ∈ h.1, 0 ≤ b ∧ b ≤ 1000
  len : h.2.length + 1 = h.1.length
  cr : ∀ c ∈ h.2, 0 ≤ c ∧ c ≤ 60
  sm : h.2.sum ≤ 200
def fill : List Int → List Int → List Int
  | v :: vs, c :: cs => List.replicate c.toNat v ++ fill vs cs
  | _, _ => []
def low (h : Hst) : List Int := fill h.1 h.2
def high (h : Hst) : List Int := fill (h.1.tail.map (· - 1)) h.2
theorem fill_nil (cs : List Int) : fill [] cs = [] := by cases cs <;> rfl
theorem fill_nil2 (vs : List Int) : fill vs [] = [] := by cases vs <;> rfl
theorem fill_len : ∀ {vs cs : List Int}, cs.length ≤ vs.length → (∀ c ∈ cs, 0 ≤ c) → ((fill vs cs).length : Int) = cs.sum
  | vs, [], _, _ => by rw [fill_nil2]; rfl
  | [], c :: cs, h, _ => by simp at h
  | v :: vs, c :: cs, h, hc => by
    have ih := fill_len (vs := vs) (cs := cs) (by simpa using h) fun x hx => hc x (List.mem_cons_of_mem _ hx)
    have h0 := hc c (List.mem_cons_self ..)
    show ((List.replicate c.toNat v ++ fill vs cs).length : Int) = _
    rw [List.length_append, List.length_replicate, List.sum_cons]; omega
theorem fill_mem : ∀ {vs cs : List Int} {x : Int}, x ∈ fill vs cs → x ∈ vs
  | [], cs, x, h => by rw [fill_nil] at h; exact h
  | v :: vs, [], x, h => by cases h
  | v :: vs, c :: cs, x, h => by
    rcases List.mem_append.mp (show x ∈ List.replicate c.toNat v ++ fill vs cs from h) with h | h
    · rw [(List.mem_replicate.mp h).2]; exact List.mem_cons_self ..
    · exact List.mem_cons_of_mem _ (fill_mem h)
theorem fill_asc : ∀ {vs cs : List Int}, Asc vs → Asc (fill vs cs)
  | [], cs, _ => by rw [fill_nil]; exact List.Pairwise.nil
  | v :: vs, [], _ => List.Pairwise.nil
  | v :: vs, c :: cs, h => by
    obtain ⟨h1, h2⟩ := List.pairwise_cons.mp h
    show Asc (List.replicate c.toNat v ++ fill vs cs)
    refine List.pairwise_append.mpr ⟨List.pairwise_replicate.mpr (.inr (Int.le_refl _)), fill_asc h2, fun a ha b hb => ?_⟩
    rw [(List.mem_replicate.mp ha).2]
    exact h1 b (fill_mem hb)
theorem inc_asc {bs : List Int} (h : Inc bs) : Asc bs := h.imp fun h => Int.le_of_lt h
theorem inc_tail {bs : List Int} (h : Inc bs) : Inc bs.tail := by
  cases bs with
  | nil => exact h
  | cons b r => exact (List.pairwise_cons.mp h).2
theorem inc_sub {bs : List Int} (h : Inc bs) (k : Int) : Inc (bs.map (· - k)) := by
  rw [Inc, List.pairwise_map]
  exact h.imp fun h => by omega
theorem GH.c0 {h : Hst} (g : GH h) : ∀ c ∈ h.2, 0 ≤ c := fun c hc => (g.cr c hc).1
theorem low_len {h : Hst} (g : GH h) : ((low h).length : Int) = h.2.sum := fill_len (by have := g.len; omega) g.c0
theorem high_len {h : Hst} (g : GH h) : ((high h).length : Int) = h.2.sum := fill_len (by
  have := g.len
  rw [List.length_map, List.length_tail]; omega) g.c0
theorem low_asc {h : Hst} (g : GH h) : Asc (low h) := fill_asc (inc_asc g.inc)
theorem high_asc {h : Hst} (g : GH h) : Asc (high h) := fill_asc (inc_asc (inc_sub (inc_tail g.inc) 1))
/-! ### data by buckets -/
inductive Bks : List Int → List Int → List Int → Prop
  | nil (b : Int) : Bks [b] [] []
  | cons {b b' : Int} {r cs : List Int} {c : Int} {ys zs : List Int} (hc : (ys.length : Int) = c) (hy : ∀ y ∈ ys, b ≤ y ∧ y < b') (h : Bks (b' :: r) cs zs) : Bks (b :: b' :: r) (c :: cs) (ys ++ zs)
theorem Bks.low : ∀ {bs cs : List Int}, Inc bs → cs.length + 1 = bs.length → (∀ c ∈ cs, 0 ≤ c) → Bks bs cs (fill bs cs)
  | [b], [], _, _, _ => .nil b
  | b :: b' :: r, c :: cs, hi, hl, hc => by
    obtain ⟨h1, h2⟩ := List.pairwise_cons.mp hi
    have h0 := hc c (List.mem_cons_self ..)
    refine .cons (by rw [List.length_replicate]; omega) (fun y hy => ?_) (Bks.low h2 (by simpa using hl) fun x hx => hc x (List.mem_cons_of_mem _ hx))
    rw [(List.mem_replicate.mp hy).2]
    exact ⟨Int.le_refl _, h1 b' (List.mem_cons_self ..)⟩
  | [], [], _, h, _ => by simp at h
  | [], _ :: _, _, h, _ => by simp at h
  | [_], _ :: _, _, h, _ => by simp at h
  | _ :: _ :: _, [], _, h, _ => by simp at h
theorem Bks.high : ∀ {bs cs : List Int}, Inc bs → cs.length + 1 = bs.length → (∀ c ∈ cs, 0 ≤ c) → Bks bs cs (fill (bs.tail.map (· - 1)) cs)
  | [b], [], _, _, _ => .nil b
  | b :: b' :: r, c :: cs, hi, hl, hc => by
    obtain ⟨h1, h2⟩ := List.pairwise_cons.mp hi
    have h0 := hc c (List.mem_cons_self ..)
    have hb := h1 b' (List.mem_cons_self ..)
    refine .cons (by rw [List.length_replicate]; omega) (fun y hy => ?_) (Bks.high h2 (by simpa using hl) fun x hx => hc x (List.mem_cons_of_mem _ hx))
    rw [(List.mem_replicate.mp hy).2]
    show b ≤ b' - 1 ∧ b' - 1 < b'
    omega
  | [], [], _, h, _ => by simp at h
  | [], _ :: _, _, h, _ => by simp at h
  | [_], _ :: _, _, h, _ => by simp at h
  | _ :: _ :: _, [], _, h, _ => by simp at h
theorem Bks.len {bs cs xs : List Int} (h : Bks bs cs xs) : (xs.length : Int) = cs.sum := by
  induction h with
  | nil b => rfl
  | cons hc hy h ih => rw [List.length_append, List.sum_cons]; omega
theorem Bks.ge {bs cs xs : List Int} (h : Bks bs cs xs) (hi : Inc bs) : ∀ x ∈ xs, ∀ b ∈ bs.head?, b ≤ x := by
  induction h with
  | nil b => intro x hx; cases hx
  | @cons b b' r cs c ys zs hc hy h ih =>
    obtain ⟨h1, h2⟩ := List.pairwise_cons.mp hi
    intro x hx b0 hb0
    cases hb0
    rcases List.mem_append.mp hx with hx | hx
    · exact (hy x hx).1
    · have := ih h2 x hx b' rfl
      have := h1 b' (List.mem_cons_self ..)
      omega
theorem Bks.lt {bs cs xs : List Int} (h : Bks bs cs xs) (hi : Inc bs) : ∀ x ∈ xs, ∀ b ∈ bs.getLast?, x < b := by
  induction h with
  | nil b => intro x hx; cases hx
  | @cons b b' r cs c ys zs hc hy h ih =>
    obtain ⟨h1, h2⟩ := List.pairwise_cons.mp hi
    intro x hx b0 hb0
    have hb0 : b0 ∈ (b' :: r).getLast? := by rw [List.getLast?_cons_cons] at hb0; exact hb0
    rcases List.mem_append.mp hx with hx | hx
    · have := (hy x hx).2
      have hm := List.mem_of_getLast? hb0
      rcases List.mem_cons.mp hm with rfl | hm
      · exact this
      · have := (List.pairwise_cons.mp h2).1 b0 hm
        omega
    · exact ih h2 x hx b0 hb0
/-! pointwise order -/
inductive PLe : List Int → List Int → Prop
  | nil : PLe [] []
  | cons {x y : Int} {xs ys : List Int} (h : x ≤ y) (t : PLe xs ys) : PLe (x :: xs) (y :: ys)
theorem PLe.refl : ∀ xs : List Int, PLe xs xs
  | [] => .nil
  | x :: xs => .cons (Int.le_refl _) (PLe.refl xs)
theorem PLe.app {a b c d : List Int} (h : PLe a b) (h2 : PLe c d) : PLe (a ++ c) (b ++ d) := by
  induction h with
  | nil => exact h2
  | cons h t ih => exact .cons h ih
theorem PLe.rep_l {v : Int} : ∀ {xs : List Int}, (∀ x ∈ xs, v ≤ x) → PLe (List.replicate xs.length v) xs
  | [], _ => .nil
  | x :: xs, h => .cons (h x (List.mem_cons_self ..)) (PLe.rep_l fun y hy => h y (List.mem_cons_of_mem _ hy))
theorem PLe.rep_r {v : Int} : ∀ {xs : List Int}, (∀ x ∈ xs, x ≤ v) → PLe xs (List.replicate xs.length v)
  | [], _ => .nil
  | x :: xs, h => .cons (h x (List.mem_cons_self ..)) (PLe.rep_r fun y hy => h y (List.mem_cons_of_mem _ hy))
theorem PLe.len {a b : List Int} (h : PLe a b) : a.length = b.length := by
  induction h with
  | nil => rfl
  | cons h t ih => simp [ih]
theorem PLe.get {a b : List Int} (h : PLe a b) : ∀ (i : Nat) (h1 : i < a.length) (h2 : i < b.length), a[i] ≤ b[i] := by
  induction h with
  | nil => intro i h1; simp at h1
  | cons h t ih =>
    intro i h1 h2
    cases i with
    | zero => exact h
    | succ i => exact ih i (by simpa using h1) (by simpa using h2)
theorem PLe.of {a b : List Int} (hl : a.length = b.length) (h : ∀ (i : Nat) (h1 : i < a.length) (h2 : i < b.length), a[i] ≤ b[i]) : PLe a b := by
  induction a generalizing b with
  | nil => cases b with
    | nil => exact .nil
    | cons => simp at hl
  | cons x a ih => cases b with
    | nil => simp at hl
    | cons y b =>
      refine .cons (h 0 (by simp) (by simp)) (ih (by simpa using hl) fun i h1 h2 => ?_)
      have := h (i + 1) (by simpa using h1) (by simpa using h2)
      simpa using this
theorem PLe.trans {a b c : List Int} (h : PLe a b) (h2 : PLe b c) : PLe a c :=
  PLe.of (h.len.trans h2.len) fun i h1 h3 => Int.le_trans (h.get i h1 (by rw [← h.len]; exact h1)) (h2.get i (by rw [← h.len]; exact h1) h3)
theorem PLe.sum {a b : List Int} (h : PLe a b) : a.sum ≤ b.sum := by
  induction h with
  | nil => exact Int.le_refl _
  | cons h t ih => rw [List.sum_cons, List.sum_cons]; omega
/-- numbers less than v -/
def less (v : Int) (xs : List Int) : Int := ((xs.filter fun x => decide (x < v)).length : Int)
theorem less_cons (v x : Int) (xs : List Int) : less v (x :: xs) = (if x < v then 1 else 0) + less v xs := by
  unfold less
  by_cases h : x < v
  · rw [List.filter_cons_of_pos (by simpa using h), if_pos h, List.length_cons]; omega
  · rw [List.filter_cons_of_neg (by simpa using h), if_neg h]; omega
theorem PLe.less {a b : List Int} (h : PLe a b) (v : Int) : less v b ≤ less v a := by
  induction h with
  | nil => exact Int.le_refl _
  | cons h t ih =>
    rw [less_cons, less_cons]
    split <;> split <;> omega
theorem Bks.le_low {bs cs xs : List Int} (h : Bks bs cs xs) : PLe (fill bs cs) xs := by
  induction h with
  | nil b => exact .nil
  | @cons b b' r cs c ys zs hc hy h ih =>
    show PLe (List.replicate c.toNat b ++ fill (b' :: r) cs) (ys ++ zs)
    have e : c.toNat = ys.length := by omega
    rw [e]
    exact (PLe.rep_l fun y hy' => (hy y hy').1).app ih
theorem Bks.le_high {bs cs xs : List Int} (h : Bks bs cs xs) : PLe xs (fill (bs.tail.map (· - 1)) cs) := by
  induction h with
  | nil b => exact .nil
  | @cons b b' r cs c ys zs hc hy h ih =>
    show PLe (ys ++ zs) (List.replicate c.toNat (b' - 1) ++ fill (r.map (· - 1)) cs)
    have e : c.toNat = ys.length := by omega
    rw [e]
    exact (PLe.rep_r fun y hy' => by have := (hy y hy').2; omega).app ih
/-! ### counts -/
def inb (a b : Int) (v : Int) : Bool := decide (a ≤ v) && decide (v < b)
def cnts (bs xs : List Int) : List Int := (bs.zip bs.tail).map fun p => (((xs.filter (inb p.1 p.2)).length : Nat) : Int)
theorem cnts_cons (b b' : Int) (r xs : List Int) : cnts (b :: b' :: r) xs = (((xs.filter (inb b b')).length : Nat) : Int) :: cnts (b' :: r) xs := rfl
theorem cnts_one (b : Int) (xs : List Int) : cnts [b] xs = [] := rfl
theorem cnts_len (bs xs : List Int) : (cnts bs xs).length = bs.length - 1 := by
  unfold cnts
  rw [List.length_map, List.length_zip, List.length_tail]; omega
theorem cnts_nn (bs xs : List Int) : ∀ c ∈ cnts bs xs, 0 ≤ c := fun c hc => by
  obtain ⟨p, _, rfl⟩ := List.mem_map.mp hc
  omega
theorem filter_none {p : Int → Bool} {xs : List Int} (h : ∀ x ∈ xs, p x = false) : xs.filter p = [] :=
  List.filter_eq_nil_iff.mpr fun x hx => by rw [h x hx]; exact Bool.false_ne_true
theorem filter_all {p : Int → Bool} {xs : List Int} (h : ∀ x ∈ xs, p x = true) : xs.filter p = xs := List.filter_eq_self.mpr h
/-- what lies below the first border counts nowhere -/
theorem cnts_skip : ∀ {bs : List Int} {b : Int} {ys zs : List Int}, Inc (b :: bs) → (∀ y ∈ ys, y < b) → cnts (b :: bs) (ys ++ zs) = cnts (b :: bs) zs
  | [], b, ys, zs, _, _ => rfl
  | b' :: bs, b, ys, zs, hi, hy => by
    obtain ⟨h1, h2⟩ := List.pairwise_cons.mp hi
    have hb := h1 b' (List.mem_cons_self ..)
    rw [cnts_cons, cnts_cons, cnts_skip h2 fun y h => by have := hy y h; omega, List.filter_append, filter_none (fun y h => ?_), List.nil_append]
    have := hy y h
    unfold inb
    rw [decide_eq_false (by omega)]; rfl
theorem Bks.cnts {bs cs xs : List Int} (h : Bks bs cs xs) (hi : Inc bs) : cnts bs xs = cs := by
  induction h with
  | nil b => rfl
  | @cons b b' r cs c ys zs hc hy h ih =>
    obtain ⟨h1, h2⟩ := List.pairwise_cons.mp hi
    rw [cnts_cons, cnts_skip h2 fun y hy' => (hy y hy').2, ih h2, List.filter_append]
    rw [filter_all (fun y hy' => ?_), filter_none (fun z hz => ?_), List.append_nil, hc]
    · have := h.ge h2 z hz b' rfl
      unfold inb
      rw [decide_eq_false (show ¬ z < b' by omega), Bool.and_false]
    · obtain ⟨q1, q2⟩ := hy y hy'
      unfold inb
      rw [decide_eq_true q1, decide_eq_true q2]; rfl
theorem filter_split {p : Int → Bool} : ∀ xs : List Int, (xs.filter p).length + (xs.filter fun x => !p x).length = xs.length
  | [] => rfl
  | x :: xs => by
    have ih := filter_split (p := p) xs
    cases h : p x
    · rw [List.filter_cons_of_neg (by rw [h]; exact Bool.false_ne_true), List.filter_cons_of_pos (by rw [h]; rfl)]
      simp only [List.length_cons]; omega
    · rw [List.filter_cons_of_pos h, List.filter_cons_of_neg (by rw [h]; exact Bool.false_ne_true)]
      simp only [List.length_cons]; omega
theorem asc_split {b : Int} : ∀ {xs : List Int}, Asc xs → xs = (xs.filter fun x => decide (x < b)) ++ xs.filter fun x => decide (b ≤ x)
  | [], _ => rfl
  | x :: xs, h => by
    obtain ⟨h1, h2⟩ := List.pairwise_cons.mp h
    have ih := asc_split (b := b) h2
    by_cases hx : x < b
    · rw [List.filter_cons_of_pos (by simpa using hx), List.filter_cons_of_neg (by simp; omega), List.cons_append, ← ih]
    · rw [List.filter_cons_of_neg (by simpa using hx), List.filter_cons_of_pos (by simp; omega)]
      rw [filter_none (fun y hy => by have := h1 y hy; exact decide_eq_false (by omega)), filter_all (fun y hy => by have := h1 y hy; exact decide_eq_true (by omega))]
      rfl
theorem cnts_sum_le : ∀ {bs : List Int}, Inc bs → ∀ xs : List Int, (cnts bs xs).sum ≤ xs.length
  | [], _, xs => by show (0 : Int) ≤ _; omega
  | [b], _, xs => by show (0 : Int) ≤ _; omega
  | b :: b' :: r, hi, xs => by
    obtain ⟨h1, h2⟩ := List.pairwise_cons.mp hi
    rw [cnts_cons, List.sum_cons]
    have e : cnts (b' :: r) xs = cnts (b' :: r) (xs.filter fun x => !inb b b' x) := by
      unfold cnts
      apply List.map_congr_left
      intro p hp
      rw [List.filter_filter]
      congr 2
      apply List.filter_congr
      intro v _
      have hp1 : b' ≤ p.1 := by
        have := (List.of_mem_zip hp).1
        rcases List.mem_cons.mp this with e | hm
        · rw [e]; exact Int.le_refl _
        · exact Int.le_of_lt ((List.pairwise_cons.mp h2).1 _ hm)
      unfold inb
      by_cases q : p.1 ≤ v
      · rw [decide_eq_false (show ¬ v < b' by omega), Bool.and_false]; simp
      · rw [decide_eq_false q]; simp
    have ih := cnts_sum_le h2 (xs.filter fun x => !inb b b' x)
    rw [← e] at ih
    have := filter_split (p := inb b b') xs
    omega
theorem Bks.of : ∀ {bs cs xs : List Int}, Inc bs → bs ≠ [] → Asc xs → Y.cnts bs xs = cs → (xs.length : Int) = cs.sum → Bks bs cs xs
  | [], _, _, _, h, _, _, _ => absurd rfl h
  | [b], cs, xs, hi, _, ha, hc, hl => by
    subst hc
    have : xs = [] := by
      cases xs with
      | nil => rfl
      | cons x xs => rw [cnts_one] at hl; simp at hl; omega
    subst this
    exact .nil b
  | b :: b' :: r, cs, xs, hi, _, ha, hc, hl => by
    subst hc
    obtain ⟨h1, h2⟩ := List.pairwise_cons.mp hi
    have sp := asc_split (b := b') ha
    have hys : ∀ y ∈ xs.filter (fun x => decide (x < b')), y < b' := fun y hy => by simpa using (List.mem_filter.mp hy).2
    have hzs : ∀ y ∈ xs.filter (fun x => decide (b' ≤ x)), b' ≤ y := fun y hy => by simpa using (List.mem_filter.mp hy).2
    have az : Asc (xs.filter fun x => decide (b' ≤ x)) := ha.filter _
    generalize xs.filter (fun x => decide (x < b')) = ys at sp hys
    generalize xs.filter (fun x => decide (b' ≤ x)) = zs at sp hzs az
    subst sp
    rw [cnts_cons, List.filter_append, filter_none (xs := zs) (fun z hz => by
      have := hzs z hz
      unfold inb
      rw [decide_eq_false (show ¬ z < b' by omega), Bool.and_false]), List.append_nil, cnts_skip h2 hys] at hl ⊢
    rw [List.length_append, List.sum_cons] at hl
    have s1 := cnts_sum_le h2 zs
    have s2 : (ys.filter (inb b b')).length ≤ ys.length := List.length_filter_le _ _
    have e1 : (ys.filter (inb b b')).length = ys.length := by omega
    have e2 : ys.filter (inb b b') = ys := (List.filter_sublist).eq_of_length e1
    refine .cons (by rw [e1]) (fun y hy => ?_) (Bks.of h2 (by simp) az rfl (by omega))
    have := (List.filter_eq_self.mp e2) y hy
    unfold inb at this
    simpa using this
theorem cnts_perm {bs xs ys : List Int} (h : xs.Perm ys) : cnts bs xs = cnts bs ys := by
  unfold cnts
  apply List.map_congr_left
  intro p _
  rw [(h.filter _).length_eq]
theorem asc_sort {xs : List Int} (h : Asc xs) : sortI xs = xs := sorted_uniq (sortI_perm xs) (sortI_sorted xs) h
/-- data with a histogram -/
structure Has (h : Hst) (xs : List Int) : Prop where
  asc : Asc xs
  b : Bks h.1 h.2 xs
theorem Has.of_sort {h : Hst} (hi : Inc h.1) (hn : h.1 ≠ []) {F : List Int} (b : Bks h.1 h.2 F) : Has h (sortI F) :=
  ⟨sortI_sorted F, Bks.of hi hn (sortI_sorted F) ((cnts_perm (sortI_perm F)).trans (b.cnts hi)) (by rw [(sortI_perm F).length_eq]; exact b.len)⟩
theorem GH.ne {h : Hst} (g : GH h) : h.1 ≠ [] := fun z => by have := g.n2; rw [z] at this; simp at this
theorem has_low {h : Hst} (g : GH h) : Has h (low h) := ⟨low_asc g, Bks.low g.inc g.len g.c0⟩
theorem has_high {h : Hst} (g : GH h) : Has h (high h) := ⟨high_asc g, Bks.high g.inc g.len g.c0⟩
theorem Has.lo {h : Hst} {xs : List Int} (d : Has h xs) : PLe (low h) xs := d.b.le_low
theorem Has.hi {h : Hst} {xs : List Int} (d : Has h xs) : PLe xs (high h) := d.b.le_high
theorem Has.len {h : Hst} {xs : List Int} (d : Has h xs) : (xs.length : Int) = h.2.sum := d.b.len
theorem Has.rg {h : Hst} {xs : List Int} (g : GH h) (d : Has h xs) : ∀ x ∈ xs, 0 ≤ x ∧ x ≤ 999 := fun x hx => by
  obtain ⟨b, r, e⟩ : ∃ b r, h.1 = b :: r := by
    cases q : h.1 with
    | nil => exact absurd q g.ne
    | cons b r => exact ⟨b, r, rfl⟩
  have h1 := d.b.ge g.inc x hx b (by rw [e]; rfl)
  have h2 := d.b.lt g.inc x hx (h.1.getLast g.ne) (by rw [List.getLast?_eq_some_getLast g.ne]; rfl)
  have h3 := g.rg b (by rw [e]; exact List.mem_cons_self ..)
  have h4 := g.rg _ (List.getLast_mem g.ne)
  omega
theorem has_iff {h : Hst} (g : GH h) (xs : List Int) : Has h xs ↔ xs = sortI xs ∧ cnts h.1 xs = h.2 ∧ (xs.length : Int) = h.2.sum :=
  ⟨fun d => ⟨(asc_sort d.asc).symm, d.b.cnts g.inc, d.len⟩, fun ⟨h1, h2, h3⟩ => by
    have a : Asc xs := by rw [h1]; exact sortI_sorted xs
    exact ⟨a, Bks.of g.inc g.ne a h2 h3⟩⟩
end Y
-- L1
set_option Elab.async false
set_option linter.all false
set_option maxRecDepth 100000
set_option maxHeartbeats 4000000
/-! L1: typed operations, loops: when they succeed. -/
namespace Y
open PL
variable {α β γ σ ρ τ : Type}
theorem sz_big : (16777216 : Nat) = sz := rfl
theorem rb_step {t : Res α} {f : α → Res β} {a : α} {r : Res β} (h : t = .ok a) (h2 : f a = r) : t.rb f = r := by rw [h]; exact h2
theorem lenT_ok {xs : List α} (h : xs.length ≤ 1000000) : lenT xs = .ok xs := if_pos (by have := sz_big; omega)
theorem pushT_ok {xs : List α} {x : α} (h : xs.length ≤ 1000000) : pushT xs x = .ok (xs ++ [x]) := if_pos (by have := sz_big; omega)
theorem extT_ok {xs ys : List α} (h : xs.length + ys.length ≤ 1000000) : extT xs ys = .ok (xs ++ ys) := if_pos (by have := sz_big; omega)
theorem appT_ok {xs ys : List α} (h : xs.length + ys.length ≤ 1000000) : appT xs ys = .ok (xs ++ ys) := if_pos (by have := sz_big; omega)
theorem rgT_ok {xs : List α} (h : xs.length ≤ 1000000) : rgT xs = .ok xs := if_pos h
theorem repT_ok {x : α} {k : Int} (h0 : 0 ≤ k) (h1 : k ≤ 1000000) : repT [x] k = .ok (List.replicate k.toNat x) := by
  unfold repT
  have e : (List.replicate k.toNat [x]).flatten = List.replicate k.toNat x := by
    induction k.toNat with
    | zero => rfl
    | succ n ih => rw [List.replicate_succ, List.flatten_cons, ih]; rfl
  rw [if_pos, e]
  have := sz_big
  have s1 : [x].length * k.toNat ≤ sz := by simp only [List.length_singleton]; omega
  rw [decide_eq_true s1, decide_eq_true (show -(2 ^ 62) ≤ k by omega), decide_eq_true (show k < 2 ^ 62 by omega)]; rfl
theorem small62_of {i : Int} (h : -1000000000 ≤ i) (h2 : i ≤ 1000000000) : small62 i = true := by
  unfold small62
  rw [decide_eq_true (by omega), decide_eq_true (by omega)]; rfl
theorem rngT_ok {lo hi : Int} (h1 : -1000000000 ≤ lo) (h2 : lo ≤ 1000000000) (h3 : -1000000000 ≤ hi) (h4 : hi ≤ 1000000000) : rngT lo hi = .ok (rangeI lo hi) := by
  unfold rngT
  rw [small62_of h1 h2, small62_of h3 h4]; rfl
theorem mem_rangeI {lo hi x : Int} : x ∈ rangeI lo hi ↔ lo ≤ x ∧ x < hi := by
  unfold rangeI
  rw [List.mem_map]
  constructor
  · rintro ⟨i, hi, rfl⟩
    have := List.mem_range.mp hi
    omega
  · intro ⟨h1, h2⟩
    exact ⟨(x - lo).toNat, List.mem_range.mpr (by omega), by omega⟩
theorem rangeI_len (lo hi : Int) : (rangeI lo hi).length = (hi - lo).toNat := by
  unfold rangeI; rw [List.length_map, List.length_range]
theorem rangeI_0 (n : Nat) : rangeI 0 (n : Int) = (List.range n).map fun i : Nat => (i : Int) := by
  unfold rangeI
  rw [show ((n : Int) - 0).toNat = n by omega]
  apply List.map_congr_left
  intro i _
  omega
theorem rangeI_get {lo hi : Int} {i : Nat} (h : i < (rangeI lo hi).length) : (rangeI lo hi)[i] = lo + i := by
  simp [rangeI]
theorem mapR_ok {f : α → Res β} {g : α → β} : ∀ {xs : List α}, (∀ x ∈ xs, f x = .ok (g x)) → mapR f xs = .ok (xs.map g)
  | [], _ => rfl
  | x :: xs, h => by
    show ((f x).nox.rb fun y => (mapR f xs).rb fun ys => .ok (y :: ys)) = _
    rw [h x (List.mem_cons_self ..), mapR_ok fun y hy => h y (List.mem_cons_of_mem _ hy)]; rfl
theorem mapR_ex {f : α → Res β} {P : α → β → Prop} : ∀ {xs : List α}, (∀ x ∈ xs, ∃ y, f x = .ok y ∧ P x y) → ∃ ys, mapR f xs = .ok ys ∧ ys.length = xs.length ∧ ∀ y ∈ ys, ∃ x ∈ xs, P x y
  | [], _ => ⟨[], rfl, rfl, fun _ h => nomatch h⟩
  | x :: xs, h => by
    obtain ⟨y, h1, h2⟩ := h x (List.mem_cons_self ..)
    obtain ⟨ys, h3, h4, h5⟩ := mapR_ex fun z hz => h z (List.mem_cons_of_mem _ hz)
    refine ⟨y :: ys, ?_, by simp [h4], fun z hz => ?_⟩
    · show ((f x).nox.rb fun y => (mapR f xs).rb fun ys => .ok (y :: ys)) = _
      rw [h1, h3]; rfl
    · rcases List.mem_cons.mp hz with rfl | hz
      · exact ⟨x, List.mem_cons_self .., h2⟩
      · obtain ⟨w, q1, q2⟩ := h5 z hz
        exact ⟨w, List.mem_cons_of_mem _ q1, q2⟩
theorem cmpR_ok {f : α → Res (Option β)} {g : α → Option β} : ∀ {xs : List α}, (∀ x ∈ xs, f x = .ok (g x)) → cmpR f xs = .ok (xs.filterMap g)
  | [], _ => rfl
  | x :: xs, h => by
    show ((f x).nox.rb fun o => (cmpR f xs).rb fun ys => match o with
      | some y => .ok (y :: ys)
      | none => .ok ys) = _
    rw [h x (List.mem_cons_self ..), cmpR_ok fun y hy => h y (List.mem_cons_of_mem _ hy)]
    cases q : g x with
    | none => rw [List.filterMap_cons_none q]; rfl
    | some y => rw [List.filterMap_cons_some q]; rfl
theorem forT_cons {f : σ → α → Res (Stp σ ρ)} {x : α} {xs : List α} {s s' : σ} (h : f s x = .ok (.nx s')) : forT f (x :: xs) s = forT f xs s' := by
  show (f s x).rb _ = _
  rw [h]; rfl
theorem forT_cons_ret {f : σ → α → Res (Stp σ ρ)} {x : α} {xs : List α} {s : σ} {r : ρ} (h : f s x = .ok (.ret r)) : forT f (x :: xs) s = .ok (.ret r) := by
  show (f s x).rb _ = _
  rw [h]; rfl
theorem forT_all {f : Unit → α → Res (Stp Unit ρ)} : ∀ {xs : List α}, (∀ x ∈ xs, f () x = .ok (.nx ())) → forT f xs () = .ok (.nx ())
  | [], _ => rfl
  | x :: xs, h => (forT_cons (h x (List.mem_cons_self ..))).trans (forT_all fun y hy => h y (List.mem_cons_of_mem _ hy))
theorem forT_inv {f : σ → α → Res (Stp σ ρ)} (Inv : Nat → σ → Prop) : ∀ {xs : List α} {k : Nat} {s : σ}, Inv k s → (∀ (i : Nat) (hi : i < xs.length) (s : σ), Inv (k + i) s → ∃ s', f s xs[i] = .ok (.nx s') ∧ Inv (k + i + 1) s') → ∃ s', forT f xs s = .ok (.nx s') ∧ Inv (k + xs.length) s'
  | [], k, s, h0, _ => ⟨s, rfl, h0⟩
  | x :: xs, k, s, h0, h => by
    obtain ⟨s1, h1, h2⟩ := h 0 (by simp) s h0
    obtain ⟨s2, h3, h4⟩ := forT_inv (xs := xs) (k := k + 1) (s := s1) Inv h2 fun i hi s hs => by
      have := h (i + 1) (by simpa using hi) s (by rw [show k + (i + 1) = k + 1 + i by omega]; exact hs)
      rw [show k + (i + 1) + 1 = k + 1 + i + 1 by omega] at this
      exact this
    exact ⟨s2, (forT_cons h1).trans h3, by rw [List.length_cons, show k + (xs.length + 1) = k + 1 + xs.length by omega]; exact h4⟩
/-- a loop over 0 .. n-1 -/
theorem forT_range {f : σ → Int → Res (Stp σ ρ)} (Inv : Nat → σ → Prop) {n : Nat} {s : σ} (h0 : Inv 0 s) (h : ∀ (i : Nat) (s : σ), i < n → Inv i s → ∃ s', f s (i : Int) = .ok (.nx s') ∧ Inv (i + 1) s') : ∃ s', forT f (rangeI 0 n) s = .ok (.nx s') ∧ Inv n s' := by
  obtain ⟨s', h1, h2⟩ := forT_inv (xs := rangeI 0 (n : Int)) (k := 0) (s := s) Inv h0 fun i hi s hs => by
    rw [rangeI_get hi]
    rw [rangeI_len] at hi
    have := h i s (by omega) (by rw [Nat.zero_add] at hs; exact hs)
    rw [Nat.zero_add, Int.zero_add]; exact this
  rw [rangeI_len] at h2
  exact ⟨s', h1, by rw [show 0 + ((n : Int) - 0).toNat = n by omega] at h2; exact h2⟩
theorem atT_nat {xs : List α} {i : Nat} (h : i < xs.length) : atT xs (i : Int) = .ok xs[i] := by
  unfold atT
  rw [atI_nn h]; rfl
theorem atT_get {xs : List α} {i : Int} {j : Nat} (hj : i = j) (h : j < xs.length) : atT xs i = .ok xs[j] := by
  rw [hj]; exact atT_nat h
theorem atT_last {xs : List α} (h : xs ≠ []) : atT xs (-1) = .ok (xs.getLast h) := by
  unfold atT
  rw [atI_last h]; rfl
theorem atT_mem {xs : List α} {i : Int} (h0 : 0 ≤ i) (h : i < xs.length) : ∃ x, atT xs i = .ok x ∧ x ∈ xs := by
  obtain ⟨n, rfl⟩ := Int.eq_ofNat_of_zero_le h0
  exact ⟨_, atT_nat (by omega), List.getElem_mem _⟩
theorem mulT_l {x y : Int} (h : -1000000000 ≤ x) (h2 : x ≤ 1000000000) : mulT x y = .ok (x * y) := by
  unfold mulT
  rw [small_of (by omega) (by omega)]; rfl
theorem mulT_r {x y : Int} (h : -1000000000 ≤ y) (h2 : y ≤ 1000000000) : mulT x y = .ok (x * y) := by
  unfold mulT
  rw [small_of (a := y) (by omega) (by omega), Bool.or_true]; rfl
theorem modT_ok {x y : Int} (h : 0 < y) : modT x y = .ok (x % y) := if_pos (decide_eq_true h)
theorem fdivT_ok {x y : Int} (h : 0 < y) (h2 : y ≤ 1000000000) : fdivT x y = .ok (x / y) := by
  unfold fdivT
  rw [decide_eq_true h, decide_eq_true (by omega)]; rfl
theorem cut_1 (xs : List α) : cut xs (some 1) none = xs.tail := cut1 xs
theorem cut_lo (xs : List α) {k : Nat} : cut xs (some (k : Int)) none = xs.drop k := by
  unfold cut
  show (xs.drop (HT.sIx xs.length 0 (some (k : Int)))).take (xs.length - HT.sIx xs.length 0 (some (k : Int))) = _
  rw [HT.sIx_nat]
  by_cases h : k ≤ xs.length
  · rw [Nat.min_eq_left h]
    exact List.take_of_length_le (by rw [List.length_drop]; exact Nat.le_refl _)
  · rw [Nat.min_eq_right (by omega), List.drop_length, List.drop_eq_nil_of_le (by omega)]; simp
theorem cut_hi (xs : List α) {k : Nat} : cut xs none (some (k : Int)) = xs.take k := by
  unfold cut
  show (xs.drop 0).take (HT.sIx xs.length xs.length (some (k : Int)) - 0) = _
  rw [HT.sIx_nat, List.drop_zero, Nat.sub_zero]
  by_cases h : k ≤ xs.length
  · rw [Nat.min_eq_left h]
  · rw [Nat.min_eq_right (by omega), List.take_of_length_le (Nat.le_refl _), List.take_of_length_le (by omega)]
theorem cut_0m1 (xs : List α) : cut xs none (some (-1)) = xs.dropLast := by
  unfold cut
  show (xs.drop 0).take ((if (-1 : Int) < 0 then ((-1 : Int) + (xs.length : Int)).toNat else min (-1 : Int).toNat xs.length) - 0) = _
  rw [if_pos (by decide), List.drop_zero, Nat.sub_zero, List.dropLast_eq_take]
  congr 1; omega
theorem minI_le : ∀ (xs : List Int) (m : Int), minI m xs ≤ m ∧ (∀ x ∈ xs, minI m xs ≤ x) ∧ minI m xs ∈ m :: xs
  | [], m => ⟨Int.le_refl _, (fun _ h => nomatch h), List.mem_cons_self ..⟩
  | x :: xs, m => by
    have e : minI m (x :: xs) = minI (if x < m then x else m) xs := rfl
    rw [e]
    by_cases c : x < m
    · rw [if_pos c]
      obtain ⟨h1, h2, h3⟩ := minI_le xs x
      refine ⟨by omega, fun y hy => ?_, List.mem_cons_of_mem _ h3⟩
      rcases List.mem_cons.mp hy with rfl | hy
      · exact h1
      · exact h2 y hy
    · rw [if_neg c]
      obtain ⟨h1, h2, h3⟩ := minI_le xs m
      refine ⟨h1, fun y hy => ?_, ?_⟩
      · rcases List.mem_cons.mp hy with rfl | hy
        · omega
        · exact h2 y hy
      · rcases List.mem_cons.mp h3 with e | h3
        · rw [e]; exact List.mem_cons_self ..
        · exact List.mem_cons_of_mem _ (List.mem_cons_of_mem _ h3)
theorem maxI_ge : ∀ (xs : List Int) (m : Int), m ≤ maxI m xs ∧ (∀ x ∈ xs, x ≤ maxI m xs) ∧ maxI m xs ∈ m :: xs
  | [], m => ⟨Int.le_refl _, (fun _ h => nomatch h), List.mem_cons_self ..⟩
  | x :: xs, m => by
    have e : maxI m (x :: xs) = maxI (if m < x then x else m) xs := rfl
    rw [e]
    by_cases c : m < x
    · rw [if_pos c]
      obtain ⟨h1, h2, h3⟩ := maxI_ge xs x
      refine ⟨by omega, fun y hy => ?_, List.mem_cons_of_mem _ h3⟩
      rcases List.mem_cons.mp hy with rfl | hy
      · exact h1
      · exact h2 y hy
    · rw [if_neg c]
      obtain ⟨h1, h2, h3⟩ := maxI_ge xs m
      refine ⟨h1, fun y hy => ?_, ?_⟩
      · rcases List.mem_cons.mp hy with rfl | hy
        · omega
        · exact h2 y hy
      · rcases List.mem_cons.mp h3 with e | h3
        · rw [e]; exact List.mem_cons_self ..
        · exact List.mem_cons_of_mem _ (List.mem_cons_of_mem _ h3)
theorem minT_ok {xs : List Int} (h : xs ≠ []) : ∃ m, minT xs = .ok m ∧ m ∈ xs ∧ ∀ x ∈ xs, m ≤ x := by
  cases xs with
  | nil => exact absurd rfl h
  | cons x xs =>
    obtain ⟨h1, h2, h3⟩ := minI_le xs x
    refine ⟨_, rfl, h3, fun y hy => ?_⟩
    rcases List.mem_cons.mp hy with rfl | hy
    · exact h1
    · exact h2 y hy
theorem maxT_ok {xs : List Int} (h : xs ≠ []) : ∃ m, maxT xs = .ok m ∧ m ∈ xs ∧ ∀ x ∈ xs, x ≤ m := by
  cases xs with
  | nil => exact absurd rfl h
  | cons x xs =>
    obtain ⟨h1, h2, h3⟩ := maxI_ge xs x
    refine ⟨_, rfl, h3, fun y hy => ?_⟩
    rcases List.mem_cons.mp hy with rfl | hy
    · exact h1
    · exact h2 y hy
theorem minT_eq {xs : List Int} {m : Int} (h1 : m ∈ xs) (h2 : ∀ x ∈ xs, m ≤ x) : minT xs = .ok m := by
  obtain ⟨k, e, h3, h4⟩ := minT_ok (xs := xs) (fun z => by rw [z] at h1; cases h1)
  have := h2 k h3
  have := h4 m h1
  rw [e]; congr 1; omega
theorem maxT_eq {xs : List Int} {m : Int} (h1 : m ∈ xs) (h2 : ∀ x ∈ xs, x ≤ m) : maxT xs = .ok m := by
  obtain ⟨k, e, h3, h4⟩ := maxT_ok (xs := xs) (fun z => by rw [z] at h1; cases h1)
  have := h2 k h3
  have := h4 m h1
  rw [e]; congr 1; omega
theorem whl_step {test : σ → Res Bool} {f : σ → Res (Stp σ ρ)} {n : Nat} {s s' : σ} (ht : test s = .ok true) (hf : f s = .ok (.nx s')) : whlT test f (n + 1) s = whlT test f n s' := by
  show (test s).rb _ = _
  rw [ht]
  show (f s).rb _ = _
  rw [hf]; rfl
theorem whl_stop {test : σ → Res Bool} {f : σ → Res (Stp σ ρ)} {n : Nat} {s : σ} (ht : test s = .ok false) : whlT test f (n + 1) s = .ok (.nx s) := by
  show (test s).rb _ = _
  rw [ht]; rfl
theorem whl_inv {test : σ → Res Bool} {f : σ → Res (Stp σ ρ)} (Inv : σ → Prop) (mu : σ → Nat) (h : ∀ s, Inv s → test s = .ok false ∨ (test s = .ok true ∧ ∃ s', f s = .ok (.nx s') ∧ Inv s' ∧ mu s' < mu s)) : ∀ (n : Nat) (s : σ), mu s < n → Inv s → ∃ s', whlT test f n s = .ok (.nx s') ∧ Inv s' ∧ test s' = .ok false
  | 0, s, hn, _ => by omega
  | n + 1, s, hn, hi => by
    rcases h s hi with ht | ⟨ht, s1, h1, h2, h3⟩
    · exact ⟨s, whl_stop ht, hi, ht⟩
    · obtain ⟨s2, h4, h5⟩ := whl_inv Inv mu h n s1 (by omega) h2
      exact ⟨s2, (whl_step ht h1).trans h4, h5⟩
end Y
-- LA
set_option Elab.async false
set_option linter.all false
set_option maxRecDepth 100000
set_option maxHeartbeats 4000000
/-! LA: what the typed functions give: draws, histograms, ranks. -/
namespace Y
open PL
variable {α β γ σ ρ τ : Type}
theorem pick_ok (ns : List Int) (hn : ns.length ≤ 63) (k q : Int) (hk : 0 ≤ k) (hk2 : k ≤ 9999) (hq : 0 < q) : ∃ p, lpick_z_i_i ns k q = .ok p ∧ 0 ≤ p ∧ p < q := by
  unfold lpick_z_i_i
  have h1 : ∃ c, ((if (!decide (ns = [])) = true then (modT k (ns.length : Int)).rb fun x1 => atT ns x1 else Res.ok 0)) = .ok c := by
    by_cases e : ns = []
    · exact ⟨0, by rw [if_neg (by simp [e])]⟩
    · have hl : 0 < ns.length := List.length_pos_iff.mpr e
      obtain ⟨x, h1, _⟩ := atT_mem (xs := ns) (i := k % (ns.length : Int)) (Int.emod_nonneg _ (by omega)) (Int.emod_lt_of_pos _ (by omega))
      exact ⟨x, by rw [if_pos (by simp [e]), modT_ok (by omega)]; exact h1⟩
  obtain ⟨c, h1⟩ := h1
  rw [h1, rb_ok]
  have hm : 0 < max2 (ns.length : Int) 1 ∧ max2 (ns.length : Int) 1 ≤ 63 := by unfold max2; split <;> omega
  rw [fdivT_ok hm.1 (by omega), rb_ok, rb_ok]
  have hd0 : 0 ≤ k / max2 (ns.length : Int) 1 := Int.ediv_nonneg hk (by omega)
  have hd1 : k / max2 (ns.length : Int) 1 ≤ k := Int.ediv_le_self _ hk
  obtain ⟨s, hw, _, _⟩ := whl_inv (σ := Int × Int) (ρ := Int) (test := fun s5 => Res.ok ((decide (0 < s5.1)) && (decide (0 < s5.2)))) (f := fun s5 => Res.ok (.nx ((s5.1 / 840), (s5.2 - 1)))) (fun s => True) (fun s => s.2.toNat) (fun s _ => by
    by_cases c1 : 0 < s.1 ∧ 0 < s.2
    · refine .inr ⟨by simp [c1], _, rfl, trivial, ?_⟩
      show (s.2 - 1).toNat < s.2.toNat
      omega
    · refine .inl ?_
      congr 1
      rw [Bool.and_eq_false_iff, decide_eq_false_iff_not, decide_eq_false_iff_not]
      omega) 100000 (c / 1000000000000000000, k / max2 (ns.length : Int) 1) (by show (k / max2 (ns.length : Int) 1).toNat < 100000; omega) trivial
  rw [hw, rb_ok, after_nx]
  by_cases hs : 0 < s.1
  · rw [if_pos (by simpa using hs), modT_ok hq]
    exact ⟨_, rfl, Int.emod_nonneg _ (by omega), Int.emod_lt_of_pos _ hq⟩
  · rw [if_neg (by simpa using hs), rb_ok]
    have g1 : 0 ≤ ((((c * 31) + (6151 * (k + 1))) * 40692) % 2147483399) := Int.emod_nonneg _ (by omega)
    have g2 : ((((c * 31) + (6151 * (k + 1))) * 40692) % 2147483399) < 2147483399 := Int.emod_lt_of_pos _ (by omega)
    generalize ((((c * 31) + (6151 * (k + 1))) * 40692) % 2147483399) = d at g1 g2
    have : mulT d d = .ok (d * d) := by
      unfold mulT
      rw [small_of (by omega) (by omega)]; rfl
    rw [this, rb_ok, rb_ok, rb_ok, modT_ok hq]
    exact ⟨_, rfl, Int.emod_nonneg _ (by omega), Int.emod_lt_of_pos _ hq⟩
theorem at4 {p : Int} (h0 : 0 ≤ p) (h1 : p < 4) : ∃ a : Int, atT [0, 0, 3, 960] p = .ok a ∧ 0 ≤ a ∧ a ≤ 960 := by
  obtain ⟨a, e, h⟩ := atT_mem (xs := ([0, 0, 3, 960] : List Int)) h0 (by simpa using h1)
  refine ⟨a, e, ?_⟩
  simp at h
  omega
theorem at3 {p : Int} (h0 : 0 ≤ p) (h1 : p < 3) : ∃ a : Int, atT [2, 5, 9] p = .ok a ∧ 0 < a ∧ a ≤ 9 := by
  obtain ⟨a, e, h⟩ := atT_mem (xs := ([2, 5, 9] : List Int)) h0 (by simpa using h1)
  refine ⟨a, e, ?_⟩
  simp at h
  omega
theorem at6 {p : Int} (h0 : 0 ≤ p) (h1 : p < 6) : ∃ a : Int, atT [0, 1, 2, 1, 3, 4] p = .ok a ∧ 0 ≤ a ∧ a ≤ 4 := by
  obtain ⟨a, e, h⟩ := atT_mem (xs := ([0, 1, 2, 1, 3, 4] : List Int)) h0 (by simpa using h1)
  refine ⟨a, e, ?_⟩
  simp at h
  omega
theorem ded_len : ∀ xs : List Int, (dedI xs).length ≤ xs.length
  | [] => Nat.le_refl _
  | x :: xs => by
    have ih := ded_len xs
    show (consD x (dedI xs)).length ≤ _
    cases q : dedI xs with
    | nil => simp [consD]
    | cons y ys =>
      rw [q] at ih
      show (if x = y then y :: ys else x :: y :: ys).length ≤ _
      by_cases e : x = y
      · rw [if_pos e]; simp only [List.length_cons] at ih ⊢; omega
      · rw [if_neg e]; simp only [List.length_cons] at ih ⊢; omega
/-- the ascending values of a list -/
def asct (xs : List Int) : List Int := dedI (sortI xs)
theorem asct_inc (xs : List Int) : Inc (asct xs) := dedI_lt _ (sortI_sorted xs)
theorem mem_asct {xs : List Int} {y : Int} : y ∈ asct xs ↔ y ∈ xs := by
  unfold asct
  rw [dedI_mem, (sortI_perm xs).mem_iff]
theorem asct_len (xs : List Int) : (asct xs).length ≤ xs.length := by
  have := ded_len (sortI xs)
  rw [(sortI_perm xs).length_eq] at this
  exact this
theorem ssT_ok {xs : List Int} (h : xs.length < 60) : ssT xs = .ok (asct xs) := if_pos ⟨by omega, Nat.lt_of_le_of_lt (asct_len xs) h⟩
theorem ssT_ok2 {xs : List Int} (h : xs.length < 4000) (h2 : (asct xs).length < 60) : ssT xs = .ok (asct xs) := if_pos ⟨h, h2⟩
theorem two_len {l : List Int} {a b : Int} (hi : Inc l) (ha : a ∈ l) (hb : b ∈ l) (h : a < b) : 2 ≤ l.length := by
  cases l with
  | nil => cases ha
  | cons x l => cases l with
    | nil =>
      have e1 := List.mem_singleton.mp ha
      have e2 := List.mem_singleton.mp hb
      omega
    | cons y l => simp only [List.length_cons]; omega
/-- good borders -/
structure GB (bs : List Int) : Prop where
  inc : Inc bs
  n2 : 2 ≤ bs.length
  n12 : bs.length ≤ 12
  rg : ∀ b ∈ bs, 0 ≤ b ∧ b ≤ 1000
theorem GH.gb {h : Hst} (g : GH h) : GB h.1 := ⟨g.inc, g.n2, g.n12, g.rg⟩
theorem lborders_ok2 (ns : List Int) (hn : ns.length ≤ 63) (pl mo : Int) (h0 : 0 ≤ pl) (h1 : pl ≤ 5000) (o0 : 0 < mo) (o1 : mo ≤ 10) : ∃ bs, lborders_z_i_i ns pl mo = .ok bs ∧ GB bs ∧ bs.length ≤ mo + 1 ∧ ∃ x ∈ bs, x ≤ 960 := by
  unfold lborders_z_i_i
  obtain ⟨p, hp, p1, p2⟩ := pick_ok ns hn pl 4 (by omega) (by omega) (by omega)
  obtain ⟨a0, ea, a1, a2⟩ := at4 p1 p2
  obtain ⟨q, hq, q1, q2⟩ := pick_ok ns hn (pl + 1) mo (by omega) (by omega) (by omega)
  obtain ⟨s, hs, s1, s2⟩ := pick_ok ns hn (pl + 12) 3 (by omega) (by omega) (by omega)
  obtain ⟨t, et, t1, t2⟩ := at3 s1 s2
  rw [hp, rb_ok, ea, rb_ok, hq, rb_ok, rb_ok, rngT_ok (by omega) (by omega) (by omega) (by omega), rb_ok]
  obtain ⟨m, em⟩ : ∃ m : Nat, 1 + q = (m : Int) := ⟨(1 + q).toNat, by omega⟩
  rw [em]
  obtain ⟨⟨a, F⟩, hf, g2, g3, g4, g5, g6⟩ := forT_range (σ := Int × List Int) (ρ := List Int) (n := m) (s := (a0, [a0])) (f := fun s5 i6 =>
      ((((lpick_z_i_i ns (pl + 12) 3).rb fun x7 => atT [2, 5, 9] x7).rb fun x8 => lpick_z_i_i ns ((pl + 2) + i6) x8).rb fun x9 => Res.ok ((s5.1 + 1) + x9)).rb fun at10 =>
      (Res.ok (min2 at10 1000)).rb fun x12 => (pushT s5.2 x12).rb fun found11 =>
      Res.ok (.nx (at10, found11)))
    (fun k s => a0 ≤ s.1 ∧ s.2.length = k + 1 ∧ a0 ∈ s.2 ∧ (∀ x ∈ s.2, 0 ≤ x ∧ x ≤ 1000) ∧ (0 < k → ∃ x ∈ s.2, a0 < x))
    ⟨Int.le_refl _, rfl, List.mem_singleton_self _, fun x hx => by have := List.mem_singleton.mp hx; omega, fun z => absurd z (by omega)⟩
    (fun i s hi ⟨i1, i2, i3, i4, i5⟩ => by
      obtain ⟨u, hu, u1, u2⟩ := pick_ok ns hn (pl + 2 + (i : Int)) t (by omega) (by omega) (by omega)
      refine ⟨(s.1 + 1 + u, s.2 ++ [min2 (s.1 + 1 + u) 1000]), ?_, by show a0 ≤ s.1 + 1 + u; omega, by simp [i2], by simp [i3], fun x hx => ?_, fun _ => ⟨min2 (s.1 + 1 + u) 1000, by simp, ?_⟩⟩
      · rw [hs, rb_ok, et, rb_ok, hu, rb_ok, rb_ok, rb_ok, pushT_ok (by omega), rb_ok]
      · rcases List.mem_append.mp hx with hx | hx
        · exact i4 x hx
        · rw [List.mem_singleton.mp hx]
          unfold min2; split <;> omega
      · unfold min2; split <;> omega)
  rw [hf, rb_ok, after_nx]
  obtain ⟨x, hx, hx2⟩ := g6 (by omega)
  have g3 : F.length = m + 1 := g3
  show ∃ bs, ((ssT F).rb fun x14 => Res.ok x14) = .ok bs ∧ _ ∧ _ ∧ _
  rw [ssT_ok (by omega), rb_ok]
  have hl := asct_len F
  refine ⟨_, rfl, ⟨asct_inc F, two_len (asct_inc F) (mem_asct.mpr g4) (mem_asct.mpr hx) hx2, by omega, fun b hb => g5 b (mem_asct.mp hb)⟩, by omega, a0, mem_asct.mpr g4, a2⟩
theorem lborders_ok (ns : List Int) (hn : ns.length ≤ 63) (pl mo : Int) (h0 : 0 ≤ pl) (h1 : pl ≤ 5000) (o0 : 0 < mo) (o1 : mo ≤ 10) : ∃ bs, lborders_z_i_i ns pl mo = .ok bs ∧ GB bs ∧ bs.length ≤ mo + 1 := by
  obtain ⟨bs, h1, h2, h3, _⟩ := lborders_ok2 ns hn pl mo h0 h1 o0 o1
  exact ⟨bs, h1, h2, h3⟩
theorem sum_bd {k : Int} (h0 : 0 ≤ k) : ∀ {l : List Int}, (∀ y ∈ l, 0 ≤ y ∧ y ≤ k) → 0 ≤ l.sum ∧ l.sum ≤ k * l.length
  | [], _ => by simp
  | x :: l, h => by
    have := sum_bd h0 fun y hy => h y (List.mem_cons_of_mem _ hy)
    have := h x (List.mem_cons_self ..)
    simp only [List.sum_cons, List.length_cons]
    have e : k * ((l.length + 1 : Nat) : Int) = k * (l.length : Int) + k := by
      rw [Int.natCast_add, Int.mul_add]; simp
    omega
/-- a drawn histogram -/
structure DH (mo : Int) (h : Hst) : Prop where
  g : GH h
  c : ∀ y ∈ h.2, 0 ≤ y ∧ y ≤ 4
  n : h.1.length ≤ mo + 1
  hd : ∃ x ∈ h.1, x ≤ 960
theorem lhistogram_ok (ns : List Int) (hn : ns.length ≤ 63) (pl mo : Int) (h0 : 0 ≤ pl) (h1 : pl ≤ 5000) (o0 : 0 < mo) (o1 : mo ≤ 10) : ∃ h, lhistogram_z_i_i ns pl mo = .ok h ∧ DH mo h := by
  unfold lhistogram_z_i_i
  obtain ⟨bs, e, hb, hl, hx⟩ := lborders_ok2 ns hn pl mo h0 h1 o0 o1
  have := hb.n2
  have := hb.n12
  rw [e, rb_ok, rb_ok, rngT_ok (by omega) (by omega) (by omega) (by omega), rb_ok]
  obtain ⟨cs, e2, h2, h3⟩ := mapR_ex (P := fun (_ : Int) (y : Int) => 0 ≤ y ∧ y ≤ 4) (f := fun i3 : Int => (lpick_z_i_i ns ((pl + 13) + i3) 6).rb fun x4 => atT [0, 1, 2, 1, 3, 4] x4) (xs := rangeI 0 ((bs.length : Int) - 1)) fun i hi => by
    have := mem_rangeI.mp hi
    obtain ⟨p, hp, p1, p2⟩ := pick_ok ns hn (pl + 13 + i) 6 (by omega) (by omega) (by omega)
    obtain ⟨a, ea, a1, a2⟩ := at6 p1 p2
    exact ⟨a, by rw [hp, rb_ok]; exact ea, a1, a2⟩
  rw [rangeI_len] at h2
  rw [e2, rb_ok, lenT_ok (by omega), rb_ok]
  have hc : ∀ c ∈ cs, 0 ≤ c ∧ c ≤ 4 := fun c hc => by
    obtain ⟨_, _, h⟩ := h3 c hc
    exact h
  have hs := sum_bd (by omega) hc
  have q1 : cs.length ≤ 11 := by omega
  refine ⟨_, rfl, ⟨hb.inc, hb.n2, hb.n12, hb.rg, ?_, fun c h => by have := hc c h; omega, ?_⟩, hc, hl, hx⟩
  · show cs.length + 1 = bs.length
    omega
  · show cs.sum ≤ 200
    omega
theorem gd {l : List Int} {j : Nat} (h : j < l.length) : l.getD j 0 = l[j] := by
  rw [List.getD_eq_getElem?_getD, List.getElem?_eq_getElem h]; rfl
theorem fill_snoc : ∀ {vs cs : List Int} {k : Nat} (h1 : k < vs.length) (h2 : k < cs.length), fill (vs.take (k + 1)) (cs.take (k + 1)) = fill (vs.take k) (cs.take k) ++ List.replicate (cs[k]).toNat vs[k]
  | v :: vs, c :: cs, 0, _, _ => by
    show List.replicate c.toNat v ++ fill [] [] = [] ++ List.replicate c.toNat v
    rw [fill_nil, List.append_nil, List.nil_append]
  | v :: vs, c :: cs, k + 1, h1, h2 => by
    have ih := fill_snoc (vs := vs) (cs := cs) (k := k) (by simpa using h1) (by simpa using h2)
    show List.replicate c.toNat v ++ fill (vs.take (k + 1)) (cs.take (k + 1)) = (List.replicate c.toNat v ++ fill (vs.take k) (cs.take k)) ++ List.replicate (cs[k]'(by simpa using h2)).toNat (vs[k]'(by simpa using h1))
    rw [ih, List.append_assoc]
theorem fill_take : ∀ {vs cs : List Int} {k : Nat}, cs.length ≤ k → fill (vs.take k) (cs.take k) = fill vs cs
  | vs, [], k, _ => by rw [List.take_nil, fill_nil2, fill_nil2]
  | [], c :: cs, k, _ => by rw [List.take_nil, fill_nil, fill_nil]
  | v :: vs, c :: cs, 0, h => by simp at h
  | v :: vs, c :: cs, k + 1, h => by
    show List.replicate c.toNat v ++ fill (vs.take k) (cs.take k) = List.replicate c.toNat v ++ fill vs cs
    rw [fill_take (by simpa using h)]
theorem fill_part_len {vs cs : List Int} (h : cs.length ≤ vs.length) (hc : ∀ c ∈ cs, 0 ≤ c ∧ c ≤ 60) (k : Nat) (hk : cs.length ≤ 20) : (fill (vs.take k) (cs.take k)).length ≤ 1200 := by
  have h1 := fill_len (vs := vs.take k) (cs := cs.take k) (by rw [List.length_take, List.length_take]; omega) fun c h => (hc c (List.mem_of_mem_take h)).1
  have h2 := sum_bd (k := 60) (by omega) (l := cs.take k) fun c h => hc c (List.mem_of_mem_take h)
  have h3 : (cs.take k).length ≤ 20 := by rw [List.length_take]; omega
  omega
theorem lends_ok {h : Hst} (g : GH h) : lends_h h = .ok (low h, high h) := by
  unfold lends_h
  have hl := g.len
  have hn := g.n12
  rw [rb_ok, rngT_ok (by omega) (by omega) (by omega) (by omega), rb_ok]
  obtain ⟨s, hf, e⟩ := forT_range (σ := List Int × List Int) (ρ := List Int × List Int) (n := h.2.length) (s := ([], [])) (f := fun s2 i3 =>
      (((atT h.1 i3).rb fun x4 => Res.ok [x4]).rb fun x5 => (atT h.2 i3).rb fun x6 => repT x5 x6).rb fun x8 => (extT s2.1 x8).rb fun low7 =>
      ((((atT h.1 (i3 + 1)).rb fun x9 => Res.ok (x9 - 1)).rb fun x10 => Res.ok [x10]).rb fun x11 => (atT h.2 i3).rb fun x12 => repT x11 x12).rb fun x14 => (extT s2.2 x14).rb fun high13 =>
      Res.ok (.nx (low7, high13)))
    (fun k s => s = (fill (h.1.take k) (h.2.take k), fill ((h.1.tail.map (· - 1)).take k) (h.2.take k))) (by simp [fill_nil])
    (fun k s hk e => by
      subst e
      have c := g.cr h.2[k] (List.getElem_mem _)
      have tl : k < (h.1.tail.map (· - 1)).length := by rw [List.length_map, List.length_tail]; omega
      refine ⟨_, ?_, rfl⟩
      have p1 := fill_part_len (vs := h.1) (cs := h.2) (by omega) g.cr (k + 1) (by omega)
      have p2 := fill_part_len (vs := h.1.tail.map (· - 1)) (cs := h.2) (by rw [List.length_map, List.length_tail]; omega) g.cr (k + 1) (by omega)
      rw [fill_snoc (by omega) hk] at p1 ⊢
      rw [fill_snoc tl hk] at p2 ⊢
      have et : (h.1.tail.map (· - 1))[k] = h.1[k + 1] - 1 := by rw [List.getElem_map, List.getElem_tail]
      rw [List.length_append] at p1 p2
      rw [et] at p2 ⊢
      rw [atT_nat (show k < h.1.length by omega), rb_ok, rb_ok, atT_nat hk, rb_ok, repT_ok c.1 (by omega), rb_ok, extT_ok (by dsimp only; omega), rb_ok, atT_get (j := k + 1) (by omega) (by omega), rb_ok, rb_ok, rb_ok, rb_ok, repT_ok c.1 (by omega), rb_ok, extT_ok (by dsimp only; omega), rb_ok])
  subst e
  rw [hf, rb_ok, after_nx]
  rw [fill_take (Nat.le_refl _), fill_take (Nat.le_refl _)]; rfl
theorem filled_loop : ∀ (vs cs s : List Int), (∀ c ∈ cs, 0 ≤ c ∧ c ≤ 60) → s.length + 60 * cs.length ≤ 100000 → forT (ρ := List Int) (fun (s3 : List Int) (p4 : Int × Int) =>
  (repT [p4.1] p4.2).rb fun x6 => (extT s3 x6).rb fun found5 =>
  Res.ok (.nx (found5))) (vs.zip cs) s = .ok (.nx (s ++ fill vs cs))
  | [], cs, s, _, _ => by rw [fill_nil, List.append_nil]; rfl
  | v :: vs, [], s, _, _ => by rw [fill_nil2, List.append_nil]; rfl
  | v :: vs, c :: cs, s, hc, hl => by
    have h := hc c (List.mem_cons_self ..)
    simp only [List.length_cons] at hl
    rw [List.zip_cons_cons, forT_cons (s' := s ++ List.replicate c.toNat v)]
    · rw [filled_loop vs cs _ (fun x hx => hc x (List.mem_cons_of_mem _ hx)) (by rw [List.length_append, List.length_replicate]; omega), List.append_assoc]; rfl
    · dsimp only
      rw [repT_ok h.1 (by omega), rb_ok, extT_ok (by rw [List.length_replicate]; omega), rb_ok]
theorem filled_t {h : Hst} (vs : List Int) (hc : ∀ c ∈ h.2, 0 ≤ c ∧ c ≤ 60) (hl : h.2.length ≤ 20) : filled_h_ti h vs = .ok (fill vs h.2) := by
  unfold filled_h_ti
  rw [rb_ok, rb_ok, rb_ok, filled_loop vs h.2 [] hc (by simp; omega), rb_ok, after_nx]; rfl
theorem filled_l {h : Hst} (vs : List Int) (hc : ∀ c ∈ h.2, 0 ≤ c ∧ c ≤ 60) (hl : h.2.length ≤ 20) : filled_h_li h vs = .ok (fill vs h.2) := by
  unfold filled_h_li
  rw [rb_ok, rb_ok, rb_ok, filled_loop vs h.2 [] hc (by simp; omega), rb_ok, after_nx]; rfl
theorem fill_cut : ∀ {vs cs : List Int}, cs.length + 1 = vs.length → fill vs.dropLast cs = fill vs cs
  | [v], [], _ => rfl
  | v :: w :: vs, c :: cs, h => by
    show List.replicate c.toNat v ++ fill (w :: vs).dropLast cs = List.replicate c.toNat v ++ fill (w :: vs) cs
    rw [fill_cut (by simpa using h)]
  | [], _, h => by simp at h
  | [_], _ :: _, h => by simp at h
  | _ :: _ :: _, [], h => by simp at h
theorem lowest_ok {h : Hst} (g : GH h) : lowest_h h = .ok (low h) := by
  unfold lowest_h
  have := g.len
  have := g.n12
  rw [cut_0m1, filled_t _ g.cr (by omega), fill_cut g.len]; rfl
theorem highest_ok {h : Hst} (g : GH h) : highest_h h = .ok (high h) := by
  unfold highest_h
  have := g.len
  have := g.n12
  rw [rb_ok, cut_1, lenT_ok (by rw [List.length_map, List.length_tail]; omega), rb_ok, filled_l _ g.cr (by omega)]; rfl
/-! ### the checks -/
def inB (lo hi v : Int) : Bool := decide (lo ≤ v) && decide (v ≤ hi)
theorem is_int_ok (v lo hi : Int) : is_int_i_i_i v lo hi = .ok (inB lo hi v) := rfl
theorem all_map (p : α → Bool) (xs : List α) : ((xs.map p).all id) = xs.all p := by
  rw [List.all_map]; rfl
theorem any_map (p : α → Bool) (xs : List α) : ((xs.map p).any id) = xs.any p := by
  rw [List.any_map]; rfl
def bordB (xs : List Int) : Bool := (decide (2 ≤ xs.length) && decide (xs.length ≤ 12)) && (xs.all (inB 0 1000) && (xs.zip xs.tail).all fun p => decide (p.1 < p.2))
theorem zip_inc : ∀ {bs : List Int}, ((bs.zip bs.tail).all fun p => decide (p.1 < p.2)) = true ↔ Inc bs
  | [] => by simp
  | [b] => by simp
  | b :: c :: r => by
    have ih := zip_inc (bs := c :: r)
    show (decide (b < c) && (((c :: r).zip r).all fun p => decide (p.1 < p.2))) = true ↔ _
    rw [Bool.and_eq_true, decide_eq_true_eq]
    have ih : (((c :: r).zip r).all fun p => decide (p.1 < p.2)) = true ↔ Inc (c :: r) := ih
    rw [ih]
    constructor
    · rintro ⟨h1, h2⟩
      refine List.pairwise_cons.mpr ⟨fun x hx => ?_, h2⟩
      rcases List.mem_cons.mp hx with rfl | hx
      · exact h1
      · have := (List.pairwise_cons.mp h2).1 x hx
        omega
    · intro h
      obtain ⟨h1, h2⟩ := List.pairwise_cons.mp h
      exact ⟨h1 c (List.mem_cons_self ..), h2⟩
theorem are_borders_ok (xs : List Int) (hl : xs.length ≤ 100000) : are_borders_ti xs = .ok (bordB xs) := by
  unfold are_borders_ti bordB
  by_cases h : 2 ≤ xs.length ∧ xs.length ≤ 12
  · rw [if_neg (by simp; omega), rb_ok, mapR_ok (g := inB 0 1000) fun x _ => is_int_ok _ _ _, rb_ok, lenT_ok (by rw [List.length_map]; omega), rb_ok, all_map, rb_ok, rb_ok]
    rw [decide_eq_true h.1, decide_eq_true h.2]
    cases q : xs.all (inB 0 1000)
    · rfl
    · show ((((Res.ok xs).rb fun z5 => (Res.ok (cut xs (some 1) none)).rb fun z6 => Res.ok (z5.zip z6)).rb fun w8 => lenT (w8.map (fun p7 : Int × Int => (decide (p7.1 < p7.2))))).rb fun x9 => Res.ok (x9.all id)) = _
      rw [rb_ok, rb_ok, rb_ok, cut_1, lenT_ok (by rw [List.length_map, List.length_zip]; omega), rb_ok, all_map]; rfl
  · rw [if_pos (by
      simp only [Bool.not_eq_true', Bool.and_eq_false_iff, decide_eq_false_iff_not]
      omega)]
    by_cases h2 : 2 ≤ xs.length
    · rw [decide_eq_true h2, decide_eq_false (show ¬ xs.length ≤ 12 by omega)]; rfl
    · rw [decide_eq_false h2]; rfl
theorem bordB_iff (xs : List Int) : bordB xs = true ↔ GB xs := by
  unfold bordB
  rw [Bool.and_eq_true, Bool.and_eq_true, Bool.and_eq_true, zip_inc, decide_eq_true_eq, decide_eq_true_eq, List.all_eq_true]
  constructor
  · rintro ⟨⟨h1, h2⟩, h3, h4⟩
    refine ⟨h4, h1, h2, fun b hb => ?_⟩
    have := h3 b hb
    unfold inB at this
    simpa using this
  · intro g
    refine ⟨⟨g.n2, g.n12⟩, fun b hb => ?_, g.inc⟩
    have := g.rg b hb
    unfold inB
    simpa using this
theorem GB.is {bs : List Int} (g : GB bs) : are_borders_ti bs = .ok true := by
  rw [are_borders_ok bs (by have := g.n12; omega), (bordB_iff bs).mpr g]
theorem GB.chk {bs : List Int} (g : GB bs) : check_borders_ti bs = .ok () := by
  unfold check_borders_ti
  rw [g.is]; rfl
theorem GH.is {h : Hst} (g : GH h) : is_histogram_h h = .ok true := by
  unfold is_histogram_h
  have := g.len
  have := g.n12
  rw [g.gb.is, rb_ok, rb_ok, if_neg (by decide), if_neg (by simp; omega), rb_ok, mapR_ok (g := inB 0 60) fun x _ => is_int_ok _ _ _, rb_ok, lenT_ok (by rw [List.length_map]; omega), rb_ok, all_map, rb_ok]
  have e : h.2.all (inB 0 60) = true := List.all_eq_true.mpr fun c hc => by
    have := g.cr c hc
    unfold inB
    simpa using this
  rw [e, if_pos rfl, decide_eq_true g.sm]
theorem GH.chk {h : Hst} (g : GH h) : check_histogram_h h = .ok () := by
  unfold check_histogram_h
  rw [g.is]; rfl
theorem least_ok {h : Hst} (g : GH h) : least_data_h h = .ok (low h) := by
  unfold least_data_h
  rw [g.chk, rb_ok, lowest_ok g]
theorem greatest_ok {h : Hst} (g : GH h) : greatest_data_h h = .ok (high h) := by
  unfold greatest_data_h
  rw [g.chk, rb_ok, highest_ok g]
/-! ### counts -/
theorem lcounts_loop (data : List Int) (hd : data.length ≤ 100000) : ∀ (ps : List (Int × Int)) (s : List Int), s.length + ps.length ≤ 100000 → forT (ρ := List Int) (fun (s3 : List Int) (p4 : Int × Int) =>
  (((Res.ok data).rb fun w6 => lenT ((w6.filter (fun value5 : Int => ((decide (p4.1 ≤ value5)) && (decide (value5 < p4.2))))).map (fun value5 : Int => value5))).rb fun x7 => Res.ok (x7.length : Int)).rb fun x9 => (pushT s3 x9).rb fun found8 =>
  Res.ok (.nx (found8))) ps s = .ok (.nx (s ++ ps.map fun p => (((data.filter (inb p.1 p.2)).length : Nat) : Int)))
  | [], s, _ => by rw [List.map_nil, List.append_nil]; rfl
  | p :: ps, s, hl => by
    simp only [List.length_cons] at hl
    have hf := List.length_filter_le (inb p.1 p.2) data
    rw [forT_cons (s' := s ++ [(((data.filter (inb p.1 p.2)).length : Nat) : Int)])]
    · rw [lcounts_loop data hd ps _ (by rw [List.length_append, List.length_singleton]; omega), List.append_assoc]; rfl
    · rw [rb_ok, List.map_id']
      rw [show (fun value5 : Int => ((decide (p.1 ≤ value5)) && (decide (value5 < p.2)))) = inb p.1 p.2 from rfl]
      rw [lenT_ok (by omega), rb_ok, rb_ok, pushT_ok (by omega), rb_ok]
theorem lcounts_ok (bs data : List Int) (hb : bs.length ≤ 1000) (hd : data.length ≤ 100000) : lcounts_ti_li bs data = .ok (cnts bs data) := by
  unfold lcounts_ti_li
  rw [rb_ok, rb_ok, rb_ok, cut_1, lcounts_loop data hd _ _ (by rw [List.length_zip, List.length_nil]; omega), rb_ok, after_nx]; rfl
open Classical in
theorem lfits_ok {h : Hst} (g : GH h) (data : List Int) (hd : data.length ≤ 100000) : lfits_li_h data h = .ok (decide (Has h data)) := by
  unfold lfits_li_h
  have e := has_iff g data
  by_cases h1 : data = sortI data
  · rw [if_neg (by simpa using h1), lcounts_ok _ _ (by have := g.n12; omega) hd, rb_ok, rb_ok]
    by_cases h2 : cnts h.1 data = h.2
    · rw [if_pos (by simpa using h2)]
      congr 1
      apply decide_eq_decide.mpr
      rw [e]
      exact ⟨fun z => ⟨h1, h2, z⟩, fun z => z.2.2⟩
    · rw [if_neg (by simpa using h2)]
      congr 1
      exact (decide_eq_false fun z => h2 (e.mp z).2.1).symm
  · rw [if_pos (by simpa using h1)]
    congr 1
    exact (decide_eq_false fun z => h1 (e.mp z).1).symm
theorem Has.small {h : Hst} {xs : List Int} (g : GH h) (d : Has h xs) : xs.length ≤ 200 := by
  have := d.len
  have := g.sm
  omega
open Classical in
theorem lfits_true {h : Hst} (g : GH h) {data : List Int} (d : Has h data) : lfits_li_h data h = .ok true := by
  rw [lfits_ok g data (by have := d.small g; omega), decide_eq_true d]
/-! ### drawn data -/
theorem Bks.snoc {l cs F : List Int} {b b' : Int} {c : Int} {ys : List Int} (h : Bks (l ++ [b]) cs F) (hc : (ys.length : Int) = c) (hy : ∀ y ∈ ys, b ≤ y ∧ y < b') : Bks (l ++ [b, b']) (cs ++ [c]) (F ++ ys) := by
  generalize e : l ++ [b] = L at h
  induction h generalizing l with
  | nil b0 =>
    cases l with
    | nil =>
      cases e
      have := Bks.cons hc hy (.nil b')
      rw [List.append_nil] at this
      exact this
    | cons x l => cases l <;> cases e
  | @cons b0 b1 r cs c0 ys0 zs hc0 hy0 h ih =>
    cases l with
    | nil => cases e
    | cons x l =>
      cases l with
      | nil =>
        cases e
        have := ih (l := []) rfl
        rw [List.append_assoc]
        exact .cons hc0 hy0 this
      | cons y l =>
        cases e
        have := ih (l := b1 :: l) rfl
        rw [List.append_assoc]
        exact .cons hc0 hy0 this
theorem take_two {bs : List Int} {k : Nat} (h : k + 1 < bs.length) : bs.take (k + 1) = bs.take k ++ [bs[k]] ∧ bs.take (k + 2) = bs.take k ++ [bs[k], bs[k + 1]] := by
  have e1 : bs.take (k + 1) = bs.take k ++ [bs[k]] := by
    rw [List.take_add_one, List.getElem?_eq_getElem (by omega)]; rfl
  refine ⟨e1, ?_⟩
  rw [List.take_add_one, List.getElem?_eq_getElem h, e1, List.append_assoc]; rfl
theorem inc_get {l : List Int} (h : Inc l) {i j : Nat} (hij : i < j) (hj : j < l.length) : l[i] < l[j] := List.pairwise_iff_getElem.mp h i j (by omega) hj hij
theorem ldrawn_ok (ns : List Int) (hn : ns.length ≤ 63) (pl : Int) (h0 : 0 ≤ pl) (h1 : pl ≤ 5000) {h : Hst} (g : GH h) : ∃ d, ldrawn_z_i_h ns pl h = .ok d ∧ Has h d := by
  unfold ldrawn_z_i_h
  have hl := g.len
  have hn12 := g.n12
  rw [rb_ok, rngT_ok (by omega) (by omega) (by omega) (by omega), rb_ok]
  obtain ⟨⟨F, a⟩, hf, e1, e2⟩ := forT_range (σ := List Int × Int) (ρ := List Int) (n := h.2.length) (s := ([], pl)) (f := fun s2 i3 =>
      ((atT h.2 i3).rb fun n4 => rngT 0 n4).rb fun w17 => (forT (ρ := List Int) (fun (s5 : (List Int) × Int) (j6 : Int) =>
      ((atT h.1 i3).rb fun x10 => (((atT h.1 (i3 + 1)).rb fun x7 => (atT h.1 i3).rb fun x8 => Res.ok (x7 - x8)).rb fun x9 => lpick_z_i_i ns s5.2 x9).rb fun x11 => Res.ok (x10 + x11)).rb fun x13 => (pushT s5.1 x13).rb fun found12 =>
      Res.ok (.nx (found12, (s5.2 + 1)))) w17 (s2.1, s2.2)).rb fun o16 => after o16 (fun s14 =>
      Res.ok (.nx (s14.1, s14.2))) (fun r15 => Res.ok (.ret r15)))
    (fun k s => s.2 = pl + s.1.length ∧ Bks (h.1.take (k + 1)) (h.2.take k) s.1) ⟨by simp, by
      cases q : h.1 with
      | nil => exact absurd q g.ne
      | cons b r => exact .nil b⟩
    (fun k s hk ⟨i1, i2⟩ => by
      have c := g.cr h.2[k] (List.getElem_mem _)
      have lt : h.1[k] < h.1[k + 1]'(by omega) := inc_get g.inc (by omega) (by omega)
      have sl := i2.len
      have sb := sum_bd (k := 60) (by omega) (l := h.2.take k) fun c h => g.cr c (List.mem_of_mem_take h)
      have tk : (h.2.take k).length ≤ 11 := by rw [List.length_take]; omega
      obtain ⟨m, em⟩ : ∃ m : Nat, h.2[k] = (m : Int) := ⟨(h.2[k]).toNat, by omega⟩
      rw [atT_nat hk, rb_ok, rngT_ok (by omega) (by omega) (by omega) (by omega), rb_ok, em]
      obtain ⟨⟨F, a⟩, hf, e1, G, e2, e3, e4⟩ := forT_range (σ := List Int × Int) (ρ := List Int) (n := m) (s := (s.1, s.2)) (f := fun s5 j6 =>
          ((atT h.1 (k : Int)).rb fun x10 => (((atT h.1 ((k : Int) + 1)).rb fun x7 => (atT h.1 (k : Int)).rb fun x8 => Res.ok (x7 - x8)).rb fun x9 => lpick_z_i_i ns s5.2 x9).rb fun x11 => Res.ok (x10 + x11)).rb fun x13 => (pushT s5.1 x13).rb fun found12 =>
          Res.ok (.nx (found12, (s5.2 + 1))))
        (fun j t => t.2 = pl + t.1.length ∧ ∃ G : List Int, t.1 = s.1 ++ G ∧ G.length = j ∧ ∀ y : Int, y ∈ G → h.1[k] ≤ y ∧ y < h.1[k + 1]'(by omega)) ⟨i1, [], by simp, rfl, fun _ h => nomatch h⟩
        (fun j t hj ⟨j1, G, j2, j3, j4⟩ => by
          have tl : t.1.length = s.1.length + j := by rw [j2, List.length_append, j3]
          obtain ⟨u, hu, u1, u2⟩ := pick_ok ns hn t.2 (h.1[k + 1]'(by omega) - h.1[k]) (by omega) (by omega) (by omega)
          refine ⟨(t.1 ++ [h.1[k] + u], t.2 + 1), ?_, by simp; omega, G ++ [h.1[k] + u], by rw [j2, List.append_assoc], by simp [j3], fun y hy => ?_⟩
          · rw [atT_nat (show k < h.1.length by omega), rb_ok, atT_get (j := k + 1) (by omega) (by omega), rb_ok, rb_ok, rb_ok, hu, rb_ok, rb_ok, pushT_ok (by omega), rb_ok]
          · rcases List.mem_append.mp hy with hy | hy
            · exact j4 y hy
            · rw [List.mem_singleton.mp hy]; omega)
      refine ⟨(F, a), ?_, e1, ?_⟩
      · rw [hf, rb_ok, after_nx]
      · show Bks (h.1.take (k + 2)) (h.2.take (k + 1)) F
        have t2 := take_two (bs := h.1) (k := k) (by omega)
        rw [t2.1] at i2
        have := i2.snoc (c := h.2[k]) (ys := G) (b' := h.1[k + 1]'(by omega)) (by rw [e3, em]) e4
        rw [t2.2, List.take_add_one, List.getElem?_eq_getElem hk]
        have e2 : F = s.1 ++ G := e2
        rw [e2]
        exact this)
  rw [hf, rb_ok, after_nx]
  have e2 : Bks (h.1.take (h.2.length + 1)) (h.2.take h.2.length) F := e2
  rw [List.take_of_length_le (by omega), List.take_of_length_le (Nat.le_refl _)] at e2
  exact ⟨_, rfl, Has.of_sort g.inc g.ne e2⟩
end Y
-- LB
set_option Elab.async false
set_option linter.all false
set_option maxRecDepth 100000
set_option maxHeartbeats 4000000
/-! LB: ranks, ranges, sums. -/
namespace Y
open PL
variable {α β γ σ ρ τ : Type}
theorem atT_getD {xs : List Int} {i : Int} (h0 : 0 ≤ i) (h : i < xs.length) : atT xs i = .ok (xs.getD i.toNat 0) := by
  obtain ⟨n, rfl⟩ := Int.eq_ofNat_of_zero_le h0
  have hn : n < xs.length := by omega
  rw [atT_nat hn, ← gd hn]; rfl
theorem GH.sz0 {h : Hst} (g : GH h) : 0 ≤ h.2.sum := (sum_bd (k := 60) (by omega) g.cr).1
theorem inB_true {lo hi v : Int} (h : lo ≤ v) (h2 : v ≤ hi) : inB lo hi v = true := by
  unfold inB
  rw [decide_eq_true h, decide_eq_true h2]; rfl
theorem size_ok (h : Hst) : size_of_h h = .ok h.2.sum := rfl
theorem check_rank_ok {h : Hst} {r : Int} (h1 : 1 ≤ r) (h2 : r ≤ h.2.sum) : check_rank_h_i h r = .ok () := by
  unfold check_rank_h_i
  rw [size_ok, rb_ok, is_int_ok, inB_true h1 h2]; rfl
/-- the bounds of a rank -/
def rkb (h : Hst) (r : Int) : Int × Int := ((low h).getD (r - 1).toNat 0, (high h).getD (r - 1).toNat 0)
theorem find_bounds_ok {h : Hst} (g : GH h) {r : Int} (h1 : 1 ≤ r) (h2 : r ≤ h.2.sum) : find_bounds_h_i h r = .ok (rkb h r) := by
  unfold find_bounds_h_i
  have := low_len g
  have := high_len g
  rw [lowest_ok g, rb_ok, atT_getD (by omega) (by omega), rb_ok, highest_ok g, rb_ok, atT_getD (by omega) (by omega), rb_ok]; rfl
theorem rank_bounds_ok {h : Hst} (g : GH h) {r : Int} (h1 : 1 ≤ r) (h2 : r ≤ h.2.sum) : rank_bounds_h_i h r = .ok (rkb h r) := by
  unfold rank_bounds_h_i
  rw [g.chk, rb_ok, check_rank_ok h1 h2, rb_ok, find_bounds_ok g h1 h2]
theorem percentile_ok {h : Hst} (g : GH h) {p : Int} (h1 : 1 ≤ p) (h2 : p ≤ 100) (hs : 0 < h.2.sum) : percentile_bounds_h_i h p = .ok (rkb h ((p * h.2.sum + 100 - 1) / 100)) := by
  unfold percentile_bounds_h_i
  have := g.sm
  have hm : p * h.2.sum ≤ 100 * h.2.sum := Int.mul_le_mul_of_nonneg_right h2 (by omega)
  have hm1 : 1 * h.2.sum ≤ p * h.2.sum := Int.mul_le_mul_of_nonneg_right h1 (by omega)
  rw [g.chk, rb_ok, is_int_ok, inB_true h1 h2, rb_ok, rb_ok, if_neg (by decide), size_ok, rb_ok, if_neg (by simp; omega), mulT_l (by omega) (by omega), rb_ok, rb_ok, rb_ok, rb_ok, find_bounds_ok g (by omega) (by omega)]
theorem lless_ok (xs : List Int) (v : Int) (h : xs.length ≤ 100000) : (((Res.ok xs).rb fun w2 => lenT ((w2.filter (fun one1 : Int => (decide (one1 < v)))).map (fun one1 : Int => one1))).rb fun x3 => Res.ok (x3.length : Int)) = .ok (less v xs) := by
  have := List.length_filter_le (fun x => decide (x < v)) xs
  rw [rb_ok, List.map_id', lenT_ok (by omega), rb_ok]; rfl
theorem Has.low_s {h : Hst} (g : GH h) : (low h).length ≤ 200 := by have := low_len g; have := g.sm; omega
theorem Has.high_s {h : Hst} (g : GH h) : (high h).length ≤ 200 := by have := high_len g; have := g.sm; omega
/-- how few and how many lie below v -/
def rng (h : Hst) (v : Int) : Int × Int := (less v (high h), less v (low h))
theorem find_range_ok {h : Hst} (g : GH h) (v : Int) : find_range_h_i h v = .ok (rng h v) := by
  unfold find_range_h_i
  have := Has.low_s g
  have := Has.high_s g
  rw [highest_ok g, lless_ok _ _ (by omega), rb_ok, lowest_ok g, lless_ok _ _ (by omega), rb_ok]; rfl
theorem rank_range_ok {h : Hst} (g : GH h) {v : Int} (h1 : 0 ≤ v) (h2 : v ≤ 1000) : rank_range_h_i h v = .ok (rng h v) := by
  unfold rank_range_h_i
  rw [g.chk, rb_ok, is_int_ok, inB_true h1 h2, rb_ok, rb_ok, if_neg (by decide), find_range_ok g]
theorem find_sums_ok {h : Hst} (g : GH h) : find_sums_h h = .ok ((low h).sum, (high h).sum) := by
  unfold find_sums_h
  rw [lowest_ok g, rb_ok, rb_ok, highest_ok g, rb_ok, rb_ok]
theorem sum_bounds_ok {h : Hst} (g : GH h) : sum_bounds_h h = .ok ((low h).sum, (high h).sum) := by
  unfold sum_bounds_h
  rw [g.chk, rb_ok, find_sums_ok g]
end Y
-- LC
set_option Elab.async false
set_option linter.all false
set_option maxRecDepth 100000
set_option maxHeartbeats 4000000
/-! LC: data: judged, counted by buckets. -/
namespace Y
open PL
variable {α β γ σ ρ τ : Type}
def dataB (xs : List Int) : Bool := decide (xs.length ≤ 200) && (xs.all (inB 0 999) && (xs.zip xs.tail).all fun p => decide (p.1 ≤ p.2))
theorem zip_asc : ∀ {bs : List Int}, ((bs.zip bs.tail).all fun p => decide (p.1 ≤ p.2)) = true ↔ Asc bs
  | [] => by simp
  | [b] => by simp
  | b :: c :: r => by
    have ih := zip_asc (bs := c :: r)
    show (decide (b ≤ c) && (((c :: r).zip r).all fun p => decide (p.1 ≤ p.2))) = true ↔ _
    rw [Bool.and_eq_true, decide_eq_true_eq]
    have ih : (((c :: r).zip r).all fun p => decide (p.1 ≤ p.2)) = true ↔ Asc (c :: r) := ih
    rw [ih]
    constructor
    · rintro ⟨h1, h2⟩
      refine List.pairwise_cons.mpr ⟨fun x hx => ?_, h2⟩
      rcases List.mem_cons.mp hx with rfl | hx
      · exact h1
      · have := (List.pairwise_cons.mp h2).1 x hx
        omega
    · intro h
      obtain ⟨h1, h2⟩ := List.pairwise_cons.mp h
      exact ⟨h1 c (List.mem_cons_self ..), h2⟩
/-- data of the program -/
structure GD (xs : List Int) : Prop where
  asc : Asc xs
  n : xs.length ≤ 200
  rg : ∀ x ∈ xs, 0 ≤ x ∧ x ≤ 999
theorem dataB_iff (xs : List Int) : dataB xs = true ↔ GD xs := by
  unfold dataB
  rw [Bool.and_eq_true, Bool.and_eq_true, zip_asc, decide_eq_true_eq, List.all_eq_true]
  constructor
  · rintro ⟨h1, h3, h4⟩
    refine ⟨h4, h1, fun b hb => ?_⟩
    have := h3 b hb
    unfold inB at this
    simpa using this
  · intro g
    refine ⟨g.n, fun b hb => ?_, g.asc⟩
    have := g.rg b hb
    unfold inB
    simpa using this
theorem are_data_ok (xs : List Int) (hl : xs.length ≤ 100000) : are_data_li xs = .ok (dataB xs) := by
  unfold are_data_li dataB
  by_cases h : xs.length ≤ 200
  · rw [if_neg (by simp; omega), rb_ok, mapR_ok (g := inB 0 999) fun x _ => is_int_ok _ _ _, rb_ok, lenT_ok (by rw [List.length_map]; omega), rb_ok, all_map, rb_ok, rb_ok, decide_eq_true h]
    cases q : xs.all (inB 0 999)
    · rfl
    · rw [if_neg (by decide), rb_ok, rb_ok, rb_ok, cut_1, lenT_ok (by rw [List.length_map, List.length_zip]; omega), rb_ok, all_map]; rfl
  · rw [if_pos (by simp; omega), decide_eq_false h]; rfl
theorem Has.gd {h : Hst} {xs : List Int} (g : GH h) (d : Has h xs) : GD xs := ⟨d.asc, d.small g, d.rg g⟩
theorem GD.is {xs : List Int} (d : GD xs) : are_data_li xs = .ok true := by
  rw [are_data_ok xs (by have := d.n; omega), (dataB_iff xs).mpr d]
theorem GD.chk {xs : List Int} (d : GD xs) : check_data_li xs = .ok () := by
  unfold check_data_li
  rw [d.is]; rfl
/-! ### buckets -/
def cnt (bs : List Int) (v : Int) : Nat := (bs.filter fun b => decide (b ≤ v)).length
theorem cnt_cons (b v : Int) (r : List Int) : cnt (b :: r) v = (if b ≤ v then 1 else 0) + cnt r v := by
  unfold cnt
  by_cases h : b ≤ v
  · rw [List.filter_cons_of_pos (by simpa using h), if_pos h, List.length_cons]; omega
  · rw [List.filter_cons_of_neg (by simpa using h), if_neg h]; omega
theorem cnt_zero {v : Int} : ∀ {r : List Int}, (∀ x ∈ r, ¬ x ≤ v) → cnt r v = 0
  | [], _ => rfl
  | x :: r, h => by
    rw [cnt_cons, if_neg (h x (List.mem_cons_self ..)), cnt_zero fun y hy => h y (List.mem_cons_of_mem _ hy)]
theorem cnt_le (v : Int) (bs : List Int) : cnt bs v ≤ bs.length := List.length_filter_le _ _
theorem inc_iff {v : Int} : ∀ {bs : List Int}, Inc bs → ∀ (j : Nat) (hj : j < bs.length), bs[j] ≤ v ↔ j < cnt bs v
  | [], _, j, hj => by simp at hj
  | b :: r, h, j, hj => by
    obtain ⟨h1, h2⟩ := List.pairwise_cons.mp h
    rw [cnt_cons]
    by_cases hb : b ≤ v
    · rw [if_pos hb]
      cases j with
      | zero => simp [hb]; omega
      | succ j =>
        have := inc_iff h2 j (by simpa using hj) (v := v)
        simp only [List.getElem_cons_succ]
        rw [this]; omega
    · rw [if_neg hb]
      have z : cnt r v = 0 := cnt_zero fun x hx => by have := h1 x hx; omega
      rw [z]
      cases j with
      | zero => simp [hb]
      | succ j =>
        simp only [List.getElem_cons_succ]
        have := h1 (r[j]'(by simpa using hj)) (List.getElem_mem _)
        constructor
        · intro q; omega
        · intro q; omega
open Classical in
theorem find_ok {bs : List Int} (g : GB bs) (v : Int) : ∃ o, find_bucket_ti_i bs v = .ok o ∧ ∀ (j : Nat) (hj : j + 1 < bs.length), decide (o = some (j : Int)) = inb bs[j] bs[j + 1] v := by
  have n2 := g.n2
  have n12 := g.n12
  have hne : bs ≠ [] := fun z => by rw [z] at n2; simp at n2
  unfold find_bucket_ti_i
  have e0 : atT bs 0 = .ok bs[0] := atT_get (j := 0) rfl (by omega)
  have i0 := inc_iff g.inc 0 (by omega) (v := v)
  have il := inc_iff g.inc (bs.length - 1) (by omega) (v := v)
  have el : bs[bs.length - 1] = bs.getLast hne := (List.getLast_eq_getElem _).symm
  rw [el] at il
  have hc := cnt_le v bs
  rw [e0, rb_ok, atT_last hne]
  have out : ∀ (j : Nat) (hj : j + 1 < bs.length), ¬ (bs[0] ≤ v ∧ v < bs.getLast hne) → inb bs[j] bs[j + 1] v = false := fun j hj hno => by
    have ij := inc_iff g.inc j (by omega) (v := v)
    have ij1 := inc_iff g.inc (j + 1) hj (v := v)
    unfold inb
    rw [Bool.and_eq_false_iff, decide_eq_false_iff_not, decide_eq_false_iff_not]
    by_cases hv : bs[j] ≤ v
    · refine .inr fun hw => hno ⟨i0.mpr (by have := ij.mp hv; omega), ?_⟩
      have q2 : ¬ (j + 1 < cnt bs v) := fun z => by have := ij1.mpr z; omega
      have q3 : ¬ (bs.getLast hne ≤ v) := fun z => q2 (by have := il.mp z; omega)
      omega
    · exact .inl hv
  by_cases h1 : bs[0] ≤ v
  · rw [if_pos (by simpa using h1), rb_ok, rb_ok, rb_ok]
    by_cases h2 : v < bs.getLast hne
    · rw [if_neg (by simpa using h2), rb_ok, List.map_id', lenT_ok (by have := List.length_filter_le (fun b => decide (b ≤ v)) bs; omega), rb_ok, rb_ok, rb_ok]
      refine ⟨_, rfl, fun j hj => ?_⟩
      have ij := inc_iff g.inc j (by omega) (v := v)
      have ij1 := inc_iff g.inc (j + 1) hj (v := v)
      show decide (some ((cnt bs v : Int) - 1) = some (j : Int)) = _
      have c1 := i0.mp h1
      unfold inb
      by_cases hv : bs[j] ≤ v
      · by_cases hw : bs[j + 1] ≤ v
        · have := ij1.mp hw
          rw [decide_eq_false (by simp; omega), decide_eq_true hv, decide_eq_false (by omega)]; rfl
        · have q1 := ij.mp hv
          have q2 : ¬ (j + 1 < cnt bs v) := fun z => hw (ij1.mpr z)
          rw [decide_eq_true (by simp; omega), decide_eq_true hv, decide_eq_true (by omega)]; rfl
      · have q1 : ¬ (j < cnt bs v) := fun z => hv (ij.mpr z)
        rw [decide_eq_false (by simp; omega), decide_eq_false hv]; rfl
    · rw [if_pos (by simpa using h2)]
      exact ⟨none, rfl, fun j hj => by rw [out j hj fun z => h2 z.2]; rfl⟩
  · rw [if_neg (by simpa using h1), rb_ok, rb_ok, if_pos (by decide)]
    exact ⟨none, rfl, fun j hj => by rw [out j hj fun z => h1 z.1]; rfl⟩
theorem countT_map {f : Int → Option Int} (j : Option Int) (xs : List Int) : countT j (xs.map f) = ((xs.filter fun v => decide (f v = j)).length : Int) := by
  unfold countT
  rw [List.filter_map, List.length_map]; rfl
open Classical in
theorem find_fun {bs : List Int} (g : GB bs) : ∃ f : Int → Option Int, (∀ v, find_bucket_ti_i bs v = .ok (f v)) ∧ ∀ v (j : Nat) (hj : j + 1 < bs.length), decide (f v = some (j : Int)) = inb bs[j] bs[j + 1] v :=
  ⟨fun v => Classical.choose (find_ok g v), fun v => (Classical.choose_spec (find_ok g v)).1, fun v => (Classical.choose_spec (find_ok g v)).2⟩
theorem count_ok {bs : List Int} (g : GB bs) (xs : List Int) (hx : xs.length ≤ 100000) : count_data_ti_li bs xs = .ok (cnts bs xs) := by
  obtain ⟨f, h1, h2⟩ := find_fun g
  have n2 := g.n2
  have n12 := g.n12
  unfold count_data_ti_li
  rw [rb_ok, mapR_ok (g := f) fun v _ => h1 v, rb_ok, lenT_ok (by rw [List.length_map]; omega), rb_ok, rb_ok, rngT_ok (by omega) (by omega) (by omega) (by omega), rb_ok, lenT_ok (by rw [List.length_map, rangeI_len]; omega), rb_ok]
  congr 1
  apply List.ext_getElem
  · rw [List.length_map, rangeI_len, cnts_len]; omega
  · intro j hj1 hj2
    rw [cnts_len] at hj2
    have a : (cnts bs xs)[j]'(by rw [cnts_len]; exact hj2) = (((xs.filter (inb bs[j] (bs[j + 1]'(by omega)))).length : Nat) : Int) := by
      simp only [cnts, List.getElem_map, List.getElem_zip, List.getElem_tail]
    rw [a, List.getElem_map, rangeI_get, countT_map]
    congr 2
    apply List.filter_congr
    intro v _
    rw [Int.zero_add]
    exact h2 v j (by omega)
theorem do_have_ok {h : Hst} (g : GH h) (xs : List Int) (hx : xs.length ≤ 100000) : do_have_li_h xs h = .ok (decide ((xs.length : Int) = h.2.sum) && decide (cnts h.1 xs = h.2)) := by
  unfold do_have_li_h
  rw [size_ok, rb_ok, rb_ok]
  by_cases c : (xs.length : Int) = h.2.sum
  · rw [if_pos (by simpa using c), count_ok g.gb xs hx, rb_ok, decide_eq_true c]; rfl
  · rw [if_neg (by simpa using c), decide_eq_false c]; rfl
open Classical in
/-- judged to be data with a histogram -/
theorem judged {h : Hst} (g : GH h) (xs : List Int) (hx : xs.length ≤ 100000) : (dataB xs && (decide ((xs.length : Int) = h.2.sum) && decide (cnts h.1 xs = h.2))) = decide (Has h xs) := by
  by_cases c : Has h xs
  · rw [decide_eq_true c, (dataB_iff xs).mpr (c.gd g), decide_eq_true c.len, decide_eq_true (c.b.cnts g.inc)]; rfl
  · rw [decide_eq_false c]
    by_cases d : dataB xs = true
    · rw [d]
      by_cases c1 : (xs.length : Int) = h.2.sum
      · rw [decide_eq_true c1]
        have : ¬ (cnts h.1 xs = h.2) := fun z => c ((has_iff g xs).mpr ⟨(asc_sort ((dataB_iff xs).mp d).asc).symm, z, c1⟩)
        rw [decide_eq_false this]; rfl
      · rw [decide_eq_false c1]; rfl
    · have : dataB xs = false := by simpa using d
      rw [this]; rfl
end Y
-- LD
set_option Elab.async false
set_option linter.all false
set_option maxRecDepth 100000
set_option maxHeartbeats 4000000
/-! LD: sums, means, data with a sum; data that are no data. -/
namespace Y
open PL
variable {α β γ σ ρ τ : Type}
/-! ### the greatest common divisor -/
theorem dvd_mod {x y d : Int} : (d ∣ y ∧ d ∣ x % y) ↔ (d ∣ x ∧ d ∣ y) := by
  have e : x % y = x - y * (x / y) := Int.emod_def x y
  constructor
  · rintro ⟨h1, h2⟩
    refine ⟨?_, h1⟩
    have : x = x % y + y * (x / y) := by omega
    rw [this]
    exact Int.dvd_add h2 (Int.dvd_trans h1 (Int.dvd_mul_right y _))
  · rintro ⟨h1, h2⟩
    refine ⟨h2, ?_⟩
    rw [e]
    exact Int.dvd_sub h1 (Int.dvd_trans h2 (Int.dvd_mul_right y _))
theorem divisor_ok {a b : Int} (ha : 0 ≤ a) (hb : 0 < b) (hb2 : b ≤ 1000) : ∃ g, divisor_i_i a b = .ok g ∧ 0 < g ∧ g ∣ a ∧ g ∣ b ∧ ∀ d, d ∣ a → d ∣ b → d ∣ g := by
  unfold divisor_i_i
  obtain ⟨s, h1, ⟨h2, h3, h4, h5⟩, h6⟩ := whl_inv (σ := Int × Int) (ρ := Int) (test := fun s1 => Res.ok (!decide (s1.2 = 0))) (f := fun s1 => ((modT s1.1 s1.2).rb fun x3 => Res.ok (s1.2, x3) : Res (Int × Int)).rb fun p2 => Res.ok (.nx (p2.1, p2.2)))
    (fun s => 0 ≤ s.1 ∧ 0 ≤ s.2 ∧ s.2 ≤ 1000 ∧ ∀ d, (d ∣ s.1 ∧ d ∣ s.2) ↔ (d ∣ a ∧ d ∣ b)) (fun s => s.2.toNat) (fun s ⟨i1, i2, i3, i4⟩ => by
      by_cases c : s.2 = 0
      · exact .inl (by simp [c])
      · refine .inr ⟨by simp [c], (s.2, s.1 % s.2), ?_, ⟨i2, Int.emod_nonneg _ c, ?_, fun d => dvd_mod.trans (i4 d)⟩, ?_⟩
        · rw [modT_ok (by omega), rb_ok, rb_ok]
        · have := Int.emod_lt_of_pos s.1 (show 0 < s.2 by omega)
          show s.1 % s.2 ≤ 1000
          omega
        · have := Int.emod_lt_of_pos s.1 (show 0 < s.2 by omega)
          have := Int.emod_nonneg s.1 c
          show (s.1 % s.2).toNat < s.2.toNat
          omega) 100000 (a, b) (by show b.toNat < 100000; omega) ⟨ha, by show 0 ≤ b; omega, hb2, fun d => Iff.rfl⟩
  rw [h1, rb_ok, after_nx]
  have e : s.2 = 0 := by
    have : (!decide (s.2 = 0)) = false := by injection h6
    simpa using this
  have k := fun d => h5 d
  rw [e] at k
  have g0 := (k s.1).mp ⟨Int.dvd_refl _, Int.dvd_zero _⟩
  refine ⟨s.1, rfl, ?_, g0.1, g0.2, fun d d1 d2 => ((k d).mpr ⟨d1, d2⟩).1⟩
  by_cases z : s.1 = 0
  · have := g0.2
    rw [z] at this
    have := Int.zero_dvd.mp this
    omega
  · omega
/-- a fraction in lowest terms -/
theorem fraction_ok {a b : Int} (ha : 0 ≤ a) (hb : 0 < b) (hb2 : b ≤ 1000) : ∃ p q, fraction_i_i a b = .ok (p, q) ∧ 0 < q ∧ q ≤ b ∧ 0 ≤ p ∧ p ≤ a ∧ p * b = q * a ∧ ∀ d, 2 ≤ d → d ∣ p → d ∣ q → False := by
  unfold fraction_i_i
  obtain ⟨g, h1, h2, ⟨p, hp⟩, ⟨q, hq⟩, h5⟩ := divisor_ok ha hb hb2
  have hgb : g ≤ b := Int.le_of_dvd hb ⟨q, hq⟩
  have hdp : a / g = p := by rw [hp]; exact Int.mul_ediv_cancel_left p (by omega)
  have hdq : b / g = q := by rw [hq]; exact Int.mul_ediv_cancel_left q (by omega)
  rw [h1, rb_ok, fdivT_ok h2 (by omega), rb_ok, fdivT_ok h2 (by omega), rb_ok, hdp, hdq]
  have q0 : 0 < q := by
    rw [hq] at hb
    by_cases c : 0 < q
    · exact c
    · have := Int.mul_nonpos_of_nonneg_of_nonpos (a := g) (b := q) (by omega) (by omega)
      omega
  have p0 : 0 ≤ p := by rw [← hdp]; exact Int.ediv_nonneg ha (by omega)
  refine ⟨p, q, rfl, q0, by rw [← hdq]; exact Int.ediv_le_self _ (by omega), p0, by rw [← hdp]; exact Int.ediv_le_self _ ha, ?_, fun d d2 dp dq => ?_⟩
  · rw [hp, hq]
    rw [← Int.mul_assoc, ← Int.mul_assoc, Int.mul_comm p g, Int.mul_comm q g, Int.mul_assoc, Int.mul_assoc, Int.mul_comm p q]
  · obtain ⟨u, hu⟩ := dp
    obtain ⟨v, hv⟩ := dq
    have k := h5 (g * d) ⟨u, by rw [hp, hu, Int.mul_assoc]⟩ ⟨v, by rw [hq, hv, Int.mul_assoc]⟩
    have := Int.le_of_dvd h2 k
    have : g * 2 ≤ g * d := Int.mul_le_mul_of_nonneg_left d2 (by omega)
    omega
theorem GH.len0 {h : Hst} (g : GH h) : (low h = []) ↔ h.2.sum = 0 := by
  have := low_len g
  constructor
  · intro e; rw [e] at this; simpa using this.symm
  · intro e; rw [e] at this; exact List.length_eq_zero_iff.mp (by omega)
theorem sum_rg {k : Int} : ∀ {l : List Int}, (∀ y ∈ l, 0 ≤ y ∧ y ≤ k) → 0 ≤ k → 0 ≤ l.sum ∧ l.sum ≤ k * l.length := fun h h0 => sum_bd h0 h
theorem filled_chk {h : Hst} (g : GH h) (hs : 0 < h.2.sum) : check_filled_h h = .ok () := by
  unfold check_filled_h
  rw [g.chk, rb_ok, size_ok, rb_ok, rb_ok, if_neg (by simp; omega)]
theorem sums_rg {h : Hst} (g : GH h) : 0 ≤ (low h).sum ∧ (low h).sum ≤ (high h).sum ∧ (high h).sum ≤ 199800 := by
  have h1 := sum_bd (k := 999) (by omega) (l := low h) ((has_low g).rg g)
  have h2 := sum_bd (k := 999) (by omega) (l := high h) ((has_high g).rg g)
  have h3 := (has_low g).hi.sum
  have h4 := Has.high_s g
  have : (999 : Int) * ((high h).length : Int) ≤ 999 * 200 := by omega
  omega
theorem mean_ok {h : Hst} (g : GH h) (hs : 0 < h.2.sum) : ∃ f1 f2 : Int × Int, mean_bounds_h h = .ok (f1, f2) ∧ (0 < f1.2 ∧ f1.2 ≤ h.2.sum ∧ 0 ≤ f1.1 ∧ f1.1 ≤ 199800 ∧ f1.1 * h.2.sum = f1.2 * (low h).sum ∧ ∀ d, 2 ≤ d → d ∣ f1.1 → d ∣ f1.2 → False) ∧ (0 < f2.2 ∧ f2.2 ≤ h.2.sum ∧ 0 ≤ f2.1 ∧ f2.1 ≤ 199800 ∧ f2.1 * h.2.sum = f2.2 * (high h).sum ∧ ∀ d, 2 ≤ d → d ∣ f2.1 → d ∣ f2.2 → False) := by
  unfold mean_bounds_h
  have sr := sums_rg g
  have sm := g.sm
  obtain ⟨p, q, e1, a1, a2, a3, a4, a5, a6⟩ := fraction_ok (a := (low h).sum) (b := h.2.sum) (by omega) hs (by omega)
  obtain ⟨p2, q2, e2, b1, b2, b3, b4, b5, b6⟩ := fraction_ok (a := (high h).sum) (b := h.2.sum) (by omega) hs (by omega)
  rw [filled_chk g hs, rb_ok, find_sums_ok g, rb_ok, size_ok, rb_ok, e1, rb_ok, e2, rb_ok]
  exact ⟨(p, q), (p2, q2), rfl, ⟨a1, a2, a3, by omega, a5, a6⟩, b1, b2, b3, by omega, b5, b6⟩
/-! ### data with a sum -/
theorem Bks.between : ∀ {bs cs xs : List Int}, Inc bs → cs.length + 1 = bs.length → (∀ c ∈ cs, 0 ≤ c) → PLe (fill bs cs) xs → PLe xs (fill (bs.tail.map (· - 1)) cs) → Bks bs cs xs
  | [b], [], xs, _, _, _, h1, _ => by
    have : xs = [] := by
      have := h1.len
      cases xs with
      | nil => rfl
      | cons => simp [fill] at this
    subst this
    exact .nil b
  | b :: b' :: r, c :: cs, xs, hi, hl, hc, h1, h2 => by
    obtain ⟨i1, i2⟩ := List.pairwise_cons.mp hi
    have c0 := hc c (List.mem_cons_self ..)
    have h1 : PLe (List.replicate c.toNat b ++ fill (b' :: r) cs) xs := h1
    have h2 : PLe xs (List.replicate c.toNat (b' - 1) ++ fill (r.map (· - 1)) cs) := h2
    have l1 := h1.len
    have l2 := h2.len
    rw [List.length_append, List.length_replicate] at l1 l2
    have e : xs = xs.take c.toNat ++ xs.drop c.toNat := (List.take_append_drop _ _).symm
    rw [e]
    refine .cons (by rw [List.length_take]; omega) (fun y hy => ?_) (Bks.between i2 (by simpa using hl) (fun x hx => hc x (List.mem_cons_of_mem _ hx)) ?_ ?_)
    · obtain ⟨k, hk, rfl⟩ := List.mem_iff_getElem.mp hy
      rw [List.length_take] at hk
      rw [List.getElem_take]
      have q1 := h1.get k (by rw [List.length_append, List.length_replicate]; omega) (by omega)
      have q2 := h2.get k (by omega) (by rw [List.length_append, List.length_replicate]; omega)
      rw [List.getElem_append_left (by rw [List.length_replicate]; omega), List.getElem_replicate] at q1 q2
      omega
    · refine PLe.of (by rw [List.length_drop]; omega) fun k k1 k2 => ?_
      rw [List.getElem_drop]
      have q1 := h1.get (c.toNat + k) (by rw [List.length_append, List.length_replicate]; omega) (by rw [List.length_drop] at k2; omega)
      rw [List.getElem_append_right (by rw [List.length_replicate]; omega)] at q1
      simpa using q1
    · refine PLe.of (by rw [List.length_drop, List.tail_cons]; omega) fun k k1 k2 => ?_
      rw [List.getElem_drop]
      rw [List.tail_cons] at k2
      have q1 := h2.get (c.toNat + k) (by rw [List.length_drop] at k1; omega) (by rw [List.length_append, List.length_replicate]; omega)
      rw [List.getElem_append_right (by rw [List.length_replicate]; omega)] at q1
      simpa using q1
  | [], [], _, _, h, _, _, _ => by simp at h
  | [], _ :: _, _, _, h, _, _, _ => by simp at h
  | [_], _ :: _, _, _, h, _, _, _ => by simp at h
  | _ :: _ :: _, [], _, _, h, _, _, _ => by simp at h
theorem perm_sum {a b : List Int} (h : a.Perm b) : a.sum = b.sum := by
  induction h with
  | nil => rfl
  | cons x h ih => rw [List.sum_cons, List.sum_cons, ih]
  | swap x y l => simp only [List.sum_cons]; omega
  | trans h1 h2 i1 i2 => exact i1.trans i2
theorem sum_set : ∀ {xs : List Int} {j : Nat} {v : Int} (h : j < xs.length), (xs.set j v).sum = xs.sum - xs[j] + v
  | [], j, v, h => by simp at h
  | x :: xs, 0, v, h => by simp; omega
  | x :: xs, j + 1, v, h => by
    have := sum_set (xs := xs) (j := j) (v := v) (by simpa using h)
    simp only [List.set_cons_succ, List.sum_cons, List.getElem_cons_succ]
    omega
theorem setT_ok {xs : List α} {j : Nat} {v : α} (h : j < xs.length) : setT xs (j : Int) v = .ok (xs.set j v) := by
  unfold setT L2.ixN
  rw [if_pos (by omega), if_pos (by omega)]
  simp
theorem rangeS_down : ∀ (n : Nat), rangeS n ((n : Int) - 1) (-1) = ((List.range n).reverse.map fun i : Nat => (i : Int) : List Int)
  | 0 => rfl
  | n + 1 => by
    show (((n + 1 : Nat) : Int) - 1) :: rangeS n (((n + 1 : Nat) : Int) - 1 + -1) (-1) = _
    rw [show (((n + 1 : Nat) : Int) - 1 + -1) = (n : Int) - 1 by omega, rangeS_down n, List.range_succ, List.reverse_append, List.reverse_singleton, List.singleton_append, List.map_cons]
    congr 1
    omega
theorem raised_ok {h : Hst} (g : GH h) {t : Int} (h1 : (low h).sum ≤ t) (h2 : t ≤ (high h).sum) : ∃ d, raised_h_i h t = .ok d ∧ Has h d ∧ d.sum = t := by
  unfold raised_h_i
  have ls := Has.low_s g
  have ll := low_len g
  have hl := high_len g
  have hlen : (high h).length = (low h).length := by omega
  have lh := (has_low g).hi
  generalize hn : (low h).length = n at *
  rw [lowest_ok g, rb_ok, highest_ok g, rb_ok, rb_ok, rb_ok, rb_ok, rb_ok]
  dsimp only
  rw [hn]
  have er : rng3T ((n : Int) - 1) (-1) (-1) = .ok ((List.range n).reverse.map fun i : Nat => (i : Int)) := by
    unfold rng3T
    rw [small62_of (by omega) (by omega), small62_of (by omega) (by omega), ← rangeS_down n]
    have : ((n : Int) - 1 - -1).toNat = n := by omega
    rw [this]; rfl
  rw [er, rb_ok]
  obtain ⟨s, hf, i1, i2, i3, i4, i5⟩ := forT_inv (σ := List Int × Int) (ρ := List Int) (xs := (List.range n).reverse.map fun i : Nat => (i : Int)) (k := 0) (s := (low h, t - (low h).sum)) (f := fun s7 index8 =>
      (((atT (high h) index8).rb fun x9 => (atT s7.1 index8).rb fun x10 => Res.ok (x9 - x10)).rb fun x11 => Res.ok (min2 s7.2 x11)).rb fun more12 =>
      ((atT s7.1 index8).rb fun x13 => Res.ok (x13 + more12)).rb fun x15 => (Res.ok index8).rb fun j16 => (setT s7.1 j16 x15).rb fun least14 =>
      Res.ok (.nx (least14, (s7.2 - more12))))
    (fun i s => PLe (low h) s.1 ∧ PLe s.1 (high h) ∧ s.2 = t - s.1.sum ∧ 0 ≤ s.2 ∧ (0 < s.2 → ∀ (j : Nat) (a : j < s.1.length) (b : j < (high h).length), n - i ≤ j → s.1[j] = (high h)[j]))
    ⟨PLe.refl _, lh, rfl, by show 0 ≤ t - (low h).sum; omega, fun _ j a b c => by simp only [] at a; omega⟩ (fun i hi s ⟨j1, j2, j3, j4, j5⟩ => by
      rw [List.length_map, List.length_reverse, List.length_range] at hi
      have ei : ((List.range n).reverse.map fun i : Nat => (i : Int))[i]'(by simp; exact hi) = ((n - 1 - i : Nat) : Int) := by
        rw [List.getElem_map, List.getElem_reverse]
        simp
      rw [ei]
      have l1 := j1.len
      have l2 := j2.len
      rw [hn] at l1
      have q1 := j1.get (n - 1 - i) (by omega) (by omega)
      have q2 := j2.get (n - 1 - i) (by omega) (by omega)
      have k1 : n - 1 - i < s.1.length := by omega
      have k2 : n - 1 - i < (high h).length := by omega
      rw [atT_nat k2, rb_ok, atT_nat k1, rb_ok, rb_ok, rb_ok, rb_ok, rb_ok, rb_ok, setT_ok k1, rb_ok]
      refine ⟨_, rfl, ?_⟩
      generalize hm : min2 s.2 ((high h)[n - 1 - i] - s.1[n - 1 - i]) = m
      have hm1 : 0 ≤ m ∧ m ≤ s.2 ∧ m ≤ (high h)[n - 1 - i] - s.1[n - 1 - i] ∧ (m = s.2 ∨ m = (high h)[n - 1 - i] - s.1[n - 1 - i]) := by
        rw [← hm]; unfold min2; split <;> omega
      rw [Nat.zero_add]
      refine ⟨PLe.of (by simp; omega) fun j a b => ?_, PLe.of (by simp; omega) fun j a b => ?_, ?_, ?_, fun c j a b e => ?_⟩
      · have := j1.get j a (by simpa using b)
        simp only [List.getElem_set]
        split
        · rename_i e
          subst e
          omega
        · exact this
      · have := j2.get j (by simpa using a) b
        simp only [List.getElem_set]
        split
        · rename_i e
          subst e
          omega
        · exact this
      · show s.2 - m = t - (s.1.set (n - 1 - i) (s.1[n - 1 - i] + m)).sum
        rw [sum_set k1]
        omega
      · show 0 ≤ s.2 - m
        omega
      · have c : 0 < s.2 - m := c
        show (s.1.set (n - 1 - i) (s.1[n - 1 - i] + m))[j] = _
        rw [List.getElem_set]
        split
        · rename_i e
          subst e
          omega
        · exact j5 (by omega) j (by simpa using a) b (by omega))
  rw [hf, rb_ok, after_nx]
  rw [Nat.zero_add, List.length_map, List.length_reverse, List.length_range] at i5
  have fin : s.1.sum = t := by
    by_cases c : 0 < s.2
    · have e : s.1 = high h := List.ext_getElem i2.len fun j a b => i5 c j a b (by omega)
      rw [e] at i3
      omega
    · omega
  refine ⟨_, rfl, Has.of_sort g.inc g.ne (Bks.between g.inc g.len g.c0 i1 i2), ?_⟩
  rw [perm_sum (sortI_perm s.1)]
  exact fin
theorem total_chk {h : Hst} (g : GH h) {t : Int} (h0 : 0 ≤ t) : check_total_h_i h t = .ok () := by
  unfold check_total_h_i
  rw [g.chk, rb_ok, if_neg (by simp; omega)]
theorem data_sum_ok {h : Hst} (g : GH h) {t : Int} (h0 : 0 ≤ t) : ((low h).sum ≤ t ∧ t ≤ (high h).sum → ∃ d, data_with_sum_h_i h t = .ok (some d) ∧ Has h d ∧ d.sum = t) ∧ (¬ ((low h).sum ≤ t ∧ t ≤ (high h).sum) → data_with_sum_h_i h t = .ok none) := by
  unfold data_with_sum_h_i find_with_sum_h_i
  rw [total_chk g h0, rb_ok, find_sums_ok g, rb_ok]
  dsimp only
  constructor
  · intro c
    obtain ⟨d, e, hd, hs⟩ := raised_ok g c.1 c.2
    refine ⟨d, ?_, hd, hs⟩
    rw [if_pos (by simpa using c), e, rb_ok]
  · intro c
    rw [if_neg (by simpa using c)]
open Classical in
theorem are_sum_ok {h : Hst} (g : GH h) {t : Int} (h0 : 0 ≤ t) (xs : List Int) (hx : xs.length ≤ 100000) : are_data_with_sum_h_i_li h t xs = .ok (decide (Has h xs ∧ xs.sum = t)) := by
  unfold are_data_with_sum_h_i_li
  have j := judged g xs hx
  rw [total_chk g h0, rb_ok, are_data_ok xs hx, rb_ok]
  cases q : dataB xs
  · rw [q] at j
    have j : decide (Has h xs) = false := by rw [← j]; rfl
    have : ¬ Has h xs := by simpa using j
    rw [if_neg (by decide), decide_eq_false fun z => this z.1]
  · rw [q] at j
    rw [if_pos rfl, do_have_ok g xs hx, rb_ok]
    have j : (decide ((xs.length : Int) = h.2.sum) && decide (cnts h.1 xs = h.2)) = decide (Has h xs) := by rw [← j]; rfl
    rw [j]
    by_cases c : Has h xs
    · rw [if_pos (by simpa using c)]
      congr 1
      exact decide_eq_decide.mpr ⟨fun z => ⟨c, z⟩, fun z => z.2⟩
    · rw [if_neg (by simpa using c), decide_eq_false fun z => c z.1]
/-! ### untyped values that are no data -/
theorem isF_lst (xs : List D) : isF .list (.lst xs) = .ok true := rfl
theorem int_d (i lo hi : Int) : is_int_d_i_i (.int i) lo hi = .ok (inB lo hi i) := by
  unfold is_int_d_i_i
  show (if true = true then (if (!false) = true then ((cmpF .le (eI lo) (eD (.int i))).rb asBl).rb fun c2 => if c2 = true then (cmpF .le (eD (.int i)) (eI hi)).rb asBl else Res.ok false else Res.ok false) else Res.ok false) = _
  rw [if_pos rfl, if_pos (show (!false) = true from rfl), o_le]
  show (if decide (lo ≤ i) = true then (cmpF .le (eI i) (eI hi)).rb asBl else Res.ok false) = _
  unfold inB
  by_cases c : lo ≤ i
  · rw [if_pos (by simpa using c), o_le, decide_eq_true c]; rfl
  · rw [if_neg (by simpa using c), decide_eq_false c]; rfl
theorem data_d_no {d : D} (h : isF .list d = .ok false) : are_data_d d = .ok false := by
  unfold are_data_d
  rw [h]; rfl
theorem data_d_lst {xs : List Int} (hl : xs.length ≤ 100000) : are_data_d (eL eI xs) = .ok (dataB xs) := by
  unfold are_data_d dataB
  have e1 : isF .list (eL eI xs) = .ok true := rfl
  have e2 : (lenF (eL eI xs)).rb asInt = .ok (xs.length : Int) := by
    show (Res.ok (D.int ((xs.map eI).length : Nat))).rb asInt = _
    rw [List.length_map]; rfl
  rw [e1, rb_ok, rb_ok, if_neg (by decide), e2, rb_ok, rb_ok]
  by_cases h : xs.length ≤ 200
  · have e3 : (Res.ok (eL eI xs)).rb walkF = .ok (xs.map eI) := rfl
    have e4 : mapR (fun v => is_int_d_i_i v 0 999) (xs.map eI) = .ok (xs.map (inB 0 999)) := by
      have : ∀ ys : List Int, mapR (fun v => is_int_d_i_i v 0 999) (ys.map eI) = .ok (ys.map (inB 0 999)) := by
        intro ys
        induction ys with
        | nil => rfl
        | cons y ys ih =>
          show ((is_int_d_i_i (.int y) 0 999).nox.rb fun z => (mapR _ (ys.map eI)).rb fun zs => .ok (z :: zs)) = _
          rw [int_d, ih]; rfl
      exact this xs
    rw [if_neg (by simp; omega), e3, rb_ok, e4, rb_ok, lenT_ok (by rw [List.length_map]; omega), rb_ok, all_map, rb_ok, rb_ok, decide_eq_true h]
    cases q : xs.all (inB 0 999)
    · rfl
    · have e5 : slF (eL eI xs) (some 1) none = .ok (eL eI xs.tail) := by rw [o_slL, cut_1]
      have e6 : zipD (eL eI xs) (eL eI xs.tail) = .ok ((xs.zip xs.tail).map fun p => (D.int p.1, D.int p.2)) := by
        show Res.ok (List.zip (xs.map D.int) (xs.tail.map D.int)) = _
        rw [List.zip_map]; rfl
      rw [if_neg (by decide), rb_ok, e5, rb_ok, e6, rb_ok]
      have e7 : mapR (fun p10 : D × D => (cmpF .le (eD p10.1) (eD p10.2)).rb asBl) ((xs.zip xs.tail).map fun p => (D.int p.1, D.int p.2)) = .ok ((xs.zip xs.tail).map fun p => decide (p.1 ≤ p.2)) := by
        have : ∀ ys : List (Int × Int), mapR (fun p10 : D × D => (cmpF .le (eD p10.1) (eD p10.2)).rb asBl) (ys.map fun p => (D.int p.1, D.int p.2)) = .ok (ys.map fun p => decide (p.1 ≤ p.2)) := by
          intro ys
          induction ys with
          | nil => rfl
          | cons y ys ih =>
            show (((cmpF .le (eI y.1) (eI y.2)).rb asBl).nox.rb fun z => (mapR _ _).rb fun zs => .ok (z :: zs)) = _
            rw [o_le, ih]; rfl
        exact this _
      rw [e7, rb_ok, lenT_ok (by rw [List.length_map, List.length_zip]; omega), rb_ok, all_map]; rfl
  · rw [if_pos (by simp; omega), decide_eq_false h]; rfl
theorem are_sum_d {h : Hst} (g : GH h) {t : Int} (h0 : 0 ≤ t) {d : D} (hd : are_data_d d = .ok false) : are_data_with_sum_h_i_d h t d = .ok false := by
  unfold are_data_with_sum_h_i_d
  rw [total_chk g h0, rb_ok, hd, rb_ok]; rfl
end Y
-- LE
set_option Elab.async false
set_option linter.all false
set_option maxRecDepth 100000
set_option maxHeartbeats 4000000
/-! LE: statements. -/
namespace Y
open PL
variable {α β γ σ ρ τ : Type}
inductive Sm where
  | rank (r lo hi : Int) | less (v lo hi : Int) | sum (lo hi : Int)
namespace Sm
def w : Sm → W
  | rank r lo hi => ⟨"rank", [r, lo, hi]⟩
  | less v lo hi => ⟨"less", [v, lo, hi]⟩
  | sum lo hi => ⟨"sum", [lo, hi]⟩
def lo : Sm → Int
  | rank _ lo _ => lo
  | less _ lo _ => lo
  | sum lo _ => lo
def hi : Sm → Int
  | rank _ _ hi => hi
  | less _ _ hi => hi
  | sum _ hi => hi
/-- a statement for so many values -/
def ok (many : Int) : Sm → Prop
  | rank r lo hi => (1 ≤ r ∧ r ≤ many) ∧ (0 ≤ lo ∧ lo ≤ 999) ∧ (0 ≤ hi ∧ hi ≤ 999)
  | less v lo hi => (0 ≤ v ∧ v ≤ 1000) ∧ (0 ≤ lo ∧ lo ≤ 200) ∧ (0 ≤ hi ∧ hi ≤ 200)
  | sum lo hi => 0 ≤ lo ∧ 0 ≤ hi
/-- the number of which it speaks -/
def num (d : List Int) : Sm → Int
  | rank r _ _ => d.getD (r - 1).toNat 0
  | less v _ _ => Y.less v d
  | sum _ _ => d.sum
def bd (h : Hst) : Sm → Int × Int
  | rank r _ _ => rkb h r
  | less v _ _ => rng h v
  | sum _ _ => ((low h).sum, (high h).sum)
def set (s : Sm) (a b : Int) : Sm := match s with
  | rank r _ _ => rank r a b
  | less v _ _ => less v a b
  | sum _ _ => sum a b
end Sm
theorem str_rr : streqT "rank" "rank" = .ok true := by
  unfold streqT
  rw [if_pos (by decide +kernel)]
  exact congrArg Res.ok (by decide +kernel)
theorem str_lr : streqT "less" "rank" = .ok false := by
  unfold streqT
  rw [if_pos (by decide +kernel)]
  exact congrArg Res.ok (by decide +kernel)
theorem str_sr : streqT "sum" "rank" = .ok false := by
  unfold streqT
  rw [if_pos (by decide +kernel)]
  exact congrArg Res.ok (by decide +kernel)
theorem str_ll : streqT "less" "less" = .ok true := by
  unfold streqT
  rw [if_pos (by decide +kernel)]
  exact congrArg Res.ok (by decide +kernel)
theorem str_rl : streqT "rank" "less" = .ok false := by
  unfold streqT
  rw [if_pos (by decide +kernel)]
  exact congrArg Res.ok (by decide +kernel)
theorem str_sl : streqT "sum" "less" = .ok false := by
  unfold streqT
  rw [if_pos (by decide +kernel)]
  exact congrArg Res.ok (by decide +kernel)
theorem str_ss : streqT "sum" "sum" = .ok true := by
  unfold streqT
  rw [if_pos (by decide +kernel)]
  exact congrArg Res.ok (by decide +kernel)
theorem w_lo (s : Sm) : wkT s.w = .ok s.lo := by cases s <;> rfl
theorem w_hi (s : Sm) : wlT s.w = .ok s.hi := by cases s <;> rfl
theorem w_set (s : Sm) (a b : Int) : wSet s.w (a, b) = .ok (s.set a b).w := by cases s <;> rfl
theorem set_lo (s : Sm) (a b : Int) : (s.set a b).lo = a := by cases s <;> rfl
theorem set_hi (s : Sm) (a b : Int) : (s.set a b).hi = b := by cases s <;> rfl
theorem set_num (s : Sm) (a b : Int) (d : List Int) : (s.set a b).num d = s.num d := by cases s <;> rfl
theorem set_bd (s : Sm) (a b : Int) (h : Hst) : (s.set a b).bd h = s.bd h := by cases s <;> rfl
theorem cmp_less (xs : List Int) (v : Int) (h : xs.length ≤ 100000) (w : W) (hw : w1T w = .ok v) : (((Res.ok xs).rb fun w5 => (cmpR (fun value3 : Int => ((w1T w).rb fun x4 => Res.ok (decide (value3 < x4))).rb fun b6 => if b6 = true then ((Res.ok value3 : Res Int)).rb fun y7 => Res.ok (some y7) else Res.ok none) w5).rb lenT).rb fun x8 => Res.ok (x8.length : Int)) = .ok (less v xs) := by
  rw [rb_ok]
  have e : cmpR (fun value3 : Int => ((w1T w).rb fun x4 => Res.ok (decide (value3 < x4))).rb fun b6 => if b6 = true then ((Res.ok value3 : Res Int)).rb fun y7 => Res.ok (some y7) else Res.ok none) xs = .ok (xs.filter fun x => decide (x < v)) := by
    rw [hw]
    have := cmpR_filter (f := fun x : Int => x) (p := fun x => decide (x < v)) xs
    rw [List.map_id'] at this
    exact this
  have := List.length_filter_le (fun x => decide (x < v)) xs
  rw [e, rb_ok, lenT_ok (by omega), rb_ok]; rfl
theorem lnumber_ok {many : Int} (s : Sm) (hs : s.ok many) (d : List Int) (hd : (d.length : Int) = many) (hz : d.length ≤ 100000) : lnumber_li_w d s.w = .ok (s.num d) := by
  unfold lnumber_li_w
  cases s with
  | rank r lo hi =>
    obtain ⟨h1, _, _⟩ := hs
    show ((streqT "rank" "rank").rb _) = _
    rw [str_rr, rb_ok, if_pos rfl]
    show ((Res.ok (r - 1)).rb fun x2 => atT d x2) = _
    rw [rb_ok, atT_getD (by omega) (by omega)]; rfl
  | less v lo hi =>
    show ((streqT "less" "rank").rb _) = _
    rw [str_lr, rb_ok, if_neg (by decide)]
    show ((streqT "less" "less").rb _) = _
    rw [str_ll, rb_ok, if_pos rfl]
    exact cmp_less d v hz _ rfl
  | sum lo hi =>
    show ((streqT "sum" "rank").rb _) = _
    rw [str_sr, rb_ok, if_neg (by decide)]
    show ((streqT "sum" "less").rb _) = _
    rw [str_sl, rb_ok, if_neg (by decide)]; rfl
theorem number_in_ok {many : Int} (s : Sm) (hs : s.ok many) (d : List Int) (hd : (d.length : Int) = many) (hz : d.length ≤ 100000) : number_in_li_w d s.w = .ok (s.num d) := by
  have e : number_in_li_w d s.w = lnumber_li_w d s.w := rfl
  rw [e, lnumber_ok s hs d hd hz]
theorem ltrue_ok {many : Int} (s : Sm) (hs : s.ok many) (d : List Int) (hd : (d.length : Int) = many) (hz : d.length ≤ 100000) : ltrue_li_w d s.w = .ok (decide (s.lo ≤ s.num d ∧ s.num d ≤ s.hi)) := by
  unfold ltrue_li_w
  rw [lnumber_ok s hs d hd hz, rb_ok, w_lo, rb_ok, rb_ok, w_hi, rb_ok]
  by_cases c : s.lo ≤ s.num d
  · rw [if_pos (by simpa using c)]
    congr 1
    exact decide_eq_decide.mpr ⟨fun z => ⟨c, z⟩, fun z => z.2⟩
  · rw [if_neg (by simpa using c), decide_eq_false fun z => c z.1]
theorem do_hold_ok {many : Int} (s : Sm) (hs : s.ok many) (d : List Int) (hd : (d.length : Int) = many) (hz : d.length ≤ 100000) : do_hold_li_w d s.w = .ok (decide (s.lo ≤ s.num d ∧ s.num d ≤ s.hi)) := by
  unfold do_hold_li_w
  rw [w_lo, rb_ok, number_in_ok s hs d hd hz, rb_ok, w_hi, rb_ok]
  by_cases c : s.lo ≤ s.num d
  · rw [if_pos (by simpa using c)]
    congr 1
    exact decide_eq_decide.mpr ⟨fun z => ⟨c, z⟩, fun z => z.2⟩
  · rw [if_neg (by simpa using c), decide_eq_false fun z => c z.1]
theorem statement_ok {many : Int} (s : Sm) (hs : s.ok many) : is_statement_for_i_w many s.w = .ok true := by
  unfold is_statement_for_i_w
  have e0 : (cmpF .eq (eD (eW s.w)) (eD ((eT eI) []))).rb asBl = .ok false := by
    cases s with
    | rank r lo hi =>
      have : cmpb dep (.tup [.str "rank", .int r, .int lo, .int hi]) = true := by
        show (cmpb 59 (.str "rank") && (cmpb 59 (.int r) && (cmpb 59 (.int lo) && (cmpb 59 (.int hi) && cmpbs 59 [])))) = true
        rw [show cmpb 59 (.str "rank") = true by decide +kernel]; rfl
      show (cmpF .eq (.tup [.str "rank", .int r, .int lo, .int hi]) (.tup [])).rb asBl = _
      rw [eq_of this rfl]; rfl
    | less r lo hi =>
      have : cmpb dep (.tup [.str "less", .int r, .int lo, .int hi]) = true := by
        show (cmpb 59 (.str "less") && (cmpb 59 (.int r) && (cmpb 59 (.int lo) && (cmpb 59 (.int hi) && cmpbs 59 [])))) = true
        rw [show cmpb 59 (.str "less") = true by decide +kernel]; rfl
      show (cmpF .eq (.tup [.str "less", .int r, .int lo, .int hi]) (.tup [])).rb asBl = _
      rw [eq_of this rfl]; rfl
    | sum lo hi =>
      have : cmpb dep (.tup [.str "sum", .int lo, .int hi]) = true := by
        show (cmpb 59 (.str "sum") && (cmpb 59 (.int lo) && (cmpb 59 (.int hi) && cmpbs 59 []))) = true
        rw [show cmpb 59 (.str "sum") = true by decide +kernel]; rfl
      show (cmpF .eq (.tup [.str "sum", .int lo, .int hi]) (.tup [])).rb asBl = _
      rw [eq_of this rfl]; rfl
  rw [e0, rb_ok, if_neg (by decide), rb_ok, if_neg (by decide)]
  cases s with
  | rank r lo hi =>
    obtain ⟨h1, h2, h3⟩ := hs
    show ((streqT "rank" "rank").rb fun c2 => _).rb _ = _
    rw [str_rr, rb_ok, if_pos rfl, rb_ok, show (Sm.rank r lo hi).w.a = [r, lo, hi] from rfl, if_pos (show decide ((([r, lo, hi].length : Nat) : Int) = 3) = true by rfl)]
    show ((is_int_i_i_i r 1 many).rb fun c7 => if c7 = true then (is_int_i_i_i lo 0 999).rb fun c6 => if c6 = true then is_int_i_i_i hi 0 999 else Res.ok false else Res.ok false) = _
    rw [is_int_ok, rb_ok, inB_true h1.1 h1.2, if_pos rfl, is_int_ok, rb_ok, inB_true h2.1 h2.2, if_pos rfl, is_int_ok, inB_true h3.1 h3.2]
  | less r lo hi =>
    obtain ⟨h1, h2, h3⟩ := hs
    show ((streqT "less" "rank").rb fun c2 => _).rb _ = _
    rw [str_lr, rb_ok, if_neg (by decide), rb_ok, if_neg (by decide)]
    show ((streqT "less" "less").rb fun c2 => _).rb _ = _
    rw [str_ll, rb_ok, if_pos rfl, rb_ok, show (Sm.less r lo hi).w.a = [r, lo, hi] from rfl, if_pos (show decide ((([r, lo, hi].length : Nat) : Int) = 3) = true by rfl)]
    show ((is_int_i_i_i r 0 1000).rb fun c7 => if c7 = true then (is_int_i_i_i lo 0 200).rb fun c6 => if c6 = true then is_int_i_i_i hi 0 200 else Res.ok false else Res.ok false) = _
    rw [is_int_ok, rb_ok, inB_true h1.1 h1.2, if_pos rfl, is_int_ok, rb_ok, inB_true h2.1 h2.2, if_pos rfl, is_int_ok, inB_true h3.1 h3.2]
  | sum lo hi =>
    obtain ⟨h1, h2⟩ := hs
    show ((streqT "sum" "rank").rb fun c2 => _).rb _ = _
    rw [str_sr, rb_ok, if_neg (by decide), rb_ok, if_neg (by decide)]
    show ((streqT "sum" "less").rb fun c2 => _).rb _ = _
    rw [str_sl, rb_ok, if_neg (by decide), rb_ok, if_neg (by decide)]
    show ((streqT "sum" "sum").rb fun c2 => _) = _
    rw [str_ss, rb_ok, if_pos rfl, show (Sm.sum lo hi).w.a = [lo, hi] from rfl, if_pos (show decide ((([lo, hi].length : Nat) : Int) = 2) = true by rfl)]
    show ((is_total_i lo).rb fun c16 => if c16 = true then is_total_i hi else Res.ok false) = _
    unfold is_total_i
    rw [rb_ok, decide_eq_true h1, if_pos rfl, decide_eq_true h2]
theorem check_statement_ok {h : Hst} (g : GH h) (s : Sm) (hs : s.ok h.2.sum) : check_statement_h_w h s.w = .ok () := by
  unfold check_statement_h_w
  rw [g.chk, rb_ok, size_ok, rb_ok, statement_ok s hs]; rfl
theorem number_bounds_ok {h : Hst} (g : GH h) (s : Sm) (hs : s.ok h.2.sum) : number_bounds_h_w h s.w = .ok (s.bd h) := by
  unfold number_bounds_h_w
  cases s with
  | rank r lo hi =>
    obtain ⟨h1, _, _⟩ := hs
    show ((streqT "rank" "rank").rb _) = _
    rw [str_rr, rb_ok, if_pos rfl]
    exact find_bounds_ok g h1.1 h1.2
  | less v lo hi =>
    show ((streqT "less" "rank").rb _) = _
    rw [str_lr, rb_ok, if_neg (by decide)]
    show ((streqT "less" "less").rb _) = _
    rw [str_ll, rb_ok, if_pos rfl]
    exact find_range_ok g v
  | sum lo hi =>
    show ((streqT "sum" "rank").rb _) = _
    rw [str_sr, rb_ok, if_neg (by decide)]
    show ((streqT "sum" "less").rb _) = _
    rw [str_sl, rb_ok, if_neg (by decide)]
    exact find_sums_ok g
theorem surely_ok {h : Hst} (g : GH h) (s : Sm) (hs : s.ok h.2.sum) : surely_holds_h_w h s.w = .ok (decide (s.lo ≤ (s.bd h).1 ∧ (s.bd h).2 ≤ s.hi)) := by
  unfold surely_holds_h_w
  rw [number_bounds_ok g s hs, rb_ok, w_lo, rb_ok, rb_ok, w_hi, rb_ok]
  by_cases c : s.lo ≤ (s.bd h).1
  · rw [if_pos (by simpa using c)]
    congr 1
    exact decide_eq_decide.mpr ⟨fun z => ⟨c, z⟩, fun z => z.2⟩
  · rw [if_neg (by simpa using c), decide_eq_false fun z => c z.1]
theorem certain_ok {h : Hst} (g : GH h) (s : Sm) (hs : s.ok h.2.sum) : is_certain_h_w h s.w = .ok (decide (s.lo ≤ (s.bd h).1 ∧ (s.bd h).2 ≤ s.hi)) := by
  unfold is_certain_h_w
  rw [check_statement_ok g s hs, rb_ok, surely_ok g s hs]
theorem can_ok {h : Hst} (g : GH h) (s : Sm) (hs : s.ok h.2.sum) : can_hold_h_w h s.w = .ok (decide (max2 (s.bd h).1 s.lo ≤ min2 (s.bd h).2 s.hi)) := by
  unfold can_hold_h_w
  rw [check_statement_ok g s hs, rb_ok, number_bounds_ok g s hs, rb_ok, w_lo, rb_ok, rb_ok, w_hi, rb_ok, rb_ok]
/-- the number of data lies between the bounds -/
theorem num_bd {h : Hst} (g : GH h) (s : Sm) (hs : s.ok h.2.sum) {d : List Int} (hd : Has h d) : (s.bd h).1 ≤ s.num d ∧ s.num d ≤ (s.bd h).2 := by
  cases s with
  | rank r lo hi =>
    obtain ⟨h1, _, _⟩ := hs
    have l1 := low_len g
    have l2 := high_len g
    have l3 := hd.len
    have a : (r - 1).toNat < (low h).length := by omega
    have b : (r - 1).toNat < (high h).length := by omega
    have c : (r - 1).toNat < d.length := by omega
    have q1 := hd.lo.get _ a c
    have q2 := hd.hi.get _ c b
    show (low h).getD (r - 1).toNat 0 ≤ d.getD (r - 1).toNat 0 ∧ d.getD (r - 1).toNat 0 ≤ (high h).getD (r - 1).toNat 0
    rw [gd a, gd b, gd c]
    exact ⟨q1, q2⟩
  | less v lo hi => exact ⟨hd.hi.less v, hd.lo.less v⟩
  | sum lo hi => exact ⟨hd.lo.sum, hd.hi.sum⟩
open Classical in
theorem counter_ok {h : Hst} (g : GH h) (s : Sm) (hs : s.ok h.2.sum) (d : List Int) (hx : d.length ≤ 100000) : are_counter_data_h_w_li h s.w d = .ok (decide (Has h d ∧ ¬ (s.lo ≤ s.num d ∧ s.num d ≤ s.hi))) := by
  unfold are_counter_data_h_w_li
  have j := judged g d hx
  rw [check_statement_ok g s hs, rb_ok, are_data_ok d hx, rb_ok]
  cases q : dataB d
  · rw [q] at j
    have j : decide (Has h d) = false := by rw [← j]; rfl
    have : ¬ Has h d := by simpa using j
    rw [if_neg (by decide), decide_eq_false fun z => this z.1]
  · rw [q] at j
    rw [if_pos rfl, do_have_ok g d hx, rb_ok]
    have j : (decide ((d.length : Int) = h.2.sum) && decide (cnts h.1 d = h.2)) = decide (Has h d) := by rw [← j]; rfl
    rw [j]
    by_cases c : Has h d
    · rw [if_pos (by simpa using c), do_hold_ok s hs d c.len hx, rb_ok]
      congr 1
      by_cases k : s.lo ≤ s.num d ∧ s.num d ≤ s.hi
      · rw [decide_eq_true k, decide_eq_false fun z => z.2 k]; rfl
      · rw [decide_eq_false k, decide_eq_true ⟨c, k⟩]; rfl
    · rw [if_neg (by simpa using c), decide_eq_false fun z => c z.1]
theorem counter_d {h : Hst} (g : GH h) (s : Sm) (hs : s.ok h.2.sum) {d : D} (hd : are_data_d d = .ok false) : are_counter_data_h_w_d h s.w d = .ok false := by
  unfold are_counter_data_h_w_d
  rw [check_statement_ok g s hs, rb_ok, hd, rb_ok]; rfl
/-- a drawn statement -/
theorem lstatement_ok (ns : List Int) (hn : ns.length ≤ 63) (pl many : Int) (h0 : 0 ≤ pl) (h1 : pl ≤ 5000) (m0 : 0 ≤ many) (m1 : many ≤ 100) : ∃ s : Sm, lstatement_z_i_i ns pl many = .ok s.w ∧ s.ok many ∧ 0 ≤ s.lo ∧ s.lo ≤ s.hi := by
  unfold lstatement_z_i_i
  obtain ⟨k, hk, k1, k2⟩ := pick_ok ns hn pl 3 (by omega) (by omega) (by omega)
  obtain ⟨a, ha, a1, a2⟩ := pick_ok ns hn (pl + 1) 40 (by omega) (by omega) (by omega)
  obtain ⟨b, hb, b1, b2⟩ := pick_ok ns hn (pl + 2) 30 (by omega) (by omega) (by omega)
  rw [hk, rb_ok, ha, rb_ok, hb, rb_ok, rb_ok]
  by_cases c : k = 0 ∧ 0 < many
  · obtain ⟨r, hr, r1, r2⟩ := pick_ok ns hn (pl + 3) many (by omega) (by omega) c.2
    rw [if_pos (by simpa using c), hr, rb_ok, rb_ok]
    exact ⟨.rank (1 + r) a (a + b), rfl, ⟨by omega, by omega, by omega⟩, a1, by show a ≤ a + b; omega⟩
  · rw [if_neg (by simpa using c)]
    by_cases c2 : k = 1
    · obtain ⟨l, hl, l1, l2⟩ := pick_ok ns hn (pl + 4) (many + 1) (by omega) (by omega) (by omega)
      obtain ⟨v, hv, v1, v2⟩ := pick_ok ns hn (pl + 5) 50 (by omega) (by omega) (by omega)
      obtain ⟨u, hu, u1, u2⟩ := pick_ok ns hn (pl + 6) 6 (by omega) (by omega) (by omega)
      rw [if_pos (by simpa using c2), hl, rb_ok, hv, rb_ok, hu, rb_ok, rb_ok]
      exact ⟨.less v l (l + u), rfl, ⟨by omega, by omega, by omega⟩, l1, by show l ≤ l + u; omega⟩
    · obtain ⟨l, hl, l1, l2⟩ := pick_ok ns hn (pl + 7) 60 (by omega) (by omega) (by omega)
      obtain ⟨u, hu, u1, u2⟩ := pick_ok ns hn (pl + 8) 5 (by omega) (by omega) (by omega)
      rw [if_neg (by simpa using c2), hl, rb_ok, hu, rb_ok, mulT_l (by omega) (by omega), rb_ok]
      have : 0 ≤ l * u := Int.mul_nonneg l1 u1
      exact ⟨.sum (l * u) (l * u + b * 10), rfl, ⟨this, by omega⟩, this, by show l * u ≤ l * u + b * 10; omega⟩
end Y
-- LF
set_option Elab.async false
set_option linter.all false
set_option maxRecDepth 100000
set_option maxHeartbeats 4000000
/-! two histograms of the same data -/
namespace Y
open PL
theorem Bks.full : ∀ {bs xs : List Int}, Inc bs → bs ≠ [] → Asc xs → (∀ x ∈ xs, ∃ a ∈ bs, a ≤ x) → (∀ x ∈ xs, ∃ a ∈ bs, x < a) → Bks bs (Y.cnts bs xs) xs
  | [], _, _, h, _, _, _ => absurd rfl h
  | [b], xs, _, _, _, h1, h2 => by
    have : xs = [] := by
      cases xs with
      | nil => rfl
      | cons x xs =>
        obtain ⟨a, ha, ha2⟩ := h1 x (List.mem_cons_self ..)
        obtain ⟨c, hc, hc2⟩ := h2 x (List.mem_cons_self ..)
        have := List.mem_singleton.mp ha
        have := List.mem_singleton.mp hc
        omega
    subst this
    exact .nil b
  | b :: b' :: r, xs, hi, _, ha, k1, k2 => by
    obtain ⟨h1, h2⟩ := List.pairwise_cons.mp hi
    have sp := asc_split (b := b') ha
    have hys : ∀ y ∈ xs.filter (fun x => decide (x < b')), y < b' := fun y hy => by simpa using (List.mem_filter.mp hy).2
    have hzs : ∀ y ∈ xs.filter (fun x => decide (b' ≤ x)), b' ≤ y := fun y hy => by simpa using (List.mem_filter.mp hy).2
    have az : Asc (xs.filter fun x => decide (b' ≤ x)) := ha.filter _
    generalize xs.filter (fun x => decide (x < b')) = ys at sp hys
    generalize xs.filter (fun x => decide (b' ≤ x)) = zs at sp hzs az
    subst sp
    have hb : ∀ y ∈ ys, b ≤ y := fun y hy => by
      obtain ⟨a, m, z⟩ := k1 y (List.mem_append_left _ hy)
      rcases List.mem_cons.mp m with rfl | m
      · exact z
      · have := h1 a m
        omega
    rw [cnts_cons, List.filter_append, filter_none (xs := zs) (fun z hz => by
      have := hzs z hz
      unfold inb
      rw [decide_eq_false (show ¬ z < b' by omega), Bool.and_false]), List.append_nil, cnts_skip h2 hys, filter_all (xs := ys) (fun y hy => by
      unfold inb
      rw [decide_eq_true (hb y hy), decide_eq_true (hys y hy)]; rfl)]
    refine .cons rfl (fun y hy => ⟨hb y hy, hys y hy⟩) (Bks.full h2 (by simp) az (fun x hx => ⟨b', List.mem_cons_self .., hzs x hx⟩) fun x hx => ?_)
    obtain ⟨a, m, z⟩ := k2 x (List.mem_append_right _ hx)
    rcases List.mem_cons.mp m with rfl | m
    · have := h1 b' (List.mem_cons_self ..)
      have := hzs x hx
      omega
    · exact ⟨a, m, z⟩
theorem less_app (v : Int) (xs ys : List Int) : less v (xs ++ ys) = less v xs + less v ys := by
  unfold less
  rw [List.filter_append, List.length_append]
  omega
theorem less_all {v : Int} {xs : List Int} (h : ∀ x ∈ xs, x < v) : less v xs = xs.length := by
  unfold less
  rw [filter_all fun x hx => decide_eq_true (h x hx)]
theorem less_none {v : Int} {xs : List Int} (h : ∀ x ∈ xs, v ≤ x) : less v xs = 0 := by
  unfold less
  rw [filter_none fun x hx => decide_eq_false (by have := h x hx; omega)]; rfl
theorem less_nn (v : Int) (xs : List Int) : 0 ≤ less v xs := Int.natCast_nonneg _
theorem less_mono {v w : Int} (h : v ≤ w) : ∀ xs : List Int, less v xs ≤ less w xs
  | [] => Int.le_refl _
  | x :: xs => by
    have := less_mono h xs
    rw [less_cons, less_cons]
    split <;> split <;> omega
theorem Bks.less_eq {bs cs xs : List Int} (h : Bks bs cs xs) : ∀ {ys : List Int}, Inc bs → Bks bs cs ys → ∀ v ∈ bs, less v xs = less v ys := by
  induction h with
  | nil b => intro ys hi h2 v hv; cases h2; rfl
  | @cons b b' r cs c y1 z1 hc hy h ih =>
    intro ys hi h2 v hv
    obtain ⟨i1, i2⟩ := List.pairwise_cons.mp hi
    have ib := i1 b' (List.mem_cons_self ..)
    cases h2 with
    | @cons _ _ _ _ _ y2 z2 hc2 hy2 h2 =>
      rw [less_app, less_app]
      rcases List.mem_cons.mp hv with e | hv
      · subst e
        rw [less_none fun x hx => (hy x hx).1, less_none fun x hx => (hy2 x hx).1, less_none (xs := z1) fun x hx => by have := h.ge i2 x hx b' rfl; omega, less_none (xs := z2) fun x hx => by have := h2.ge i2 x hx b' rfl; omega]
      · have hb : b' ≤ v := by
          rcases List.mem_cons.mp hv with rfl | m
          · exact Int.le_refl _
          · exact Int.le_of_lt ((List.pairwise_cons.mp i2).1 v m)
        rw [ih i2 h2 v hv, less_all (xs := y1) fun x hx => by have := (hy x hx).2; omega, less_all (xs := y2) fun x hx => by have := (hy2 x hx).2; omega, hc, hc2]
theorem asc_less : ∀ {xs : List Int}, Asc xs → ∀ (v : Int) (j : Nat) (hj : j < xs.length), xs[j] < v ↔ (j : Int) < less v xs
  | [], _, v, j, hj => absurd hj (by simp)
  | x :: xs, h, v, 0, _ => by
    obtain ⟨h1, h2⟩ := List.pairwise_cons.mp h
    have n0 := less_nn v xs
    rw [less_cons, List.getElem_cons_zero]
    by_cases z : x < v
    · rw [if_pos z]; omega
    · rw [if_neg z, less_none fun y hy => by have := h1 y hy; omega]; omega
  | x :: xs, h, v, j + 1, hj => by
    obtain ⟨h1, h2⟩ := List.pairwise_cons.mp h
    have ih := asc_less h2 v j (by simpa using hj)
    rw [less_cons, List.getElem_cons_succ, ih]
    by_cases z : x < v
    · rw [if_pos z]; omega
    · rw [if_neg z, less_none fun y hy => by have := h1 y hy; omega]; omega
section
variable {h t : Hst} (g : GH h) (gt : GH t)
theorem known_at {d : List Int} (hd : Has h d) {b : Int} (hb : b ∈ h.1) (g : GH h) : less b (high h) = less b d ∧ less b (low h) = less b d :=
  ⟨(has_high g).b.less_eq g.inc hd.b b hb, (has_low g).b.less_eq g.inc hd.b b hb⟩
theorem rk_low (g : GH h) {d : List Int} (hd : Has h d) {r : Int} (h1 : 1 ≤ r) (h2 : r ≤ h.2.sum) : (rkb h r).1 ∈ h.1 ∧ ∀ b ∈ h.1, (less b d < r ↔ b ≤ (rkb h r).1) := by
  have ll := low_len g
  have hl : (r - 1).toNat < (low h).length := by omega
  have e : (rkb h r).1 = (low h)[(r - 1).toNat] := gd hl
  rw [e]
  refine ⟨fill_mem (List.getElem_mem hl), fun b hb => ?_⟩
  have := asc_less (low_asc g) b _ hl
  rw [(known_at hd hb g).2] at this
  omega
theorem rk_high (g : GH h) {d : List Int} (hd : Has h d) {r : Int} (h1 : 1 ≤ r) (h2 : r ≤ h.2.sum) : (rkb h r).2 + 1 ∈ h.1 ∧ ∀ b ∈ h.1, (r ≤ less b d ↔ (rkb h r).2 + 1 ≤ b) := by
  have ll := high_len g
  have hl : (r - 1).toNat < (high h).length := by omega
  have e : (rkb h r).2 = (high h)[(r - 1).toNat] := gd hl
  rw [e]
  constructor
  · obtain ⟨b, hb, e2⟩ := List.mem_map.mp (fill_mem (List.getElem_mem hl))
    have : (high h)[(r - 1).toNat] + 1 = b := by omega
    rw [this]
    exact List.mem_of_mem_tail hb
  · intro b hb
    have := asc_less (high_asc g) b _ hl
    rw [(known_at hd hb g).1] at this
    omega
theorem rng_bd {d : List Int} (hd : Has h d) (v : Int) : (rng h v).1 ≤ less v d ∧ less v d ≤ (rng h v).2 := ⟨hd.hi.less v, hd.lo.less v⟩
theorem known_loop (g : GH h) (gt : GH t) {d : List Int} (hd : Has h d) (ht : Has t d) : ∀ (vs : List Int) (s : List (Int × Int)), (∀ v ∈ vs, v ∈ h.1 ∨ v ∈ t.1) → s.length + vs.length ≤ 1000 → forT (ρ := List (Int × Int)) (fun (s2 : List (Int × Int)) (value3 : Int) =>
  ((find_range_h_i h value3).rb fun x5 => (find_range_h_i t value3).rb fun x6 => Res.ok (x5, x6) : Res ((Int × Int) × (Int × Int))).rb fun p4 =>
  if ((decide (p4.1.1 = p4.1.2)) || (decide (p4.2.1 = p4.2.2))) = true then
  (Res.ok (value3, (if (decide (p4.1.1 = p4.1.2)) = true then p4.1.1 else p4.2.1))).rb fun x8 => (pushT s2 x8).rb fun found7 =>
  Res.ok (.nx (found7))
  else
  Res.ok (.nx (s2))) vs s = .ok (.nx (s ++ vs.map fun v => (v, less v d)))
  | [], s, _, _ => by rw [List.map_nil, List.append_nil]; rfl
  | v :: vs, s, hv, hl => by
    rw [List.length_cons] at hl
    have m := hv v (List.mem_cons_self ..)
    have b1 := rng_bd hd v
    have b2 := rng_bd ht v
    have c : (rng h v).1 = (rng h v).2 ∨ (rng t v).1 = (rng t v).2 := by
      rcases m with m | m
      · obtain ⟨e1, e2⟩ := known_at hd m g
        exact .inl (e1.trans e2.symm)
      · obtain ⟨e1, e2⟩ := known_at ht m gt
        exact .inr (e1.trans e2.symm)
    rw [forT_cons (s' := s ++ [(v, less v d)])]
    · rw [known_loop g gt hd ht vs _ (fun w hw => hv w (List.mem_cons_of_mem _ hw)) (by rw [List.length_append, List.length_singleton]; omega), List.append_assoc]; rfl
    · rw [find_range_ok g, rb_ok, find_range_ok gt, rb_ok, rb_ok, if_pos (by simpa using c), rb_ok]
      have e : (if decide ((rng h v).1 = (rng h v).2) = true then (rng h v).1 else (rng t v).1) = less v d := by
        by_cases q : (rng h v).1 = (rng h v).2
        · rw [if_pos (by simpa using q)]; omega
        · rw [if_neg (by simpa using q)]; omega
      rw [e, pushT_ok (by omega), rb_ok]
theorem known_ok (g : GH h) (gt : GH t) {d : List Int} (hd : Has h d) (ht : Has t d) : known_ranks_h_h h t = .ok ((asct (h.1 ++ t.1)).map fun v => (v, less v d)) := by
  have l1 := g.n12
  have l2 := gt.n12
  have l3 := asct_len (h.1 ++ t.1)
  rw [List.length_append] at l3
  unfold known_ranks_h_h
  rw [appT_ok (by omega), rb_ok, ssT_ok (by rw [List.length_append]; omega), rb_ok, known_loop g gt hd ht _ _ (fun v hv => List.mem_append.mp (mem_asct.mp hv)) (by simp; omega), rb_ok, after_nx, List.nil_append]
theorem mem_known {d : List Int} {B : List Int} {p : Int × Int → Bool} {x : Int} : x ∈ (((B.map fun v => (v, less v d)).filter p).map fun q => q.1) ↔ x ∈ B ∧ p (x, less x d) = true := by
  constructor
  · intro hx
    obtain ⟨q, hq, rfl⟩ := List.mem_map.mp hx
    obtain ⟨h1, h2⟩ := List.mem_filter.mp hq
    obtain ⟨v, hv, rfl⟩ := List.mem_map.mp h1
    exact ⟨hv, h2⟩
  · intro ⟨h1, h2⟩
    exact List.mem_map.mpr ⟨(x, less x d), List.mem_filter.mpr ⟨List.mem_map.mpr ⟨x, h1, rfl⟩, h2⟩, rfl⟩
theorem common_ok (g : GH h) (gt : GH t) {d : List Int} (hd : Has h d) (ht : Has t d) {r : Int} (h1 : 1 ≤ r) (h2 : r ≤ h.2.sum) (h3 : r ≤ t.2.sum) : find_common_bounds_h_h_i h t r = .ok (max2 (rkb h r).1 (rkb t r).1, min2 (rkb h r).2 (rkb t r).2) := by
  have l1 := g.n12
  have l2 := gt.n12
  have l3 := asct_len (h.1 ++ t.1)
  rw [List.length_append] at l3
  obtain ⟨a1, a2⟩ := rk_low g hd h1 h2
  obtain ⟨b1, b2⟩ := rk_low gt ht h1 h3
  obtain ⟨c1, c2⟩ := rk_high g hd h1 h2
  obtain ⟨d1, d2⟩ := rk_high gt ht h1 h3
  unfold find_common_bounds_h_h_i
  have lf : ∀ p : Int × Int → Bool, ((((asct (h.1 ++ t.1)).map fun v => (v, less v d)).filter p).map fun q => q.1).length ≤ 1000000 := fun p => by
    rw [List.length_map]
    refine Nat.le_trans (List.length_filter_le _ _) ?_
    rw [List.length_map]; omega
  rw [known_ok g gt hd ht, rb_ok]
  have e1 : (((Res.ok ((asct (h.1 ++ t.1)).map fun v => (v, less v d))).rb fun w3 => lenT ((w3.filter (fun p2 : Int × Int => (decide (p2.2 < r)))).map (fun p2 : Int × Int => p2.1))).rb fun x4 => maxT x4) = .ok (max2 (rkb h r).1 (rkb t r).1) := by
    rw [rb_ok, lenT_ok (lf _), rb_ok]
    apply maxT_eq
    · rw [mem_known, mem_asct, List.mem_append]
      unfold max2
      split
      · exact ⟨.inr b1, decide_eq_true ((b2 _ b1).mpr (Int.le_refl _))⟩
      · exact ⟨.inl a1, decide_eq_true ((a2 _ a1).mpr (Int.le_refl _))⟩
    · intro x hx
      rw [mem_known, mem_asct, List.mem_append] at hx
      obtain ⟨m, q⟩ := hx
      have q := of_decide_eq_true q
      unfold max2
      rcases m with m | m
      · have := (a2 x m).mp q
        split <;> omega
      · have := (b2 x m).mp q
        split <;> omega
  have e2 : (((Res.ok ((asct (h.1 ++ t.1)).map fun v => (v, less v d))).rb fun w7 => lenT ((w7.filter (fun p6 : Int × Int => (decide (r ≤ p6.2)))).map (fun p6 : Int × Int => p6.1))).rb fun x8 => minT x8) = .ok (min2 (rkb h r).2 (rkb t r).2 + 1) := by
    rw [rb_ok, lenT_ok (lf _), rb_ok]
    apply minT_eq
    · rw [mem_known, mem_asct, List.mem_append]
      unfold min2
      split
      · exact ⟨.inr d1, decide_eq_true ((d2 _ d1).mpr (Int.le_refl _))⟩
      · exact ⟨.inl c1, decide_eq_true ((c2 _ c1).mpr (Int.le_refl _))⟩
    · intro x hx
      rw [mem_known, mem_asct, List.mem_append] at hx
      obtain ⟨m, q⟩ := hx
      have q := of_decide_eq_true q
      unfold min2
      rcases m with m | m
      · have := (c2 x m).mp q
        split <;> omega
      · have := (d2 x m).mp q
        split <;> omega
  rw [e1, rb_ok, e2, rb_ok, rb_ok]
  congr 2
  omega
/-- a conflict at a value -/
def cfB (h t : Hst) (v : Int) : Bool := decide ((rng h v).2 < (rng t v).1) || decide ((rng t v).2 < (rng h v).1)
theorem cf_ok (g : GH h) (gt : GH t) (v : Int) : is_conflict_h_h_i h t v = .ok (cfB h t v) := by
  unfold is_conflict_h_h_i
  rw [find_range_ok g, rb_ok, find_range_ok gt, rb_ok, rb_ok]; rfl
theorem cf_no {d : List Int} (hd : Has h d) (ht : Has t d) (v : Int) : cfB h t v = false := by
  have := rng_bd hd v
  have := rng_bd ht v
  unfold cfB
  rw [decide_eq_false (by omega), decide_eq_false (by omega)]; rfl
theorem compat_ok (g : GH h) (gt : GH t) (e : h.2.sum = t.2.sum) : are_compatible_h_h h t = .ok (!((h.1 ++ t.1).any (cfB h t))) := by
  have l1 := g.n12
  have l2 := gt.n12
  unfold are_compatible_h_h
  rw [size_ok, rb_ok, size_ok, rb_ok, rb_ok, if_neg (by simp [e]), appT_ok (by omega), rb_ok, mapR_ok (g := cfB h t) fun v _ => cf_ok g gt v, rb_ok, lenT_ok (by rw [List.length_map, List.length_append]; omega), rb_ok, rb_ok, any_map]
theorem two_chk (g : GH h) (gt : GH t) : check_two_h_h h t = .ok () := by
  unfold check_two_h_h
  rw [g.chk, rb_ok, gt.chk, rb_ok]
theorem same_ok (g : GH h) (gt : GH t) (e : h.2.sum = t.2.sum) : can_be_same_h_h h t = .ok (!((h.1 ++ t.1).any (cfB h t))) := by
  unfold can_be_same_h_h
  rw [two_chk g gt, rb_ok, compat_ok g gt e]
theorem compat_true (g : GH h) (gt : GH t) {d : List Int} (hd : Has h d) (ht : Has t d) : are_compatible_h_h h t = .ok true := by
  rw [compat_ok g gt (hd.len.symm.trans ht.len), List.any_eq_false.mpr fun v _ => by rw [cf_no hd ht]; decide]; rfl
theorem first_ok (l : List Int) : (if (!decide (l = [])) = true then (atT l 0).rb fun x => Res.ok (some x) else Res.ok none) = .ok l.head? := by
  cases l with
  | nil => rfl
  | cons a l => rw [if_pos (by simp), show atT (a :: l) 0 = .ok a from atT_nat (i := 0) (by simp), rb_ok]; rfl
theorem fm_filter (p : Int → Bool) : ∀ l : List Int, (l.filterMap fun v => if p v = true then some v else none) = l.filter p
  | [] => rfl
  | x :: l => by
    rw [List.filterMap_cons, List.filter_cons, fm_filter p l]
    cases p x <;> rfl
theorem conflict_ok (g : GH h) (gt : GH t) (e : h.2.sum = t.2.sum) : conflict_h_h h t = .ok ((rangeI 0 1001).filter (cfB h t)).head? := by
  unfold conflict_h_h
  rw [two_chk g gt, rb_ok, size_ok, rb_ok, size_ok, rb_ok, rb_ok, if_neg (by simp [e])]
  unfold find_conflict_h_h
  rw [rb_ok, show ((1000 : Int) + 1) = 1001 from rfl, rngT_ok (by omega) (by omega) (by omega) (by omega), rb_ok, cmpR_ok (g := fun v => if cfB h t v = true then some v else none) fun v _ => by
    rw [cf_ok g gt, rb_ok]
    cases cfB h t v <;> rfl, rb_ok, fm_filter, lenT_ok, rb_ok, first_ok]
  have := List.length_filter_le (cfB h t) (rangeI 0 1001)
  rw [rangeI_len] at this
  omega
/-- a conflict anywhere is a conflict at a border -/
theorem cf_border1 (gt : GH t) {v : Int} (c : (rng h v).2 < (rng t v).1) : ∃ u ∈ t.1, (rng h u).2 < (rng t u).1 := by
  have n0 : 0 ≤ (rng h v).2 := less_nn _ _
  have hl : less v (high t) ≤ (high t).length := by
    have : ((high t).filter fun x => decide (x < v)).length ≤ (high t).length := List.length_filter_le _ _
    unfold less; omega
  obtain ⟨r, hr⟩ : ∃ r : Nat, less v (high t) = (r : Int) + 1 := ⟨(less v (high t) - 1).toNat, by
    have : (rng t v).1 = less v (high t) := rfl
    omega⟩
  have hj : r < (high t).length := by omega
  have a := (asc_less (high_asc gt) v r hj).mpr (by omega)
  obtain ⟨u, hu, e2⟩ := List.mem_map.mp (fill_mem (List.getElem_mem hj))
  have e2 : u - 1 = (high t)[r] := e2
  have b := (asc_less (high_asc gt) u r hj).mp (by omega)
  refine ⟨u, List.mem_of_mem_tail hu, ?_⟩
  have m : (rng h u).2 ≤ (rng h v).2 := less_mono (by omega) _
  show (rng h u).2 < less u (high t)
  have : (rng t v).1 = less v (high t) := rfl
  omega
theorem cf_border (g : GH h) (gt : GH t) {v : Int} (c : cfB h t v = true) : (h.1 ++ t.1).any (cfB h t) = true := by
  rw [List.any_eq_true]
  unfold cfB at c
  rcases (Bool.or_eq_true ..).mp c with c | c
  · obtain ⟨u, hu, k⟩ := cf_border1 (h := h) gt (of_decide_eq_true c)
    refine ⟨u, List.mem_append_right _ hu, ?_⟩
    unfold cfB
    rw [decide_eq_true k]; rfl
  · obtain ⟨u, hu, k⟩ := cf_border1 (h := t) g (of_decide_eq_true c)
    refine ⟨u, List.mem_append_left _ hu, ?_⟩
    unfold cfB
    rw [decide_eq_true k, Bool.or_true]
theorem cf_iff (g : GH h) (gt : GH t) : (!((h.1 ++ t.1).any (cfB h t))) = decide ((rangeI 0 1001).filter (cfB h t) = []) := by
  cases q : (h.1 ++ t.1).any (cfB h t)
  · rw [decide_eq_true]; · rfl
    refine filter_none fun v _ => ?_
    cases z : cfB h t v
    · rfl
    · rw [cf_border g gt z] at q; cases q
  · rw [decide_eq_false]; · rfl
    intro z
    obtain ⟨v, hv, k⟩ := List.any_eq_true.mp q
    have : 0 ≤ v ∧ v ≤ 1000 := by
      rcases List.mem_append.mp hv with hv | hv
      · exact g.rg v hv
      · exact gt.rg v hv
    have m : v ∈ (rangeI 0 1001).filter (cfB h t) := List.mem_filter.mpr ⟨mem_rangeI.mpr ⟨by omega, by omega⟩, k⟩
    rw [z] at m
    cases m
open Classical in
theorem are_common_ok (g : GH h) (gt : GH t) (xs : List Int) (hx : xs.length ≤ 100000) : are_common_data_h_h_li h t xs = .ok (decide (Has h xs ∧ Has t xs)) := by
  unfold are_common_data_h_h_li
  rw [two_chk g gt, rb_ok, are_data_ok xs hx, rb_ok, do_have_ok g xs hx, do_have_ok gt xs hx]
  have j1 := judged g xs hx
  have j2 := judged gt xs hx
  have e : decide (Has h xs ∧ Has t xs) = (decide (Has h xs) && decide (Has t xs)) := by
    by_cases q1 : Has h xs <;> by_cases q2 : Has t xs <;> simp [q1, q2]
  rw [e, ← j1, ← j2]
  generalize (decide ((xs.length : Int) = h.2.sum) && decide (cnts h.1 xs = h.2)) = b1
  generalize (decide ((xs.length : Int) = t.2.sum) && decide (cnts t.1 xs = t.2)) = b2
  generalize dataB xs = b3
  cases b1 <;> cases b2 <;> cases b3 <;> rfl
theorem lranges_ok (g : GH h) (v : Int) : lranges_h_i h v = .ok (rng h v) := by
  unfold lranges_h_i
  have := Has.low_s g
  have := Has.high_s g
  rw [lends_ok g, rb_ok, lless_ok (high h) _ (by omega), rb_ok, lless_ok (low h) _ (by omega), rb_ok]; rfl
theorem common_rank_ok (g : GH h) (gt : GH t) {d : List Int} (hd : Has h d) (ht : Has t d) {r : Int} (h1 : 1 ≤ r) (h2 : r ≤ h.2.sum) (h3 : r ≤ t.2.sum) : common_rank_bounds_h_h_i h t r = .ok (max2 (rkb h r).1 (rkb t r).1, min2 (rkb h r).2 (rkb t r).2) := by
  unfold common_rank_bounds_h_h_i
  rw [two_chk g gt, rb_ok, compat_true g gt hd ht, rb_ok, rb_ok, if_neg (by decide), check_rank_ok h1 h2, rb_ok, common_ok g gt hd ht h1 h2 h3]
theorem common_data_ok (g : GH h) (gt : GH t) {d : List Int} (hd : Has h d) (ht : Has t d) : ∃ F, common_data_h_h h t = .ok (some F) ∧ Has h F ∧ Has t F := by
  have e1 := hd.len
  have e2 := ht.len
  have l1 := low_len g
  have l2 := low_len gt
  have k1 := high_len g
  have k2 := high_len gt
  have dz := hd.small g
  refine ⟨(rangeI 1 (h.2.sum + 1)).map fun r => max2 (rkb h r).1 (rkb t r).1, ?_, ?_⟩
  · unfold common_data_h_h
    rw [two_chk g gt, rb_ok]
    unfold find_common_h_h
    rw [compat_true g gt hd ht, rb_ok, rb_ok, if_neg (by decide), rb_ok, size_ok, rb_ok, rb_ok, rngT_ok (by omega) (by omega) (by omega) (by omega), rb_ok, mapR_ok (g := fun r => max2 (rkb h r).1 (rkb t r).1) fun r hr => by
      have hr := mem_rangeI.mp hr
      rw [common_ok g gt hd ht hr.1 (by omega) (by omega), rb_ok], rb_ok, lenT_ok (by rw [List.length_map, rangeI_len]; omega), rb_ok]
  · have hlen : ((rangeI 1 (h.2.sum + 1)).map fun r => max2 (rkb h r).1 (rkb t r).1).length = d.length := by rw [List.length_map, rangeI_len]; omega
    have hget : ∀ (i : Nat) (hi : i < ((rangeI 1 (h.2.sum + 1)).map fun r => max2 (rkb h r).1 (rkb t r).1).length) (a1 : i < (low h).length) (a2 : i < (low t).length), ((rangeI 1 (h.2.sum + 1)).map fun r => max2 (rkb h r).1 (rkb t r).1)[i] = max2 (low h)[i] (low t)[i] := fun i hi a1 a2 => by
      rw [List.getElem_map, rangeI_get]
      have : ((1 + (i : Int)) - 1).toNat = i := by omega
      unfold rkb
      rw [this, gd a1, gd a2]
    generalize ((rangeI 1 (h.2.sum + 1)).map fun r => max2 (rkb h r).1 (rkb t r).1) = F at hlen hget
    have asc : Asc F := by
      refine List.pairwise_iff_getElem.mpr fun i j hi hj hij => ?_
      have q1 := List.pairwise_iff_getElem.mp (low_asc g) i j (by omega) (by omega) hij
      have q2 := List.pairwise_iff_getElem.mp (low_asc gt) i j (by omega) (by omega) hij
      rw [hget i hi (by omega) (by omega), hget j hj (by omega) (by omega)]
      unfold max2
      split <;> split <;> omega
    constructor
    · refine ⟨asc, Bks.between g.inc g.len g.c0 (PLe.of (by show (low h).length = _; omega) fun i h1 h2 => ?_) (PLe.of (by show _ = (high h).length; omega) fun i h1 h2 => ?_)⟩
      · rw [hget i h2 (by omega) (by omega)]
        show (low h)[i]'h1 ≤ _
        unfold max2; split <;> omega
      · rw [hget i h1 (by omega) (by omega)]
        show _ ≤ (high h)[i]'h2
        have z1 := hd.lo.get i (by omega) (by omega)
        have z2 := hd.hi.get i (by omega) h2
        have z3 := ht.lo.get i (by omega) (by omega)
        unfold max2; split <;> omega
    · refine ⟨asc, Bks.between gt.inc gt.len gt.c0 (PLe.of (by show (low t).length = _; omega) fun i h1 h2 => ?_) (PLe.of (by show _ = (high t).length; omega) fun i h1 h2 => ?_)⟩
      · rw [hget i h2 (by omega) (by omega)]
        show (low t)[i]'h1 ≤ _
        unfold max2; split <;> omega
      · rw [hget i h1 (by omega) (by omega)]
        show _ ≤ (high t)[i]'h2
        have z1 := hd.lo.get i (by omega) (by omega)
        have z2 := ht.hi.get i (by omega) h2
        have z3 := ht.lo.get i (by omega) (by omega)
        unfold max2; split <;> omega
end
end Y
-- LG
set_option Elab.async false
set_option linter.all false
set_option maxRecDepth 100000
set_option maxHeartbeats 4000000
/-! coarser borders, merged counts -/
namespace Y
open PL
theorem cut_m1 {xs : List α} (h : xs ≠ []) : cut xs (some (-1)) none = [xs.getLast h] := by
  have hl : 0 < xs.length := List.length_pos_iff.mpr h
  unfold cut
  show (xs.drop (if (-1 : Int) < 0 then ((-1 : Int) + (xs.length : Int)).toNat else min (-1 : Int).toNat xs.length)).take (xs.length - (if (-1 : Int) < 0 then ((-1 : Int) + (xs.length : Int)).toNat else min (-1 : Int).toNat xs.length)) = _
  rw [if_pos (by decide)]
  have e : ((-1 : Int) + (xs.length : Int)).toNat = xs.length - 1 := by omega
  rw [e, List.take_of_length_le (by rw [List.length_drop]; exact Nat.le_refl _), List.drop_eq_getElem_cons (by omega), List.drop_eq_nil_of_le (by omega), List.getLast_eq_getElem]
theorem cut_1m1 (xs : List α) : cut xs (some 1) (some (-1)) = xs.tail.dropLast := by
  unfold cut
  show (xs.drop (HT.sIx xs.length 0 (some ((1 : Nat) : Int)))).take ((if (-1 : Int) < 0 then ((-1 : Int) + (xs.length : Int)).toNat else min (-1 : Int).toNat xs.length) - HT.sIx xs.length 0 (some ((1 : Nat) : Int))) = _
  rw [HT.sIx_nat, if_pos (by decide), List.dropLast_eq_take, List.length_tail]
  cases xs with
  | nil => rfl
  | cons a l =>
    have e1 : min 1 (a :: l).length = 1 := by rw [List.length_cons]; omega
    have e2 : ((-1 : Int) + ((a :: l).length : Int)).toNat - 1 = (a :: l).length - 1 - 1 := by rw [List.length_cons]; omega
    rw [e1, e2]; rfl
theorem cut_n1 {a : α} {l : List α} : cut (a :: l) none (some 1) = [a] := by
  have := cut_hi (a :: l) (k := 1)
  exact this
/-- borders: first, inner ones, last -/
theorem split3 {bs : List Int} (h : 2 ≤ bs.length) : ∃ a mid z, bs = a :: (mid ++ [z]) := by
  cases bs with
  | nil => simp at h
  | cons a l =>
    have hl : l ≠ [] := fun z => by rw [z] at h; simp at h
    exact ⟨a, l.dropLast, l.getLast hl, by rw [List.dropLast_concat_getLast]⟩
theorem getLast_3 {a z : Int} {mid : List Int} (h : a :: (mid ++ [z]) ≠ []) : (a :: (mid ++ [z])).getLast h = z := by
  rw [List.getLast_cons (by simp), List.getLast_append_of_ne_nil _ (by simp), List.getLast_singleton]
theorem are_coarser_ok {xs ys : List Int} (h1 : xs ≠ []) (h2 : ys ≠ []) (hl : xs.length ≤ 1000) : are_coarser_ti_ti xs ys = .ok (decide (xs.head h1 = ys.head h2) && (decide (xs.getLast h1 = ys.getLast h2) && xs.all fun b => decide (b ∈ ys))) := by
  have a1 : atT xs 0 = .ok (xs.head h1) := by
    cases xs with
    | nil => exact absurd rfl h1
    | cons a l => exact atT_nat (i := 0) (by simp)
  have a2 : atT ys 0 = .ok (ys.head h2) := by
    cases ys with
    | nil => exact absurd rfl h2
    | cons a l => exact atT_nat (i := 0) (by simp)
  unfold are_coarser_ti_ti
  rw [a1, rb_ok, a2, rb_ok, rb_ok]
  by_cases c : xs.head h1 = ys.head h2
  · rw [if_pos (decide_eq_true c), atT_last h1, rb_ok, atT_last h2, rb_ok, rb_ok, decide_eq_true c]
    by_cases c2 : xs.getLast h1 = ys.getLast h2
    · rw [if_pos (decide_eq_true c2), rb_ok, lenT_ok (by rw [List.length_map]; omega), rb_ok, all_map, decide_eq_true c2]; rfl
    · rw [if_neg (by simpa using c2), decide_eq_false c2]; rfl
  · rw [if_neg (by simpa using c), decide_eq_false c]; rfl
theorem is_coarser_ok {xs ys : List Int} (g1 : GB xs) (g2 : GB ys) (h1 : xs ≠ []) (h2 : ys ≠ []) : is_coarser_ti_ti xs ys = .ok (decide (xs.head h1 = ys.head h2) && (decide (xs.getLast h1 = ys.getLast h2) && xs.all fun b => decide (b ∈ ys))) := by
  unfold is_coarser_ti_ti
  rw [g1.chk, rb_ok, g2.chk, rb_ok, are_coarser_ok h1 h2 (by have := g1.n12; omega)]
/-! ### merged counts -/
theorem mrg {f a : Int} {bs cs d : List Int} (h : Bks bs cs d) : Inc bs → ((∀ b ∈ bs, f ≤ b) ∨ f ∈ bs) → ((∀ b ∈ bs, a ≤ b) ∨ a ∈ bs) → (((bs.zip cs).filter fun p => decide (f ≤ p.1) && decide (p.1 < a)).map fun p => p.2).sum = (((d.filter (inb f a)).length : Nat) : Int) := by
  induction h with
  | nil b => intro _ _ _; rfl
  | @cons b b' r cs c ys zs hc hy h ih =>
    intro hi hf ha
    obtain ⟨i1, i2⟩ := List.pairwise_cons.mp hi
    have ib := i1 b' (List.mem_cons_self ..)
    have i3 : ∀ x ∈ b' :: r, b' ≤ x := fun x hx => by
      rcases List.mem_cons.mp hx with rfl | m
      · exact Int.le_refl _
      · exact Int.le_of_lt ((List.pairwise_cons.mp i2).1 x m)
    have hf2 : f ≤ b ∨ f ∈ b' :: r := by
      rcases hf with hf | hf
      · exact .inl (hf b (List.mem_cons_self ..))
      · rcases List.mem_cons.mp hf with rfl | m
        · exact .inl (Int.le_refl _)
        · exact .inr m
    have ha2 : a ≤ b ∨ a ∈ b' :: r := by
      rcases ha with ha | ha
      · exact .inl (ha b (List.mem_cons_self ..))
      · rcases List.mem_cons.mp ha with rfl | m
        · exact .inl (Int.le_refl _)
        · exact .inr m
    have ih := ih i2 (hf2.imp (fun z x hx => by have := i1 x hx; omega) id) (ha2.imp (fun z x hx => by have := i1 x hx; omega) id)
    have hyv : ∀ y ∈ ys, inb f a y = inb f a b := fun y hy' => by
      obtain ⟨q1, q2⟩ := hy y hy'
      unfold inb
      have e1 : decide (f ≤ y) = decide (f ≤ b) := decide_eq_decide.mpr (by
        rcases hf2 with z | m
        · omega
        · have := i3 f m
          omega)
      have e2 : decide (y < a) = decide (b < a) := decide_eq_decide.mpr (by
        rcases ha2 with z | m
        · omega
        · have := i3 a m
          omega)
      rw [e1, e2]
    rw [List.zip_cons_cons, List.filter_cons, List.filter_append, List.length_append]
    by_cases q : inb f a b = true
    · rw [if_pos (show (decide (f ≤ b) && decide (b < a)) = true from q), List.map_cons, List.sum_cons, ih, filter_all (xs := ys) fun y hy' => by rw [hyv y hy']; exact q]
      omega
    · rw [if_neg (show ¬ (decide (f ≤ b) && decide (b < a)) = true from q), ih, filter_none (xs := ys) fun y hy' => by rw [hyv y hy']; simpa using q]
      simp
theorem merged_loop {ps : List (Int × Int)} (hp : ps.length ≤ 1000) : ∀ (vs : List (Int × Int)) (s : List Int), s.length + vs.length ≤ 1000 → forT (ρ := (List Int) × (List Int)) (fun (s6 : List Int) (p7 : Int × Int) =>
  (((Res.ok ps).rb fun w9 => lenT ((w9.filter (fun p8 : Int × Int => ((decide (p7.1 ≤ p8.1)) && (decide (p8.1 < p7.2))))).map (fun p8 : Int × Int => p8.2))).rb fun x10 => Res.ok x10.sum).rb fun x12 => (pushT s6 x12).rb fun counts11 =>
  Res.ok (.nx (counts11))) vs s = .ok (.nx (s ++ vs.map fun p7 => ((ps.filter fun p8 => decide (p7.1 ≤ p8.1) && decide (p8.1 < p7.2)).map fun p8 => p8.2).sum))
  | [], s, _ => by rw [List.map_nil, List.append_nil]; rfl
  | v :: vs, s, hl => by
    rw [List.length_cons] at hl
    have hz := List.length_filter_le (fun p8 : Int × Int => decide (v.1 ≤ p8.1) && decide (p8.1 < v.2)) ps
    rw [forT_cons (s' := s ++ [((ps.filter fun p8 => decide (v.1 ≤ p8.1) && decide (p8.1 < v.2)).map fun p8 => p8.2).sum]), merged_loop hp vs _ (by rw [List.length_append, List.length_singleton]; omega), List.append_assoc]
    · rfl
    · rw [rb_ok, lenT_ok (by rw [List.length_map]; omega), rb_ok, rb_ok, pushT_ok (by omega), rb_ok]
theorem merged_ok {h : Hst} (g : GH h) {co : List Int} (gc : GB co) (hs : ∀ b ∈ co, b ∈ h.1) {d : List Int} (hd : Has h d) : merged_h_ti h co = .ok (co, cnts co d) := by
  have l1 := g.n12
  have l2 := g.len
  have l3 := gc.n12
  unfold merged_h_ti
  rw [rb_ok, rb_ok, rb_ok, rgT_ok (by rw [List.length_zip]; omega), rb_ok, rb_ok, rb_ok, rb_ok, cut_1, merged_loop (by rw [List.length_zip]; omega) _ _ (by rw [List.length_zip]; simp; omega), rb_ok, after_nx, List.nil_append]
  congr 2
  unfold cnts
  refine List.map_congr_left fun p hp => ?_
  have m := List.of_mem_zip hp
  exact mrg hd.b g.inc (.inr (hs _ m.1)) (.inr (hs _ (List.mem_of_mem_tail m.2)))
/-- what coarsened gives -/
theorem coarse_ok {h : Hst} (g : GH h) {co : List Int} (gc : GB co) (hs : ∀ b ∈ co, b ∈ h.1) (c1 : are_coarser_ti_ti co h.1 = .ok true) (e1 : ∃ a ∈ co, ∀ b ∈ h.1, a ≤ b) (e2 : ∃ a ∈ co, ∀ b ∈ h.1, b ≤ a) (s60 : h.2.sum ≤ 60) :
    ∃ t, coarsened_h_ti h co = .ok t ∧ GH t ∧ t.2.sum = h.2.sum ∧ ∀ d, Has h d → Has t d := by
  have gl := g.len
  have g2 := g.n2
  have c2 := gc.n2
  have fl : ∀ d, Has h d → Bks co (cnts co d) d := fun d hd => by
    obtain ⟨a, ha, ha2⟩ := e1
    obtain ⟨z, hz, hz2⟩ := e2
    refine Bks.full gc.inc (fun e => by rw [e] at c2; simp at c2) hd.asc (fun x hx => ⟨a, ha, ?_⟩) fun x hx => ⟨z, hz, ?_⟩
    · have h0 : 0 < h.1.length := by omega
      have := hd.b.ge g.inc x hx h.1[0] (by rw [List.head?_eq_getElem?, List.getElem?_eq_getElem h0]; rfl)
      have := ha2 _ (List.getElem_mem h0)
      omega
    · have := hd.b.lt g.inc x hx (h.1.getLast g.ne) (by rw [List.getLast?_eq_some_getLast g.ne]; rfl)
      have := hz2 _ (List.getLast_mem g.ne)
      omega
  have m0 := merged_ok g gc hs (has_low g)
  have all : ∀ d, Has h d → cnts co d = cnts co (low h) := fun d hd => by
    have m1 := merged_ok g gc hs hd
    rw [m0] at m1
    injection m1 with m1
    injection m1 with _ m1
    exact m1.symm
  have ln := low_len g
  have full := (fl _ (has_low g)).len
  have cn : ∀ c ∈ cnts co (low h), 0 ≤ c ∧ c ≤ 60 := fun c hc => by
    refine ⟨cnts_nn _ _ c hc, ?_⟩
    unfold cnts at hc
    obtain ⟨p, _, rfl⟩ := List.mem_map.mp hc
    have : ((low h).filter (inb p.1 p.2)).length ≤ (low h).length := List.length_filter_le _ _
    omega
  refine ⟨(co, cnts co (low h)), ?_, ⟨gc.inc, gc.n2, gc.n12, gc.rg, by show (cnts co (low h)).length + 1 = co.length; rw [cnts_len]; omega, cn, by show (cnts co (low h)).sum ≤ 200; omega⟩, by show (cnts co (low h)).sum = _; omega, fun d hd => ⟨hd.asc, by show Bks co (cnts co (low h)) d; rw [← all d hd]; exact fl d hd⟩⟩
  unfold coarsened_h_ti
  obtain ⟨m, em, hm, _⟩ := maxT_ok (xs := cnts co (low h)) (fun e => by
    have := cnts_len co (low h)
    rw [e] at this
    simp at this
    omega)
  have := cn m hm
  rw [g.chk, rb_ok, gc.chk, rb_ok, c1, rb_ok, rb_ok, if_neg (by decide), m0, rb_ok, em, rb_ok, rb_ok, if_neg (by simp; omega)]
/-- bounds are no narrower -/
theorem bd_mono {h t : Hst} (g : GH h) (gt : GH t) (e : t.2.sum = h.2.sum) (hs : ∀ d, Has h d → Has t d) (s : Sm) (ok : s.ok h.2.sum) : (s.bd t).1 ≤ (s.bd h).1 ∧ (s.bd h).2 ≤ (s.bd t).2 := by
  have p1 := (hs _ (has_low g)).lo
  have p2 := (hs _ (has_high g)).hi
  have l1 := low_len g
  have l2 := high_len g
  have l3 := low_len gt
  have l4 := high_len gt
  cases s with
  | rank r lo hi =>
    obtain ⟨⟨h1, h2⟩, _⟩ := ok
    have q1 := p1.get (r - 1).toNat (by omega) (by omega)
    have q2 := p2.get (r - 1).toNat (by omega) (by omega)
    show (low t).getD (r - 1).toNat 0 ≤ (low h).getD (r - 1).toNat 0 ∧ (high h).getD (r - 1).toNat 0 ≤ (high t).getD (r - 1).toNat 0
    rw [gd (by omega), gd (by omega), gd (by omega), gd (by omega)]
    exact ⟨q1, q2⟩
  | less v lo hi => exact ⟨p2.less v, p1.less v⟩
  | sum lo hi => exact ⟨p1.sum, p2.sum⟩
end Y
-- LH
set_option Elab.async false
set_option linter.all false
set_option maxRecDepth 100000
set_option maxHeartbeats 4000000
/-! small histograms, all their data -/
namespace Y
open PL
/-- a drawn small histogram -/
structure SH (h : Hst) : Prop where
  g : GH h
  n4 : h.1.length ≤ 4
  w : ∀ (i : Nat) (hi : i + 1 < h.1.length), h.1[i + 1] - h.1[i] ≤ 4
  s5 : h.2.sum ≤ 5
  b14 : ∀ b ∈ h.1, b ≤ 14
theorem lsmall_ok (ns : List Int) (hn : ns.length ≤ 63) (pl : Int) (h0 : 0 ≤ pl) (h1 : pl ≤ 5000) : ∃ h, lsmall_z_i ns pl = .ok h ∧ SH h := by
  unfold lsmall_z_i
  obtain ⟨p, hp, p1, p2⟩ := pick_ok ns hn pl 3 (by omega) (by omega) (by omega)
  obtain ⟨q, hq, q1, q2⟩ := pick_ok ns hn (pl + 1) 3 (by omega) (by omega) (by omega)
  rw [hp, rb_ok, rb_ok, rb_ok, pushT_ok (by simp), rb_ok, hq, rb_ok, rb_ok, rngT_ok (by omega) (by omega) (by omega) (by omega), rb_ok]
  obtain ⟨m, em⟩ : ∃ m : Nat, 1 + q = (m : Int) := ⟨(1 + q).toNat, by omega⟩
  rw [em]
  obtain ⟨⟨a, B, C, l⟩, hf, g1, g2, g3, g4, g5, g6, g7, g8, g9, g10⟩ := forT_range (σ := Int × (List Int) × (List Int) × Int) (ρ := (List Int) × (List Int)) (n := m) (s := (p, [] ++ [p], [], 5)) (f := fun s7 i8 =>
      ((lpick_z_i_i ns ((pl + 2) + i8) 4).rb fun x9 => Res.ok ((s7.1 + 1) + x9)).rb fun at10 =>
      (Res.ok at10).rb fun x12 => (pushT s7.2.1 x12).rb fun borders11 =>
      ((lpick_z_i_i ns ((pl + 6) + i8) 4).rb fun x13 => Res.ok (min2 s7.2.2.2 x13)).rb fun count14 =>
      (Res.ok count14).rb fun x16 => (pushT s7.2.2.1 x16).rb fun counts15 =>
      Res.ok (.nx (at10, borders11, counts15, (s7.2.2.2 - count14))))
    (fun k s => s.2.1.length = k + 1 ∧ s.2.2.1.length = k ∧ Inc s.2.1 ∧ (∀ b ∈ s.2.1, 0 ≤ b ∧ b ≤ s.1) ∧ s.1 ≤ 2 + 4 * k ∧ (∃ hl : s.2.1 ≠ [], s.2.1.getLast hl = s.1) ∧ (∀ (i : Nat) (hi : i + 1 < s.2.1.length), s.2.1[i + 1] - s.2.1[i] ≤ 4) ∧ (∀ c ∈ s.2.2.1, 0 ≤ c ∧ c ≤ 3) ∧ s.2.2.1.sum + s.2.2.2 = 5 ∧ 0 ≤ s.2.2.2)
    ⟨rfl, rfl, by simp [Inc], fun b hb => by simp at hb; omega, by show p ≤ 2 + 4 * (0 : Nat); omega, ⟨by simp, rfl⟩, fun i hi => by simp at hi, fun c hc => by simp at hc, rfl, by show (0 : Int) ≤ 5; omega⟩
    (fun i s hi ⟨i1, i2, i3, i4, i5, ⟨i6, i6'⟩, i7, i8, i9, i10⟩ => by
      obtain ⟨u, hu, u1, u2⟩ := pick_ok ns hn (pl + 2 + (i : Int)) 4 (by omega) (by omega) (by omega)
      obtain ⟨v, hv, v1, v2⟩ := pick_ok ns hn (pl + 6 + (i : Int)) 4 (by omega) (by omega) (by omega)
      refine ⟨(s.1 + 1 + u, s.2.1 ++ [s.1 + 1 + u], s.2.2.1 ++ [min2 s.2.2.2 v], s.2.2.2 - min2 s.2.2.2 v), ?_, by simp [i1], by simp [i2], ?_, fun b hb => ?_, by show s.1 + 1 + u ≤ _; omega, ⟨by simp, by simp⟩, fun j hj => ?_, fun c hc => ?_, ?_, ?_⟩
      · rw [hu, rb_ok, rb_ok, rb_ok, pushT_ok (by omega), rb_ok, hv, rb_ok, rb_ok, rb_ok, pushT_ok (by omega), rb_ok]
      · refine List.pairwise_append.mpr ⟨i3, List.pairwise_singleton _ _, fun x hx y hy => ?_⟩
        have := i4 x hx
        have := List.mem_singleton.mp hy
        omega
      · rcases List.mem_append.mp hb with hb | hb
        · have := i4 b hb
          show 0 ≤ b ∧ b ≤ s.1 + 1 + u
          omega
        · have := List.mem_singleton.mp hb
          have := i4 _ (List.getLast_mem i6)
          show 0 ≤ b ∧ b ≤ s.1 + 1 + u
          omega
      · have hj : j + 1 < (s.2.1 ++ [s.1 + 1 + u]).length := hj
        show (s.2.1 ++ [s.1 + 1 + u])[j + 1] - (s.2.1 ++ [s.1 + 1 + u])[j] ≤ 4
        rw [List.length_append, List.length_singleton] at hj
        by_cases hj2 : j + 1 < s.2.1.length
        · rw [List.getElem_append_left hj2, List.getElem_append_left (by omega)]
          exact i7 j hj2
        · rw [List.getElem_append_right (by omega), List.getElem_append_left (by omega), List.getElem_singleton]
          have e : s.2.1[j]'(by omega) = s.1 := by
            rw [← i6', List.getLast_eq_getElem]
            congr 1; omega
          omega
      · rcases List.mem_append.mp hc with hc | hc
        · exact i8 c hc
        · rw [List.mem_singleton.mp hc]
          unfold min2; split <;> omega
      · show (s.2.2.1 ++ [min2 s.2.2.2 v]).sum + (s.2.2.2 - min2 s.2.2.2 v) = 5
        rw [List.sum_append, List.sum_singleton]; omega
      · show 0 ≤ s.2.2.2 - min2 s.2.2.2 v
        unfold min2; split <;> omega)
  rw [hf, rb_ok, after_nx]
  have g1 : B.length = m + 1 := g1
  have g2 : C.length = m := g2
  have g9 : C.sum + l = 5 := g9
  have g10 : 0 ≤ l := g10
  have g5 : a ≤ 2 + 4 * m := g5
  refine ⟨(B, C), rfl, ⟨g3, by show 2 ≤ B.length; omega, by show B.length ≤ 12; omega, fun b hb => ?_, by show C.length + 1 = B.length; omega, fun c hc => ?_, by show C.sum ≤ 200; omega⟩, by show B.length ≤ 4; omega, g7, by show C.sum ≤ 5; omega, fun b hb => ?_⟩
  · have : 0 ≤ b ∧ b ≤ a := g4 b hb
    omega
  · have := g8 c hc
    omega
  · have : 0 ≤ b ∧ b ≤ a := g4 b hb
    show b ≤ 14
    omega
/-! ### all data -/
def lastOr (d : List Int) : Int := d.getLastD 0
theorem PLe.snoc_l {a : Int} : ∀ {L d : List Int}, PLe (L ++ [a]) d → ∃ e v, d = e ++ [v] ∧ PLe L e ∧ a ≤ v
  | [], d, h => by
    cases h with
    | cons h t =>
      cases t
      exact ⟨[], _, rfl, .nil, h⟩
  | x :: L, d, h => by
    cases h with
    | cons h t =>
      obtain ⟨e, v, rfl, h2, h3⟩ := snoc_l t
      exact ⟨_ :: e, v, rfl, .cons h h2, h3⟩
theorem PLe.snoc_r {c v : Int} : ∀ {e U : List Int}, PLe (e ++ [v]) (U ++ [c]) → PLe e U ∧ v ≤ c
  | [], [], h => by
    cases h with
    | cons h t => exact ⟨.nil, h⟩
  | [], u :: U, h => by
    have := h.len
    simp at this
  | x :: e, [], h => by
    have := h.len
    simp at this
  | x :: e, u :: U, h => by
    cases h with
    | cons h t =>
      obtain ⟨h2, h3⟩ := snoc_r t
      exact ⟨.cons h h2, h3⟩
theorem asc_snoc {d : List Int} {v : Int} (h0 : ∀ x ∈ d, 0 ≤ x) : Asc (d ++ [v]) ↔ Asc d ∧ (d = [] ∨ lastOr d ≤ v) := by
  constructor
  · intro h
    obtain ⟨h1, _, h3⟩ := List.pairwise_append.mp h
    refine ⟨h1, ?_⟩
    by_cases z : d = []
    · exact .inl z
    · refine .inr ?_
      have : lastOr d = d.getLast z := by unfold lastOr; rw [List.getLastD_eq_getLast?, List.getLast?_eq_some_getLast z]; rfl
      rw [this]
      exact h3 _ (List.getLast_mem z) v (List.mem_singleton_self v)
  · rintro ⟨h1, h2⟩
    refine List.pairwise_append.mpr ⟨h1, List.pairwise_singleton _ _, fun x hx y hy => ?_⟩
    rw [List.mem_singleton.mp hy]
    rcases h2 with rfl | h2
    · cases hx
    · have z : d ≠ [] := fun z => by rw [z] at hx; cases hx
      have e : lastOr d = d.getLast z := by unfold lastOr; rw [List.getLastD_eq_getLast?, List.getLast?_eq_some_getLast z]; rfl
      have : x ≤ d.getLast z := by
        obtain ⟨i, hi, rfl⟩ := List.mem_iff_getElem.mp hx
        rw [List.getLast_eq_getElem]
        rcases Nat.lt_or_ge i (d.length - 1) with q | q
        · exact List.pairwise_iff_getElem.mp h1 i _ hi (by omega) q
        · have : i = d.length - 1 := by omega
          subst this
          exact Int.le_refl _
      omega
/-- E holds all data between L and U -/
structure Ev (L U : List Int) (E : List (List Int)) : Prop where
  m : ∀ d, d ∈ E ↔ Asc d ∧ PLe L d ∧ PLe d U
  z : E.length ≤ 4 ^ L.length
theorem Ev.step {L U : List Int} {E : List (List Int)} {a b : Int} (e : Ev L U E) (h0 : ∀ x ∈ L, 0 ≤ x) (a0 : 0 ≤ a) (ab : b - a ≤ 4) :
    Ev (L ++ [a]) (U ++ [b - 1]) (E.flatMap fun d => (rangeI (max2 a (lastOr d)) b).map fun v => d ++ [v]) := by
  have nn : ∀ d, PLe L d → ∀ x ∈ d, 0 ≤ x := fun d h x hx => by
    obtain ⟨i, hi, rfl⟩ := List.mem_iff_getElem.mp hx
    have hl := h.len
    have := h.get i (by omega) hi
    have := h0 _ (List.getElem_mem (show i < L.length by omega))
    omega
  constructor
  · intro d'
    rw [List.mem_flatMap]
    constructor
    · rintro ⟨d, hd, hv⟩
      obtain ⟨v, hw, rfl⟩ := List.mem_map.mp hv
      have hw := mem_rangeI.mp hw
      obtain ⟨h1, h2, h3⟩ := (e.m d).mp hd
      have mx : a ≤ max2 a (lastOr d) ∧ lastOr d ≤ max2 a (lastOr d) := by unfold max2; split <;> omega
      exact ⟨(asc_snoc (nn d h2)).mpr ⟨h1, .inr (by omega)⟩, h2.app (.cons (by omega) .nil), h3.app (.cons (by omega) .nil)⟩
    · rintro ⟨h1, h2, h3⟩
      obtain ⟨d, v, rfl, k1, k2⟩ := h2.snoc_l
      obtain ⟨k3, k4⟩ := h3.snoc_r
      obtain ⟨k5, k6⟩ := (asc_snoc (nn d k1)).mp h1
      refine ⟨d, (e.m d).mpr ⟨k5, k1, k3⟩, List.mem_map.mpr ⟨v, mem_rangeI.mpr ⟨?_, by omega⟩, rfl⟩⟩
      rcases k6 with rfl | k6
      · unfold max2
        show (if _ then _ else _) ≤ v
        have : lastOr [] = 0 := rfl
        split <;> omega
      · unfold max2; split <;> omega
  · have : ∀ E : List (List Int), (E.flatMap fun d => (rangeI (max2 a (lastOr d)) b).map fun v => d ++ [v]).length ≤ 4 * E.length := fun E => by
      induction E with
      | nil => simp
      | cons d E ih =>
        rw [List.flatMap_cons, List.length_append, List.length_cons, List.length_map, rangeI_len]
        have mx : a ≤ max2 a (lastOr d) := by unfold max2; split <;> omega
        omega
    have := this E
    have := e.z
    rw [List.length_append, List.length_singleton, Nat.pow_succ]
    omega
theorem Ev.has {h : Hst} (g : GH h) {E : List (List Int)} (e : Ev (low h) (high h) E) (d : List Int) : d ∈ E ↔ Has h d := by
  rw [e.m d]
  constructor
  · rintro ⟨h1, h2, h3⟩
    exact ⟨h1, Bks.between g.inc g.len g.c0 h2 h3⟩
  · intro hd
    exact ⟨hd.asc, hd.lo, hd.hi⟩
/-! the loops of _law_every -/
theorem every_inner {bs : List Int} {i : Nat} (hi : i + 1 < bs.length) (w : bs[i + 1] - bs[i] ≤ 4) (rg : ∀ b ∈ bs, 0 ≤ b ∧ b ≤ 1000) : ∀ (E s : List (List Int)), (∀ d ∈ E, d.length ≤ 1000 ∧ ∀ x ∈ d, 0 ≤ x ∧ x ≤ 1000) → s.length + 4 * E.length ≤ 100000 → forT (ρ := List (List Int)) (fun (s7 : List (List Int)) (data8 : List Int) =>
  ((atT bs (i : Int)).rb fun x9 => ((if (!decide (data8 = [])) = true then atT data8 (-1) else Res.ok 0)).rb fun x10 => Res.ok (max2 x9 x10)).rb fun first11 =>
  (((Res.ok first11).rb fun n12 => (atT bs ((i : Int) + 1)).rb fun n13 => rngT n12 n13).rb fun w15 => (mapR (fun value14 : Int => appT data8 [value14]) w15).rb lenT).rb fun x17 => (extT s7 x17).rb fun longer16 =>
  Res.ok (.nx (longer16))) E s = .ok (.nx (s ++ E.flatMap fun d => (rangeI (max2 bs[i] (lastOr d)) bs[i + 1]).map fun v => d ++ [v]))
  | [], s, _, _ => by rw [List.flatMap_nil, List.append_nil]; rfl
  | d :: E, s, hd, hl => by
    rw [List.length_cons] at hl
    obtain ⟨d1, d2⟩ := hd d (List.mem_cons_self ..)
    have r1 := rg _ (List.getElem_mem (show i < bs.length by omega))
    have r2 := rg _ (List.getElem_mem hi)
    have el : (if (!decide (d = [])) = true then atT d (-1) else Res.ok 0) = .ok (lastOr d) := by
      by_cases z : d = []
      · subst z; rfl
      · rw [if_pos (by simp [z]), atT_last z]
        unfold lastOr
        rw [List.getLastD_eq_getLast?, List.getLast?_eq_some_getLast z]; rfl
    have lr : 0 ≤ lastOr d ∧ lastOr d ≤ 1000 := by
      by_cases z : d = []
      · subst z
        have : lastOr [] = 0 := rfl
        omega
      · have e : lastOr d = d.getLast z := by unfold lastOr; rw [List.getLastD_eq_getLast?, List.getLast?_eq_some_getLast z]; rfl
        rw [e]
        exact d2 _ (List.getLast_mem z)
    have mx : bs[i] ≤ max2 bs[i] (lastOr d) ∧ max2 bs[i] (lastOr d) ≤ 1000 := by unfold max2; split <;> omega
    have ln : ((rangeI (max2 bs[i] (lastOr d)) bs[i + 1]).map fun v => d ++ [v]).length ≤ 4 := by rw [List.length_map, rangeI_len]; omega
    rw [forT_cons (s' := s ++ (rangeI (max2 bs[i] (lastOr d)) bs[i + 1]).map fun v => d ++ [v]), every_inner hi w rg E _ (fun e he => hd e (List.mem_cons_of_mem _ he)) (by rw [List.length_append]; omega), List.flatMap_cons, List.append_assoc]
    rw [atT_nat (show i < bs.length by omega), rb_ok, el, rb_ok, rb_ok, rb_ok, atT_get (j := i + 1) (by omega) hi, rb_ok, rngT_ok (by omega) (by omega) (by omega) (by omega), rb_ok, mapR_ok (g := fun v => d ++ [v]) fun v _ => appT_ok (by simp; omega), rb_ok, lenT_ok (by omega), rb_ok, extT_ok (by omega), rb_ok]
theorem pow4 {k : Nat} (h : k ≤ 5) : 4 ^ k ≤ 1024 := by
  have : 4 ^ k ≤ 4 ^ 5 := Nat.pow_le_pow_right (by decide) h
  omega
theorem Ev.rg {L U : List Int} {E : List (List Int)} (e : Ev L U E) (h0 : ∀ x ∈ L, 0 ≤ x) (h1 : ∀ x ∈ U, x ≤ 1000) (hl : L.length ≤ 1000) : ∀ d ∈ E, d.length ≤ 1000 ∧ ∀ x ∈ d, 0 ≤ x ∧ x ≤ 1000 := fun d hd => by
  obtain ⟨_, k1, k2⟩ := (e.m d).mp hd
  have l1 := k1.len
  have l2 := k2.len
  refine ⟨by omega, fun x hx => ?_⟩
  obtain ⟨i, hi, rfl⟩ := List.mem_iff_getElem.mp hx
  have := k1.get i (by omega) hi
  have := k2.get i hi (by omega)
  have := h0 _ (List.getElem_mem (show i < L.length by omega))
  have := h1 _ (List.getElem_mem (show i < U.length by omega))
  omega
theorem levery_ok {h : Hst} (s : SH h) : ∃ E, levery_h h = .ok E ∧ E ≠ [] ∧ E.length ≤ 1024 ∧ ∀ d, d ∈ E ↔ Has h d := by
  have g := s.g
  have gl := g.len
  have n4 := s.n4
  have s5 := s.s5
  unfold levery_h
  rw [rb_ok, rngT_ok (by omega) (by omega) (by omega) (by omega), rb_ok]
  have part : ∀ k, (fill (h.1.take k) (h.2.take k)).length ≤ 5 := fun k => by
    have := (List.take_append_drop k h.2)
    have c0 : ∀ c ∈ h.2.drop k, 0 ≤ c ∧ c ≤ 60 := fun c hc => g.cr c (List.mem_of_mem_drop hc)
    have := sum_bd (k := 60) (by omega) c0
    have e : (h.2.take k).sum + (h.2.drop k).sum = h.2.sum := by rw [← List.sum_append, List.take_append_drop]
    have := fill_len (vs := h.1.take k) (cs := h.2.take k) (by rw [List.length_take, List.length_take]; omega) fun c hc => g.c0 c (List.mem_of_mem_take hc)
    omega
  have lo0 : ∀ k, ∀ x ∈ fill (h.1.take k) (h.2.take k), 0 ≤ x := fun k x hx => (g.rg x (List.mem_of_mem_take (fill_mem hx))).1
  have hi0 : ∀ k, ∀ x ∈ fill ((h.1.tail.map (· - 1)).take k) (h.2.take k), x ≤ 1000 := fun k x hx => by
    obtain ⟨b, hb, rfl⟩ := List.mem_map.mp (List.mem_of_mem_take (fill_mem hx))
    have := g.rg b (List.mem_of_mem_tail hb)
    omega
  obtain ⟨E, hf, e⟩ := forT_range (σ := List (List Int)) (ρ := List (List Int)) (n := h.2.length) (s := [[]]) (f := fun (s2 : List (List Int)) (i3 : Int) =>
      ((atT h.2 i3).rb fun n4 => rngT 0 n4).rb fun w25 => (forT (ρ := List (List Int)) (fun (s5 : List (List Int)) (j6 : Int) =>
      (Res.ok s5).rb fun w21 => (forT (ρ := List (List Int)) (fun (s7 : List (List Int)) (data8 : List Int) =>
      ((atT h.1 i3).rb fun x9 => ((if (!decide (data8 = [])) = true then atT data8 (-1) else Res.ok 0)).rb fun x10 => Res.ok (max2 x9 x10)).rb fun first11 =>
      (((Res.ok first11).rb fun n12 => (atT h.1 (i3 + 1)).rb fun n13 => rngT n12 n13).rb fun w15 => (mapR (fun value14 : Int => appT data8 [value14]) w15).rb lenT).rb fun x17 => (extT s7 x17).rb fun longer16 =>
      Res.ok (.nx (longer16))) w21 ([])).rb fun o20 => after o20 (fun s18 =>
      Res.ok (.nx (s18))) (fun r19 => Res.ok (.ret r19))) w25 (s2)).rb fun o24 => after o24 (fun s22 =>
      Res.ok (.nx (s22))) (fun r23 => Res.ok (.ret r23)))
    (fun k E => Ev (fill (h.1.take k) (h.2.take k)) (fill ((h.1.tail.map (· - 1)).take k) (h.2.take k)) E)
    (by
      rw [List.take_zero, fill_nil, List.take_zero, fill_nil]
      refine ⟨fun d => ?_, by simp⟩
      rw [List.mem_singleton]
      constructor
      · rintro rfl; exact ⟨List.Pairwise.nil, .nil, .nil⟩
      · rintro ⟨_, h2, _⟩; cases h2; rfl)
    (fun k E hk ev => by
      have c := g.cr h.2[k] (List.getElem_mem _)
      have tl : k < (h.1.tail.map (· - 1)).length := by rw [List.length_map, List.length_tail]; omega
      have hi1 : k + 1 < h.1.length := by omega
      have et : (h.1.tail.map (· - 1))[k] = h.1[k + 1] - 1 := by rw [List.getElem_map, List.getElem_tail]
      have p1 := part (k + 1)
      have l1 := lo0 (k + 1)
      have u1 := hi0 (k + 1)
      rw [fill_snoc (by omega) hk] at p1 l1 ⊢
      rw [fill_snoc tl hk, et] at u1 ⊢
      obtain ⟨m, em⟩ : ∃ m : Nat, h.2[k] = (m : Int) := ⟨h.2[k].toNat, by omega⟩
      rw [em, Int.toNat_natCast] at p1 l1 u1 ⊢
      rw [List.length_append, List.length_replicate] at p1
      have ra := g.rg _ (List.getElem_mem (show k < h.1.length by omega))
      obtain ⟨F, hF, eF⟩ := forT_range (σ := List (List Int)) (ρ := List (List Int)) (n := m) (s := E) (f := fun (s5 : List (List Int)) (j6 : Int) =>
          (Res.ok s5).rb fun w21 => (forT (ρ := List (List Int)) (fun (s7 : List (List Int)) (data8 : List Int) =>
          ((atT h.1 (k : Int)).rb fun x9 => ((if (!decide (data8 = [])) = true then atT data8 (-1) else Res.ok 0)).rb fun x10 => Res.ok (max2 x9 x10)).rb fun first11 =>
          (((Res.ok first11).rb fun n12 => (atT h.1 ((k : Int) + 1)).rb fun n13 => rngT n12 n13).rb fun w15 => (mapR (fun value14 : Int => appT data8 [value14]) w15).rb lenT).rb fun x17 => (extT s7 x17).rb fun longer16 =>
          Res.ok (.nx (longer16))) w21 ([])).rb fun o20 => after o20 (fun s18 =>
          Res.ok (.nx (s18))) (fun r19 => Res.ok (.ret r19)))
        (fun j F => Ev (fill (h.1.take k) (h.2.take k) ++ List.replicate j h.1[k]) (fill ((h.1.tail.map (· - 1)).take k) (h.2.take k) ++ List.replicate j (h.1[k + 1] - 1)) F)
        (by rw [List.replicate_zero, List.append_nil, List.replicate_zero, List.append_nil]; exact ev)
        (fun j F hj evj => by
          have l2 : ∀ x ∈ fill (h.1.take k) (h.2.take k) ++ List.replicate j h.1[k], 0 ≤ x := fun x hx => by
            rcases List.mem_append.mp hx with hx | hx
            · exact lo0 k x hx
            · rw [(List.mem_replicate.mp hx).2]; exact ra.1
          have u2 : ∀ x ∈ fill ((h.1.tail.map (· - 1)).take k) (h.2.take k) ++ List.replicate j (h.1[k + 1] - 1), x ≤ 1000 := fun x hx => by
            rcases List.mem_append.mp hx with hx | hx
            · exact hi0 k x hx
            · rw [(List.mem_replicate.mp hx).2]
              have := g.rg _ (List.getElem_mem hi1)
              omega
          have lz : (fill (h.1.take k) (h.2.take k) ++ List.replicate j h.1[k]).length ≤ 5 := by rw [List.length_append, List.length_replicate]; omega
          have pz := pow4 lz
          have ez := evj.z
          refine ⟨F.flatMap fun d => (rangeI (max2 h.1[k] (lastOr d)) h.1[k + 1]).map fun v => d ++ [v], ?_, ?_⟩
          · rw [rb_ok, every_inner hi1 (s.w k hi1) g.rg F [] (evj.rg l2 u2 (by omega)) (by simp; omega), rb_ok, after_nx, List.nil_append]
          · rw [List.replicate_succ', List.replicate_succ', ← List.append_assoc, ← List.append_assoc]
            exact evj.step l2 ra.1 (s.w k hi1))
      refine ⟨F, ?_, eF⟩
      rw [atT_nat hk, rb_ok, em, rngT_ok (by omega) (by omega) (by omega) (by omega), rb_ok, hF, rb_ok, after_nx])
  rw [fill_take (Nat.le_refl _), fill_take (Nat.le_refl _)] at e
  have e : Ev (low h) (high h) E := e
  have mem := e.has g
  have hlow : low h ∈ E := (mem _).mpr (has_low g)
  have ll := low_len g
  have := pow4 (show (low h).length ≤ 5 by omega)
  have := e.z
  refine ⟨E, ?_, List.ne_nil_of_mem hlow, by omega, mem⟩
  rw [hf, rb_ok, after_nx]
end Y
-- LI
set_option Elab.async false
set_option linter.all false
set_option maxRecDepth 100000
set_option maxHeartbeats 4000000
/-! data between the least and the greatest; sums; spreads -/
namespace Y
open PL
theorem has_of' {h : Hst} (g : GH h) {d : List Int} (h1 : Asc d) (h2 : PLe (low h) d) (h3 : PLe d (high h)) : Has h d := ⟨h1, Bks.between g.inc g.len g.c0 h2 h3⟩
/-- all values as near to t as they can be -/
theorem clamp_has {h : Hst} (g : GH h) (t : Int) : ∃ d, Has h d ∧ ∀ i, i < (low h).length → d.getD i 0 = max2 ((low h).getD i 0) (min2 ((high h).getD i 0) t) := by
  have ll := low_len g
  have hl := high_len g
  have la := low_asc g
  have ha := high_asc g
  have lh := (has_low g).hi
  let f : Nat → Int := fun i => max2 ((low h).getD i 0) (min2 ((high h).getD i 0) t)
  have fl : ∀ (i : Nat) (hi : i < ((List.range (low h).length).map f).length), ((List.range (low h).length).map f)[i] = f i := fun i hi => by rw [List.getElem_map, List.getElem_range]
  have len : ((List.range (low h).length).map f).length = (low h).length := by rw [List.length_map, List.length_range]
  refine ⟨(List.range (low h).length).map f, has_of' g ?_ ?_ ?_, ?_⟩
  · refine List.pairwise_iff_getElem.mpr fun i j hi hj hij => ?_
    rw [fl i hi, fl j hj]
    have q1 := List.pairwise_iff_getElem.mp la i j (by omega) (by omega) hij
    have q2 := List.pairwise_iff_getElem.mp ha i j (by omega) (by omega) hij
    show max2 ((low h).getD i 0) (min2 ((high h).getD i 0) t) ≤ max2 ((low h).getD j 0) (min2 ((high h).getD j 0) t)
    rw [gd (by omega), gd (by omega), gd (by omega), gd (by omega)]
    unfold max2 min2
    split <;> split <;> split <;> split <;> omega
  · refine PLe.of len.symm fun i a1 a2 => ?_
    rw [fl i a2]
    show _ ≤ max2 ((low h).getD i 0) (min2 ((high h).getD i 0) t)
    rw [gd a1]
    unfold max2; split <;> omega
  · refine PLe.of (by rw [len]; omega) fun i a1 a2 => ?_
    rw [fl i a1]
    show max2 ((low h).getD i 0) (min2 ((high h).getD i 0) t) ≤ _
    have := lh.get i (by omega) a2
    rw [gd a2, gd (by omega)]
    unfold max2 min2; split <;> split <;> omega
  · intro i hi
    rw [gd (by omega), fl _ (by omega)]
/-- the first m the least ones, the others the greatest -/
theorem mix_has {h : Hst} (g : GH h) (m : Nat) : Has h ((low h).take m ++ (high h).drop m) := by
  have ll := low_len g
  have hl := high_len g
  have la := low_asc g
  have ha := high_asc g
  have lh := (has_low g).hi
  have len : ((low h).take m ++ (high h).drop m).length = (low h).length := by rw [List.length_append, List.length_take, List.length_drop]; omega
  have gt : ∀ (i : Nat) (hi : i < ((low h).take m ++ (high h).drop m).length), ((low h).take m ++ (high h).drop m)[i] = if i < m then (low h)[i]'(by omega) else (high h)[i]'(by omega) := fun i hi => by
    by_cases q : i < m
    · rw [if_pos q, List.getElem_append_left (by rw [List.length_take]; omega), List.getElem_take]
    · rw [if_neg q, List.getElem_append_right (by rw [List.length_take]; omega), List.getElem_drop]
      congr 1
      rw [List.length_take]; omega
  refine has_of' g ?_ ?_ ?_
  · refine List.pairwise_iff_getElem.mpr fun i j hi hj hij => ?_
    rw [gt i hi, gt j hj]
    have q1 := List.pairwise_iff_getElem.mp la i j (by omega) (by omega) hij
    have q2 := List.pairwise_iff_getElem.mp ha i j (by omega) (by omega) hij
    have q3 := lh.get i (by omega) (by omega)
    split <;> split <;> omega
  · refine PLe.of len.symm fun i a1 a2 => ?_
    rw [gt i a2]
    have q3 := lh.get i (by omega) (by omega)
    split <;> omega
  · refine PLe.of (by omega) fun i a1 a2 => ?_
    rw [gt i a1]
    have q3 := lh.get i (by omega) (by omega)
    split <;> omega
/-! how far the greatest sum lies from the least -/
theorem fill_le : ∀ {vs ws cs : List Int}, (∀ (i : Nat) (h1 : i < vs.length) (h2 : i < ws.length), vs[i] ≤ ws[i]) → cs.length ≤ vs.length → cs.length ≤ ws.length → PLe (fill vs cs) (fill ws cs)
  | vs, ws, [], _, _, _ => by rw [fill_nil2, fill_nil2]; exact .nil
  | [], ws, c :: cs, _, h, _ => by simp at h
  | v :: vs, [], c :: cs, _, _, h => by simp at h
  | v :: vs, w :: ws, c :: cs, h, h1, h2 => by
    have r := h 0 (by simp) (by simp)
    have ih := fill_le (vs := vs) (ws := ws) (cs := cs) (fun i a b => h (i + 1) (by simpa using a) (by simpa using b)) (by simpa using h1) (by simpa using h2)
    refine PLe.app ?_ ih
    generalize c.toNat = n
    induction n with
    | zero => exact .nil
    | succ n ihn => exact .cons r ihn
theorem fill_add (k : Int) : ∀ {vs cs : List Int}, fill (vs.map (· + k)) cs = (fill vs cs).map (· + k)
  | vs, [] => by rw [fill_nil2, fill_nil2]; rfl
  | [], c :: cs => by rw [List.map_nil, fill_nil]; rfl
  | v :: vs, c :: cs => by
    show List.replicate c.toNat (v + k) ++ fill (vs.map (· + k)) cs = (List.replicate c.toNat v ++ fill vs cs).map (· + k)
    rw [fill_add k, List.map_append, List.map_replicate]
theorem sum_add (k : Int) : ∀ xs : List Int, (xs.map (· + k)).sum = xs.sum + k * xs.length
  | [] => by simp
  | x :: xs => by
    rw [List.map_cons, List.sum_cons, List.sum_cons, sum_add k xs, List.length_cons, Int.natCast_add, Int.mul_add]
    simp
    omega
theorem sum_near {h : Hst} (s : SH h) : (high h).sum ≤ (low h).sum + 15 := by
  have g := s.g
  have gl := g.len
  have p : PLe (high h) ((low h).map (· + 3)) := by
    rw [show (low h).map (· + 3) = fill (h.1.map (· + 3)) h.2 from (fill_add 3).symm]
    refine fill_le (fun i h1 h2 => ?_) (by rw [List.length_map, List.length_tail]; omega) (by rw [List.length_map]; omega)
    rw [List.length_map, List.length_tail] at h1
    have := s.w i (by omega)
    rw [List.getElem_map, List.getElem_map, List.getElem_tail]
    omega
  have q := p.sum
  rw [sum_add] at q
  have := low_len g
  have := s.s5
  omega
/-- all sums -/
theorem sums_all {h : Hst} (s : SH h) {E : List (List Int)} (hE : ∀ d, d ∈ E ↔ Has h d) : asct (E.map fun d => d.sum) = rangeI (low h).sum ((high h).sum + 1) := by
  have g := s.g
  have inc : Inc (rangeI (low h).sum ((high h).sum + 1)) := by
    refine List.pairwise_iff_getElem.mpr fun i j hi hj hij => ?_
    rw [rangeI_get, rangeI_get]; omega
  refine lt_uniq (asct_inc _) inc fun k => ?_
  rw [mem_asct, List.mem_map, mem_rangeI]
  constructor
  · rintro ⟨d, hd, rfl⟩
    have hd := (hE d).mp hd
    have := hd.lo.sum
    have := hd.hi.sum
    omega
  · rintro ⟨h1, h2⟩
    obtain ⟨d, _, hd, e⟩ := raised_ok g (t := k) h1 (by omega)
    exact ⟨d, (hE d).mpr hd, e⟩
theorem spread_ok {h : Hst} (g : GH h) (hs : 0 < h.2.sum) : spread_bounds_h h = .ok (if h.2.sum = 1 then (0, 0) else (max2 0 ((low h).getD ((low h).length - 1) 0 - (high h).getD 0 0), (high h).getD ((low h).length - 1) 0 - (low h).getD 0 0)) := by
  have ll := low_len g
  have hl := high_len g
  unfold spread_bounds_h
  rw [filled_chk g hs, rb_ok, lowest_ok g, rb_ok, highest_ok g, rb_ok, rb_ok]
  dsimp only
  by_cases c : h.2.sum = 1
  · rw [if_pos (by rw [decide_eq_true_eq]; omega), if_pos c]
  · have n1 : low h ≠ [] := fun z => by rw [z] at ll; simp at ll; omega
    have n2 : high h ≠ [] := fun z => by rw [z] at hl; simp at hl; omega
    have e1 : atT (low h) (-1) = .ok ((low h).getD ((low h).length - 1) 0) := by rw [atT_last n1, gd (by omega), List.getLast_eq_getElem]
    have e2 : atT (high h) (-1) = .ok ((high h).getD ((low h).length - 1) 0) := by
      rw [atT_last n2, List.getLast_eq_getElem]
      have : (low h).length - 1 = (high h).length - 1 := by omega
      rw [this, gd (by omega)]
    have e3 : atT (low h) 0 = .ok ((low h).getD 0 0) := by rw [show atT (low h) 0 = .ok (low h)[0] from atT_nat (i := 0) (by omega), gd (by omega)]
    have e4 : atT (high h) 0 = .ok ((high h).getD 0 0) := by rw [show atT (high h) 0 = .ok (high h)[0] from atT_nat (i := 0) (by omega), gd (by omega)]
    rw [if_neg (by rw [decide_eq_true_eq]; omega), if_neg c, e1, rb_ok, e4, rb_ok, rb_ok, rb_ok, e2, rb_ok, e3, rb_ok, rb_ok]
end Y
-- LJ
set_option Elab.async false
set_option linter.all false
set_option maxRecDepth 100000
set_option maxHeartbeats 4000000
/-! the most frequent value -/
namespace Y
open PL
theorem ct_nn (v : Int) (xs : List Int) : 0 ≤ countT v xs := Int.natCast_nonneg _
theorem ct_app (v : Int) (xs ys : List Int) : countT v (xs ++ ys) = countT v xs + countT v ys := by
  unfold countT
  rw [List.filter_append, List.length_append]
  omega
theorem ct_none {v : Int} {xs : List Int} (h : ∀ x ∈ xs, x ≠ v) : countT v xs = 0 := by
  unfold countT
  rw [filter_none fun x hx => decide_eq_false (h x hx)]; rfl
theorem ct_le (v : Int) (xs : List Int) : countT v xs ≤ xs.length := by
  unfold countT
  have := List.length_filter_le (fun y => decide (y = v)) xs
  omega
theorem ct_rep (v : Int) (n : Nat) : countT v (List.replicate n v) = n := by
  unfold countT
  rw [filter_all fun x hx => decide_eq_true (List.mem_replicate.mp hx).2, List.length_replicate]
/-- no value more often than the greatest count -/
theorem Bks.ct_up {bs cs d : List Int} (h : Bks bs cs d) : Inc bs → ∀ v ∈ d, ∃ c ∈ cs, countT v d ≤ c := by
  induction h with
  | nil b => intro _ v hv; cases hv
  | @cons b b' r cs c ys zs hc hy h ih =>
    intro hi v hv
    obtain ⟨i1, i2⟩ := List.pairwise_cons.mp hi
    rw [ct_app]
    rcases List.mem_append.mp hv with m | m
    · refine ⟨c, List.mem_cons_self .., ?_⟩
      rw [ct_none (xs := zs) fun x hx => by
        have := h.ge i2 x hx b' rfl
        have := (hy v m).2
        omega]
      have := ct_le v ys
      omega
    · obtain ⟨c', hc', k⟩ := ih i2 v m
      refine ⟨c', List.mem_cons_of_mem _ hc', ?_⟩
      rw [ct_none (xs := ys) fun x hx => by
        have := h.ge i2 v m b' rfl
        have := (hy x hx).2
        omega]
      omega
/-- each count occurs in the least data -/
theorem low_ct : ∀ {bs cs : List Int}, cs.length ≤ bs.length → ∀ c ∈ cs, 0 < c → ∃ v ∈ fill bs cs, c ≤ countT v (fill bs cs)
  | bs, [], _, c, hc, _ => by cases hc
  | [], c :: cs, h, _, _, _ => by simp at h
  | b :: bs, c :: cs, h, c0, hc, h0 => by
    rcases List.mem_cons.mp hc with rfl | hc
    · refine ⟨b, ?_, ?_⟩
      · show b ∈ List.replicate c0.toNat b ++ fill bs cs
        exact List.mem_append_left _ (List.mem_replicate.mpr ⟨by omega, rfl⟩)
      · show c0 ≤ countT b (List.replicate c0.toNat b ++ fill bs cs)
        rw [ct_app, ct_rep]
        have := ct_nn b (fill bs cs)
        omega
    · obtain ⟨v, hv, k⟩ := low_ct (bs := bs) (cs := cs) (by simpa using h) c0 hc h0
      refine ⟨v, ?_, ?_⟩
      · show v ∈ List.replicate c.toNat b ++ fill bs cs
        exact List.mem_append_right _ hv
      · show c0 ≤ countT v (List.replicate c.toNat b ++ fill bs cs)
        rw [ct_app]
        have := ct_nn v (List.replicate c.toNat b)
        omega
/-- pigeons -/
theorem pig {M : Int} (hM : 0 ≤ M) : ∀ (w : Nat) (b : Int) (ys : List Int), (∀ y ∈ ys, b ≤ y ∧ y < b + w) → (∀ v ∈ ys, countT v ys ≤ M) → (ys.length : Int) ≤ w * M
  | 0, b, ys, h, _ => by
    cases ys with
    | nil => simp
    | cons y ys => have := h y (List.mem_cons_self ..); omega
  | w + 1, b, ys, h, k => by
    have ih := pig hM w (b + 1) (ys.filter fun y => !decide (y = b)) (fun y hy => by
      obtain ⟨m, n⟩ := List.mem_filter.mp hy
      have := h y m
      have n : y ≠ b := by simpa using n
      omega) fun v hv => by
      have := k v (List.mem_filter.mp hv).1
      have : countT v (ys.filter fun y => !decide (y = b)) ≤ countT v ys := by
        unfold countT
        rw [List.filter_filter]
        have : ((ys.filter fun a => decide (a = v) && !decide (a = b)).length : Nat) ≤ (ys.filter fun a => decide (a = v)).length := by
          rw [show (fun a : Int => decide (a = v) && !decide (a = b)) = fun a => (fun a => !decide (a = b)) a && (fun a => decide (a = v)) a from funext fun a => Bool.and_comm .., ← List.filter_filter]
          exact List.length_filter_le _ _
        omega
      omega
    have fs := filter_split (p := fun y => decide (y = b)) ys
    have cb : ((ys.filter fun y => decide (y = b)).length : Int) ≤ M := by
      by_cases m : b ∈ ys
      · exact k b m
      · rw [filter_none fun x hx => decide_eq_false fun (e : x = b) => m (e ▸ hx)]
        exact hM
    have e : ((w + 1 : Nat) : Int) * M = w * M + M := by rw [Int.natCast_add, Int.add_mul]; simp
    omega
/-- c values from b on, none more often than M times -/
def sp (M : Nat) : Int → Nat → Nat → List Int
  | _, 0, _ => []
  | b, w + 1, c => List.replicate (min M c) b ++ sp M (b + 1) w (c - min M c)
theorem sp_len {M : Nat} : ∀ {w c : Nat} {b : Int}, c ≤ w * M → (sp M b w c).length = c
  | 0, c, b, h => by
    have : c = 0 := by omega
    subst this; rfl
  | w + 1, c, b, h => by
    have e : (w + 1) * M = w * M + M := Nat.succ_mul w M
    show (List.replicate (min M c) b ++ sp M (b + 1) w (c - min M c)).length = c
    rw [List.length_append, List.length_replicate, sp_len (by omega)]
    omega
theorem sp_rg {M : Nat} : ∀ {w c : Nat} {b : Int}, ∀ x ∈ sp M b w c, b ≤ x ∧ x < b + w
  | 0, c, b, x, h => by cases h
  | w + 1, c, b, x, h => by
    rcases List.mem_append.mp (show x ∈ List.replicate (min M c) b ++ sp M (b + 1) w (c - min M c) from h) with m | m
    · have := (List.mem_replicate.mp m).2
      omega
    · have := sp_rg x m
      omega
theorem sp_asc {M : Nat} : ∀ {w c : Nat} {b : Int}, Asc (sp M b w c)
  | 0, c, b => List.Pairwise.nil
  | w + 1, c, b => by
    show Asc (List.replicate (min M c) b ++ sp M (b + 1) w (c - min M c))
    refine List.pairwise_append.mpr ⟨List.pairwise_replicate.mpr (.inr (Int.le_refl _)), sp_asc, fun x hx y hy => ?_⟩
    have := (List.mem_replicate.mp hx).2
    have := sp_rg y hy
    omega
theorem sp_ct {M : Nat} : ∀ {w c : Nat} {b : Int} (v : Int), countT v (sp M b w c) ≤ M
  | 0, c, b, v => by show countT v [] ≤ _; exact Int.natCast_nonneg _
  | w + 1, c, b, v => by
    show countT v (List.replicate (min M c) b ++ sp M (b + 1) w (c - min M c)) ≤ _
    rw [ct_app]
    by_cases e : b = v
    · subst e
      rw [ct_rep, ct_none (xs := sp M (b + 1) w (c - min M c)) fun x hx => by have := sp_rg x hx; omega]
      omega
    · rw [ct_none (xs := List.replicate (min M c) b) fun x hx => by rw [(List.mem_replicate.mp hx).2]; exact e]
      have := sp_ct (M := M) (w := w) (c := c - min M c) (b := b + 1) v
      omega
/-- data in which no value is more frequent than M -/
theorem even_ex {M : Nat} : ∀ {bs cs : List Int}, Inc bs → cs.length + 1 = bs.length → (∀ c ∈ cs, 0 ≤ c) → (∀ p ∈ cs.zip ((bs.zip bs.tail).map fun p => p.2 - p.1), p.1 ≤ p.2 * M) → ∃ d, Bks bs cs d ∧ Asc d ∧ ∀ v, countT v d ≤ M
  | [], cs, _, h, _, _ => by simp at h
  | [b], [], _, _, _, _ => ⟨[], .nil b, List.Pairwise.nil, fun v => Int.natCast_nonneg _⟩
  | [b], c :: cs, _, h, _, _ => by simp at h
  | b :: b' :: r, [], _, h, _, _ => by simp at h
  | b :: b' :: r, c :: cs, hi, hl, h0, hp => by
    obtain ⟨i1, i2⟩ := List.pairwise_cons.mp hi
    have ib := i1 b' (List.mem_cons_self ..)
    obtain ⟨d, hd, ha, hv⟩ := even_ex (M := M) (bs := b' :: r) (cs := cs) i2 (by simpa using hl) (fun x hx => h0 x (List.mem_cons_of_mem _ hx)) fun p hp' => hp p (List.mem_cons_of_mem _ hp')
    have hc : c ≤ (b' - b) * M := hp (c, b' - b) (List.mem_cons_self ..)
    have c0 := h0 c (List.mem_cons_self ..)
    obtain ⟨w, ew⟩ : ∃ w : Nat, b' - b = (w : Int) := ⟨(b' - b).toNat, by omega⟩
    obtain ⟨n, en⟩ : ∃ n : Nat, c = (n : Int) := ⟨c.toNat, by omega⟩
    subst en
    rw [ew] at hc
    have hn : n ≤ w * M := by
      have : ((w * M : Nat) : Int) = (w : Int) * M := Int.natCast_mul w M
      omega
    refine ⟨sp M b w n ++ d, .cons (by rw [sp_len hn]) (fun y hy => by have := sp_rg y hy; omega) hd, List.pairwise_append.mpr ⟨sp_asc, ha, fun x hx y hy => ?_⟩, fun v => ?_⟩
    · have := sp_rg x hx
      have := hd.ge i2 y hy b' rfl
      omega
    · rw [ct_app]
      by_cases q : v < b'
      · rw [ct_none (xs := d) fun x hx => by have := hd.ge i2 x hx b' rfl; omega]
        have := sp_ct (M := M) (w := w) (c := n) (b := b) v
        omega
      · rw [ct_none (xs := sp M b w n) fun x hx => by have := sp_rg x hx; omega]
        have := hv v
        omega
end Y
-- LM
set_option Elab.async false
set_option linter.all false
set_option maxRecDepth 100000
set_option maxHeartbeats 4000000
/-! LM: widths, moved and mirrored histograms, uncertainties, the least loss. -/
namespace Y
open PL
variable {α β γ σ ρ τ : Type}
def wid (h : Hst) : List Int := (h.1.zip h.1.tail).map fun p => p.2 - p.1
theorem wid_pos {h : Hst} (g : GH h) : ∀ p ∈ h.2.zip (wid h), 0 < p.2 ∧ p.2 ≤ 1000 ∧ 0 ≤ p.1 ∧ p.1 ≤ 60 := fun p hp => by
  have m := List.of_mem_zip hp
  obtain ⟨q, hq, e⟩ := List.mem_map.mp m.2
  have mq := List.of_mem_zip hq
  have r1 := g.rg _ mq.1
  have r2 := g.rg _ (List.mem_of_mem_tail mq.2)
  have z : q.1 < q.2 := by
    have := zip_inc.mpr g.inc
    rw [List.all_eq_true] at this
    exact of_decide_eq_true (this q hq)
  have := g.cr _ m.1
  omega
theorem most_ok {h : Hst} (g : GH h) (hs : 0 < h.2.sum) : ∃ l u, most_equal_h h = .ok (l, u) ∧ (∃ p ∈ h.2.zip (wid h), l = (p.1 + p.2 - 1) / p.2) ∧ (∀ p ∈ h.2.zip (wid h), (p.1 + p.2 - 1) / p.2 ≤ l) ∧ u ∈ h.2 ∧ ∀ c ∈ h.2, c ≤ u := by
  have gl := g.len
  have g2 := g.n2
  have n12 := g.n12
  have lw : (wid h).length + 1 = h.1.length := by unfold wid; rw [List.length_map, List.length_zip, List.length_tail]; omega
  have n2 : h.2 ≠ [] := fun z => by rw [z] at gl; simp at gl; omega
  have nz : ((h.2.zip (wid h)).map fun p => (p.1 + p.2 - 1) / p.2) ≠ [] := fun z => by
    have := congrArg List.length z
    rw [List.length_map, List.length_zip, List.length_nil] at this
    omega
  obtain ⟨l, e1, m1, u1⟩ := maxT_ok nz
  obtain ⟨u, e2, m2, u2⟩ := maxT_ok n2
  refine ⟨l, u, ?_, ?_, fun p hp => u1 _ (List.mem_map.mpr ⟨p, hp, rfl⟩), m2, u2⟩
  · unfold most_equal_h
    rw [filled_chk g hs, rb_ok, rb_ok, rb_ok, rb_ok, cut_1, lenT_ok (by rw [List.length_map, List.length_zip, List.length_tail]; omega), rb_ok]
    rw [rb_ok, rb_ok, rb_ok, mapR_ok (xs := h.2.zip ((h.1.zip h.1.tail).map fun p3 : Int × Int => (p3.2 - p3.1))) (g := fun p => (p.1 + p.2 - 1) / p.2) fun p hp => fdivT_ok (wid_pos g p hp).1 (by have := (wid_pos g p hp).2; omega), rb_ok, lenT_ok (by rw [List.length_map, List.length_zip]; omega), rb_ok]
    rw [show ((h.2.zip ((h.1.zip h.1.tail).map fun p3 : Int × Int => (p3.2 - p3.1))).map fun p => (p.1 + p.2 - 1) / p.2) = ((h.2.zip (wid h)).map fun p => (p.1 + p.2 - 1) / p.2) from rfl, e1, rb_ok, e2, rb_ok]
  · obtain ⟨p, hp, e⟩ := List.mem_map.mp m1
    exact ⟨p, hp, e.symm⟩
/-! ### moved -/
def mv (k : Int) (h : Hst) : Hst := (h.1.map (· + k), h.2)
theorem mv_gh {h : Hst} (g : GH h) {k : Int} (h0 : 0 ≤ k) (hk : ∀ b ∈ h.1, b + k ≤ 1000) : GH (mv k h) :=
  ⟨by
    show Inc (h.1.map (· + k))
    rw [Inc, List.pairwise_map]
    exact g.inc.imp fun h => by omega, by show 2 ≤ (h.1.map (· + k)).length; rw [List.length_map]; exact g.n2, by show (h.1.map (· + k)).length ≤ 12; rw [List.length_map]; exact g.n12, fun b hb => by
    obtain ⟨a, ha, rfl⟩ := List.mem_map.mp (show b ∈ h.1.map (· + k) from hb)
    have := g.rg a ha
    have := hk a ha
    omega, by show h.2.length + 1 = (h.1.map (· + k)).length; rw [List.length_map]; exact g.len, g.cr, g.sm⟩
theorem mv_low (k : Int) (h : Hst) : low (mv k h) = (low h).map (· + k) := fill_add k
theorem mv_high (k : Int) (h : Hst) : high (mv k h) = (high h).map (· + k) := by
  unfold high mv
  show fill ((h.1.map (· + k)).tail.map (· - 1)) h.2 = _
  rw [← fill_add k, ← List.map_tail, List.map_map, List.map_map]
  congr 1
  apply List.map_congr_left
  intro x _
  show x + k - 1 = x - 1 + k
  omega
theorem mv_wid (k : Int) (h : Hst) : wid (mv k h) = wid h := by
  unfold wid mv
  show ((h.1.map (· + k)).zip (h.1.map (· + k)).tail).map (fun p => p.2 - p.1) = _
  rw [← List.map_tail, List.zip_map, List.map_map]
  apply List.map_congr_left
  intro p _
  show p.2 + k - (p.1 + k) = p.2 - p.1
  omega
theorem less_add (v k : Int) (xs : List Int) : less (v + k) (xs.map (· + k)) = less v xs := by
  unfold less
  rw [List.filter_map, List.length_map]
  congr 2
  apply List.filter_congr
  intro x _
  show decide (x + k < v + k) = decide (x < v)
  exact decide_eq_decide.mpr ⟨fun h => by omega, fun h => by omega⟩
theorem getD_add {k : Int} {xs : List Int} {i : Nat} (h : i < xs.length) : (xs.map (· + k)).getD i 0 = xs.getD i 0 + k := by
  rw [gd (by rw [List.length_map]; exact h), gd h, List.getElem_map]
/-! ### mirrored -/
theorem fill_map (f : Int → Int) : ∀ {vs cs : List Int}, fill (vs.map f) cs = (fill vs cs).map f
  | vs, [] => by rw [fill_nil2, fill_nil2]; rfl
  | [], c :: cs => by rw [List.map_nil, fill_nil]; rfl
  | v :: vs, c :: cs => by
    show List.replicate c.toNat (f v) ++ fill (vs.map f) cs = (List.replicate c.toNat v ++ fill vs cs).map f
    rw [fill_map f, List.map_append, List.map_replicate]
theorem fill_app : ∀ {vs cs : List Int} (ws ds : List Int), vs.length = cs.length → fill (vs ++ ws) (cs ++ ds) = fill vs cs ++ fill ws ds
  | [], [], ws, ds, _ => by rw [fill_nil]; rfl
  | [], c :: cs, _, _, h => by simp at h
  | v :: vs, [], _, _, h => by simp at h
  | v :: vs, c :: cs, ws, ds, h => by
    show List.replicate c.toNat v ++ fill (vs ++ ws) (cs ++ ds) = (List.replicate c.toNat v ++ fill vs cs) ++ fill ws ds
    rw [fill_app ws ds (by simpa using h), List.append_assoc]
theorem fill_rev : ∀ {vs cs : List Int}, vs.length = cs.length → fill vs.reverse cs.reverse = (fill vs cs).reverse
  | [], [], _ => rfl
  | [], c :: cs, h => by simp at h
  | v :: vs, [], h => by simp at h
  | v :: vs, c :: cs, h => by
    have h : vs.length = cs.length := by simpa using h
    rw [List.reverse_cons, List.reverse_cons, fill_app _ _ (by simpa using h), fill_rev h]
    show _ ++ (List.replicate c.toNat v ++ fill [] []) = (List.replicate c.toNat v ++ fill vs cs).reverse
    rw [fill_nil, List.append_nil, List.reverse_append, List.reverse_replicate]
theorem fill_more (vs ws cs : List Int) (h : vs.length = cs.length) : fill (vs ++ ws) cs = fill vs cs := by
  have := fill_app (vs := vs) (cs := cs) ws [] h
  rw [List.append_nil, fill_nil2, List.append_nil] at this
  exact this
def mr (h : Hst) : Hst := (h.1.reverse.map (1000 - ·), h.2.reverse)
theorem mr_gh {h : Hst} (g : GH h) : GH (mr h) :=
  ⟨by
    show Inc (h.1.reverse.map (1000 - ·))
    rw [Inc, List.pairwise_map, List.pairwise_reverse]
    exact g.inc.imp fun h => by omega, by show 2 ≤ (h.1.reverse.map (1000 - ·)).length; rw [List.length_map, List.length_reverse]; exact g.n2, by show (h.1.reverse.map (1000 - ·)).length ≤ 12; rw [List.length_map, List.length_reverse]; exact g.n12, fun b hb => by
    obtain ⟨a, ha, rfl⟩ := List.mem_map.mp (show b ∈ h.1.reverse.map (1000 - ·) from hb)
    have := g.rg a (List.mem_reverse.mp ha)
    omega, by show h.2.reverse.length + 1 = (h.1.reverse.map (1000 - ·)).length; rw [List.length_map, List.length_reverse, List.length_reverse]; exact g.len, fun c hc => g.cr c (List.mem_reverse.mp hc), by
    show h.2.reverse.sum ≤ 200
    rw [List.sum_reverse]; exact g.sm⟩
theorem mr_low {h : Hst} (g : GH h) : low (mr h) = ((high h).map (999 - ·)).reverse := by
  have gl := g.len
  obtain ⟨b, r, e⟩ : ∃ b r, h.1 = b :: r := by
    cases q : h.1 with
    | nil => exact absurd q g.ne
    | cons b r => exact ⟨b, r, rfl⟩
  unfold low mr high
  show fill (h.1.reverse.map (1000 - ·)) h.2.reverse = _
  rw [e] at gl ⊢
  simp only [List.length_cons] at gl
  rw [List.reverse_cons, List.map_append, fill_more _ _ _ (by rw [List.length_map, List.length_reverse, List.length_reverse]; omega), List.map_reverse, fill_rev (by rw [List.length_map]; omega), ← fill_map, List.tail_cons, List.map_map]
  congr 2
  apply List.map_congr_left
  intro x _
  show 1000 - x = 999 - (x - 1)
  omega
theorem mr_high {h : Hst} (g : GH h) : high (mr h) = ((low h).map (999 - ·)).reverse := by
  have gl := g.len
  have e := List.dropLast_concat_getLast g.ne
  unfold low mr high
  show fill ((h.1.reverse.map (1000 - ·)).tail.map (· - 1)) h.2.reverse = _
  generalize h.1.getLast g.ne = z at e
  generalize h.1.dropLast = l at e
  rw [← e] at gl ⊢
  rw [List.length_append, List.length_singleton] at gl
  rw [List.reverse_append]
  show fill ((l.reverse.map (1000 - ·)).map (· - 1)) h.2.reverse = _
  rw [List.map_map, fill_more l [z] h.2 (by omega), ← fill_map, List.map_reverse, fill_rev (by rw [List.length_map]; omega)]
  congr 2
  apply List.map_congr_left
  intro x _
  show 1000 - x - 1 = 999 - x
  omega
theorem getD_mr {xs : List Int} {i j : Nat} (h : i + j + 1 = xs.length) : ((xs.map (999 - ·)).reverse).getD i 0 = 999 - xs.getD j 0 := by
  rw [gd (by rw [List.length_reverse, List.length_map]; omega), gd (by omega), List.getElem_reverse, List.getElem_map]
  congr 2
  rw [List.length_map]; omega
theorem sum_mr : ∀ xs : List Int, ((xs.map (999 - ·)).reverse).sum = 999 * xs.length - xs.sum := fun xs => by
  rw [List.sum_reverse]
  induction xs with
  | nil => rfl
  | cons x xs ih =>
    rw [List.map_cons, List.sum_cons, List.sum_cons, ih, List.length_cons]
    omega
theorem less_mr (v : Int) (xs : List Int) : less (1000 - v) ((xs.map (999 - ·)).reverse) = xs.length - less v xs := by
  unfold less
  rw [List.filter_reverse, List.length_reverse, List.filter_map, List.length_map]
  have e : (xs.filter ((fun x => decide (x < 1000 - v)) ∘ fun x => 999 - x)) = xs.filter fun x => !decide (x < v) := by
    apply List.filter_congr
    intro x _
    show decide (999 - x < 1000 - v) = !decide (x < v)
    by_cases h : x < v
    · rw [decide_eq_true h, decide_eq_false (by omega)]; rfl
    · rw [decide_eq_false h, decide_eq_true (by omega)]; rfl
  rw [e]
  have := filter_split (p := fun x => decide (x < v)) xs
  omega
theorem wid_len {h : Hst} (g : GH h) : (wid h).length = h.2.length := by
  have := g.len
  unfold wid
  rw [List.length_map, List.length_zip, List.length_tail]; omega
theorem wid_gd {h : Hst} {i : Nat} (hi : i + 1 < h.1.length) : (wid h).getD i 0 = h.1.getD (i + 1) 0 - h.1.getD i 0 := by
  unfold wid
  rw [gd (by rw [List.length_map, List.length_zip, List.length_tail]; omega), gd hi, gd (by omega)]
  simp
theorem mr_gd {h : Hst} {j : Nat} (hj : j < h.1.length) : (mr h).1.getD j 0 = 1000 - h.1.getD (h.1.length - 1 - j) 0 := by
  show (h.1.reverse.map (1000 - ·)).getD j 0 = _
  rw [gd (by rw [List.length_map, List.length_reverse]; exact hj), gd (by omega), List.getElem_map, List.getElem_reverse]
theorem rev_gd {xs : List Int} {i : Nat} (h : i < xs.length) : xs.reverse.getD i 0 = xs.getD (xs.length - 1 - i) 0 := by
  rw [gd (by rw [List.length_reverse]; exact h), gd (by omega), List.getElem_reverse]
theorem ext_gd {xs ys : List Int} (hl : xs.length = ys.length) (h : ∀ i, i < xs.length → xs.getD i 0 = ys.getD i 0) : xs = ys := by
  apply List.ext_getElem hl
  intro i h1 h2
  have := h i h1
  rw [gd h1, gd h2] at this
  exact this
theorem mr_wid {h : Hst} (g : GH h) : wid (mr h) = (wid h).reverse := by
  have l1 := wid_len g
  have l2 := wid_len (mr_gh g)
  have gl := g.len
  have e1 : (mr h).1.length = h.1.length := by
    show (h.1.reverse.map (1000 - ·)).length = _
    rw [List.length_map, List.length_reverse]
  have e2 : (mr h).2.length = h.2.length := List.length_reverse
  refine ext_gd (by rw [List.length_reverse]; omega) fun i h1 => ?_
  rw [wid_gd (by omega), rev_gd (by omega), wid_gd (by omega), mr_gd (by omega), mr_gd (by omega)]
  rw [show h.1.length - 1 - (i + 1) = (wid h).length - 1 - i by omega, show h.1.length - 1 - i = (wid h).length - 1 - i + 1 by omega]
  omega
theorem rev_zip : ∀ {xs ys : List α}, xs.length = ys.length → xs.reverse.zip ys.reverse = (xs.zip ys).reverse
  | [], [], _ => rfl
  | [], _ :: _, h => by simp at h
  | _ :: _, [], h => by simp at h
  | x :: xs, y :: ys, h => by
    have h : xs.length = ys.length := by simpa using h
    rw [List.reverse_cons, List.reverse_cons, List.zip_append (by simpa using h), rev_zip h]
    show _ = ((x, y) :: xs.zip ys).reverse
    rw [List.reverse_cons]; rfl
theorem zip_rev {xs ys : List α} (h : xs.length = ys.length) (p : α × α) : p ∈ xs.reverse.zip ys.reverse ↔ p ∈ xs.zip ys := by
  rw [rev_zip h, List.mem_reverse]
theorem map_erase (f : α → β) (l : List α) (i : Nat) : (l.map f).eraseIdx i = (l.eraseIdx i).map f := by
  rw [List.eraseIdx_eq_take_drop_succ, List.eraseIdx_eq_take_drop_succ, List.map_append, List.map_take, List.map_drop]
theorem most_same {h t : Hst} (g : GH h) (gt : GH t) (hs : 0 < h.2.sum) (ts : 0 < t.2.sum) (e1 : ∀ p, p ∈ h.2.zip (wid h) ↔ p ∈ t.2.zip (wid t)) (e2 : ∀ c, c ∈ h.2 ↔ c ∈ t.2) : most_equal_h t = most_equal_h h := by
  obtain ⟨l, u, q1, ⟨p, hp, ep⟩, q3, q4, q5⟩ := most_ok g hs
  obtain ⟨l', u', r1, ⟨p', hp', ep'⟩, r3, r4, r5⟩ := most_ok gt ts
  rw [q1, r1]
  have := q3 p' ((e1 p').mpr hp')
  have := r3 p ((e1 p).mp hp)
  have := q5 u' ((e2 u').mpr r4)
  have := r5 u ((e2 u).mp q4)
  have e3 : l' = l := by omega
  have e4 : u' = u := by omega
  rw [e3, e4]
/-! ### uncertainty -/
def wsum : List Int → List Int → Int
  | b :: b' :: r, c :: cs => c * (b' - 1 - b) + wsum (b' :: r) cs
  | _, _ => 0
theorem rep_sum (n : Nat) (v : Int) : (List.replicate n v).sum = n * v := by
  induction n with
  | zero => simp
  | succ n ih =>
    rw [List.replicate_succ, List.sum_cons, ih, Int.natCast_add, Int.add_mul]
    simp
    omega
theorem wsum_eq : ∀ {bs cs : List Int}, cs.length + 1 = bs.length → (∀ c ∈ cs, 0 ≤ c) → (fill (bs.tail.map (· - 1)) cs).sum - (fill bs cs).sum = wsum bs cs
  | [], cs, h, _ => by simp at h
  | [b], [], _, _ => rfl
  | [b], c :: cs, h, _ => by simp at h
  | b :: b' :: r, [], h, _ => by simp at h
  | b :: b' :: r, c :: cs, h, hc => by
    have ih := wsum_eq (bs := b' :: r) (cs := cs) (by simpa using h) fun x hx => hc x (List.mem_cons_of_mem _ hx)
    have h0 := hc c (List.mem_cons_self ..)
    show (List.replicate c.toNat (b' - 1) ++ fill (r.map (· - 1)) cs).sum - (List.replicate c.toNat b ++ fill (b' :: r) cs).sum = c * (b' - 1 - b) + wsum (b' :: r) cs
    rw [List.sum_append, List.sum_append, rep_sum, rep_sum, ← ih]
    have e : ((c.toNat : Nat) : Int) = c := by omega
    have q : c * (b' - 1 - b) = c * (b' - 1) - c * b := Int.mul_sub ..
    rw [e, q]
    show _ = _ + ((fill (r.map (· - 1)) cs).sum - (fill (b' :: r) cs).sum)
    omega
theorem wsum_add (k : Int) : ∀ (bs cs : List Int), wsum (bs.map (· + k)) cs = wsum bs cs
  | [], _ => rfl
  | [b], [] => rfl
  | [b], c :: cs => rfl
  | b :: b' :: r, [] => rfl
  | b :: b' :: r, c :: cs => by
    show c * (b' + k - 1 - (b + k)) + wsum ((b' :: r).map (· + k)) cs = _
    rw [wsum_add k (b' :: r) cs, show b' + k - 1 - (b + k) = b' - 1 - b by omega]; rfl
theorem looseness_ok {h : Hst} (g : GH h) : looseness_h h = .ok (wsum h.1 h.2) := by
  unfold looseness_h
  rw [find_sums_ok g, rb_ok]
  congr 1
  exact wsum_eq g.len g.c0
theorem cnts_add (k : Int) (bs xs : List Int) : cnts (bs.map (· + k)) (xs.map (· + k)) = cnts bs xs := by
  unfold cnts
  rw [← List.map_tail, List.zip_map, List.map_map]
  apply List.map_congr_left
  intro p _
  show (((xs.map (· + k)).filter (inb (p.1 + k) (p.2 + k))).length : Int) = _
  rw [List.filter_map, List.length_map]
  congr 2
  apply List.filter_congr
  intro x _
  show inb (p.1 + k) (p.2 + k) (x + k) = inb p.1 p.2 x
  unfold inb
  congr 1 <;> exact decide_eq_decide.mpr ⟨fun h => by omega, fun h => by omega⟩
/-! ### the least loss -/
/-- a histogram with few of the borders, the first and the last among them -/
theorem fold_gh {h : Hst} (g : GH h) {co : List Int} (gc : GB co) (e1 : ∃ a ∈ co, ∀ b ∈ h.1, a ≤ b) (e2 : ∃ a ∈ co, ∀ b ∈ h.1, b ≤ a) (s60 : h.2.sum ≤ 60) : GH (co, cnts co (low h)) := by
  have gl := g.len
  have g2 := g.n2
  have c2 := gc.n2
  have fl : Bks co (cnts co (low h)) (low h) := by
    have hd := has_low g
    obtain ⟨a, ha, ha2⟩ := e1
    obtain ⟨z, hz, hz2⟩ := e2
    refine Bks.full gc.inc (fun e => by rw [e] at c2; simp at c2) hd.asc (fun x hx => ⟨a, ha, ?_⟩) fun x hx => ⟨z, hz, ?_⟩
    · have h0 : 0 < h.1.length := by omega
      have := hd.b.ge g.inc x hx h.1[0] (by rw [List.head?_eq_getElem?, List.getElem?_eq_getElem h0]; rfl)
      have := ha2 _ (List.getElem_mem h0)
      omega
    · have := hd.b.lt g.inc x hx (h.1.getLast g.ne) (by rw [List.getLast?_eq_some_getLast g.ne]; rfl)
      have := hz2 _ (List.getLast_mem g.ne)
      omega
  have ln := low_len g
  have full := fl.len
  refine ⟨gc.inc, gc.n2, gc.n12, gc.rg, by show (cnts co (low h)).length + 1 = co.length; rw [cnts_len]; omega, fun c hc => ?_, by show (cnts co (low h)).sum ≤ 200; omega⟩
  refine ⟨cnts_nn _ _ c hc, ?_⟩
  have hc : c ∈ cnts co (low h) := hc
  unfold cnts at hc
  obtain ⟨p, _, rfl⟩ := List.mem_map.mp hc
  have : ((low h).filter (inb p.1 p.2)).length ≤ (low h).length := List.length_filter_le _ _
  omega
theorem max60 {h : Hst} (g : GH h) : ∃ m, maxT h.2 = .ok m ∧ m ≤ 60 := by
  have gl := g.len
  have g2 := g.n2
  obtain ⟨m, em, hm, _⟩ := maxT_ok (xs := h.2) (fun e => by rw [e] at gl; simp at gl; omega)
  exact ⟨m, em, (g.cr m hm).2⟩
/-- the borders without one inner border -/
theorem erase_gb {h : Hst} (g : GH h) {i : Nat} (h1 : 1 ≤ i) (h2 : i + 1 < h.1.length) : GB (h.1.eraseIdx i) ∧ (∀ b ∈ h.1.eraseIdx i, b ∈ h.1) ∧ (∃ a ∈ h.1.eraseIdx i, ∀ b ∈ h.1, a ≤ b) ∧ ∃ a ∈ h.1.eraseIdx i, ∀ b ∈ h.1, b ≤ a := by
  have sub := List.eraseIdx_sublist h.1 i
  have n12 := g.n12
  have ln : (h.1.eraseIdx i).length = h.1.length - 1 := List.length_eraseIdx_of_lt (by omega)
  refine ⟨⟨g.inc.sublist sub, by omega, by omega, fun b hb => g.rg b (sub.subset hb)⟩, fun b hb => sub.subset hb, ⟨h.1[0]'(by omega), ?_, fun b hb => ?_⟩, ⟨h.1[h.1.length - 1]'(by omega), ?_, fun b hb => ?_⟩⟩
  · rw [List.mem_iff_getElem]
    refine ⟨0, by omega, ?_⟩
    rw [List.getElem_eraseIdx_of_lt _ (by omega)]
  · obtain ⟨j, hj, rfl⟩ := List.mem_iff_getElem.mp hb
    by_cases c : j = 0
    · subst c; exact Int.le_refl _
    · exact Int.le_of_lt (inc_get g.inc (by omega) hj)
  · rw [List.mem_iff_getElem]
    refine ⟨h.1.length - 2, by omega, ?_⟩
    rw [List.getElem_eraseIdx_of_ge _ (by omega)]
    exact getElem_congr_idx (by omega)
  · obtain ⟨j, hj, rfl⟩ := List.mem_iff_getElem.mp hb
    by_cases c : j = h.1.length - 1
    · subst c; exact Int.le_refl _
    · exact Int.le_of_lt (inc_get g.inc (by omega) (by omega))
def lossAt (h : Hst) (i : Nat) : Int := wsum (h.1.eraseIdx i) (cnts (h.1.eraseIdx i) (low h)) - wsum h.1 h.2
def lossL (h : Hst) : List (Int × Int) := (List.range (h.1.length - 2)).map fun i => (lossAt h (i + 1), ((i + 1 : Nat) : Int))
theorem mem_rangeI' {lo : Int} {n : Nat} : rangeI lo (lo + n) = (List.range n).map fun i : Nat => lo + (i : Int) := by
  unfold rangeI
  rw [show (lo + (n : Int) - lo).toNat = n by omega]
theorem least_loss_ok {h : Hst} (g : GH h) (s60 : h.2.sum ≤ 60) : least_loss_h h = (if (!decide (lossL h = [])) = true then ((minO ltII (lossL h)).rb fun x16 => Res.ok (x16.2, x16.1)).rb fun x17 => Res.ok (some x17) else Res.ok none) := by
  have g2 := g.n2
  have g12 := g.n12
  unfold least_loss_h
  rw [g.chk, rb_ok, rb_ok, rb_ok, rngT_ok (by omega) (by omega) (by omega) (by omega), rb_ok]
  obtain ⟨s, hf, e⟩ := forT_inv (σ := List (Int × Int)) (ρ := Option (Int × Int)) (xs := rangeI 1 ((h.1.length : Int) - 1)) (k := 0) (s := []) (f := fun (s3 : List (Int × Int)) (index4 : Int) =>
  ((appT (cut h.1 none (some index4)) (cut h.1 (some (index4 + 1)) none)).rb fun x5 => merged_h_ti h x5).rb fun coarse6 =>
  ((maxT coarse6.2).rb fun x7 => Res.ok (decide (x7 ≤ 60))).rb fun c13 =>
  if c13 = true then
  (((looseness_h coarse6).rb fun x8 => (looseness_h h).rb fun x9 => Res.ok (x8 - x9)).rb fun x10 => Res.ok (x10, index4)).rb fun x12 => (pushT s3 x12).rb fun found11 =>
  Res.ok (.nx (found11))
  else
  Res.ok (.nx (s3))) (fun k s => s = (List.range k).map fun i => (lossAt h (i + 1), ((i + 1 : Nat) : Int))) rfl (fun i hi s hs => by
    rw [rangeI_len] at hi
    rw [Nat.zero_add] at hs
    subst hs
    rw [rangeI_get (by rw [rangeI_len]; exact hi)]
    obtain ⟨e1, e2, e3, e4⟩ := erase_gb g (i := i + 1) (by omega) (by omega)
    have ec : cut h.1 none (some (1 + (i : Int))) ++ cut h.1 (some (1 + (i : Int) + 1)) none = h.1.eraseIdx (i + 1) := by
      rw [show (1 + (i : Int)) = ((i + 1 : Nat) : Int) by omega, show (((i + 1 : Nat) : Int) + 1) = ((i + 2 : Nat) : Int) by omega, cut_hi, cut_lo, List.eraseIdx_eq_take_drop_succ]
    have gf := fold_gh g e1 e3 e4 s60
    obtain ⟨m, em, hm⟩ := max60 gf
    have lc : (cut h.1 none (some (1 + (i : Int)))).length + (cut h.1 (some (1 + (i : Int) + 1)) none).length ≤ 1000000 := by
      have := congrArg List.length ec
      rw [List.length_append] at this
      have := e1.n12
      omega
    refine ⟨_, ?_, rfl⟩
    rw [appT_ok lc, rb_ok, ec, merged_ok g e1 e2 (has_low g), rb_ok]
    dsimp only at em ⊢
    rw [em, rb_ok, rb_ok, if_pos (by simpa using hm), looseness_ok gf, rb_ok, looseness_ok g, rb_ok, rb_ok, rb_ok, pushT_ok (by rw [List.length_map, List.length_range]; omega), rb_ok, Nat.zero_add, List.range_succ, List.map_append]
    congr 4
    show (wsum (h.1.eraseIdx (i + 1)) (cnts (h.1.eraseIdx (i + 1)) (low h)) - wsum h.1 h.2, 1 + (i : Int)) = (lossAt h (i + 1), ((i + 1 : Nat) : Int))
    rw [show (1 + (i : Int)) = ((i + 1 : Nat) : Int) by omega]; rfl)
  rw [rangeI_len, Nat.zero_add, show ((h.1.length : Int) - 1 - 1).toNat = h.1.length - 2 by omega] at e
  rw [hf, rb_ok, after_nx, e]; rfl
theorem mv_loss (k : Int) (h : Hst) : lossL (mv k h) = lossL h := by
  unfold lossL
  show (List.range ((h.1.map (· + k)).length - 2)).map _ = _
  rw [List.length_map]
  apply List.map_congr_left
  intro i _
  have e : lossAt (mv k h) (i + 1) = lossAt h (i + 1) := by
    unfold lossAt
    rw [mv_low]
    show wsum ((h.1.map (· + k)).eraseIdx (i + 1)) (cnts ((h.1.map (· + k)).eraseIdx (i + 1)) ((low h).map (· + k))) - wsum (h.1.map (· + k)) h.2 = _
    rw [map_erase, cnts_add, wsum_add, wsum_add]
  rw [e]
end Y
-- LN
set_option Elab.async false
set_option linter.all false
set_option maxRecDepth 100000
set_option maxHeartbeats 4000000
/-! LN: all coarser borders, the first of the least, the fewest borders. -/
namespace Y
open PL
variable {α β γ σ ρ τ : Type}
/-! ### subsets -/
def subsOf : List Int → List (List Int) → List (List Int)
  | [], s => s
  | b :: r, s => subsOf r (s ++ s.map (· ++ [b]))
theorem subs_loop : ∀ (mid : List Int) (s : List (List Int)), (∀ p ∈ s, p.length + mid.length ≤ 100) → s.length * 2 ^ mid.length ≤ 100000 → forT (ρ := ρ) (fun (s1 : List (List Int)) (border2 : Int) =>
  (((Res.ok s1).rb fun w4 => (mapR (fun inner3 : List Int => appT inner3 [border2]) w4).rb lenT).rb fun x5 => appT s1 x5).rb fun found6 =>
  Res.ok (.nx (found6))) mid s = .ok (.nx (subsOf mid s))
  | [], s, _, _ => rfl
  | b :: r, s, h1, h2 => by
    have hp : 0 < 2 ^ r.length := Nat.pow_pos (by omega)
    have e2 : s.length * 2 ^ (b :: r).length = (s.length + s.length) * 2 ^ r.length := by
      rw [List.length_cons, Nat.pow_succ, Nat.add_mul, ← Nat.mul_assoc]; omega
    rw [e2] at h2
    have h3 : s.length + s.length ≤ 100000 := Nat.le_trans (Nat.le_mul_of_pos_right _ hp) h2
    rw [forT_cons (s' := s ++ s.map (· ++ [b])), subs_loop r _ (fun p hp => ?_) (by rw [List.length_append, List.length_map]; exact h2)]
    · rfl
    · rcases List.mem_append.mp hp with hp | hp
      · have := h1 p hp
        rw [List.length_cons] at this
        omega
      · obtain ⟨q, hq, rfl⟩ := List.mem_map.mp hp
        have := h1 q hq
        rw [List.length_cons] at this
        rw [List.length_append, List.length_singleton]
        omega
    · rw [rb_ok, mapR_ok (g := fun p => p ++ [b]) (fun p hp => appT_ok (by have := h1 p hp; rw [List.length_cons] at this; simp; omega)), rb_ok, lenT_ok (by rw [List.length_map]; omega), rb_ok, appT_ok (by rw [List.length_map]; omega), rb_ok]
theorem subs_mem : ∀ (mid : List Int) (s : List (List Int)) (p : List Int), p ∈ subsOf mid s → ∃ q ∈ s, ∃ t : List Int, t.Sublist mid ∧ p = q ++ t
  | [], s, p, h => ⟨p, h, [], .slnil, by rw [List.append_nil]⟩
  | b :: r, s, p, h => by
    obtain ⟨q, hq, t, ht, rfl⟩ := subs_mem r _ p h
    rcases List.mem_append.mp hq with hq | hq
    · exact ⟨q, hq, t, ht.cons b, rfl⟩
    · obtain ⟨q', hq', rfl⟩ := List.mem_map.mp hq
      exact ⟨q', hq', b :: t, ht.cons_cons b, by rw [List.append_assoc]; rfl⟩
theorem subs_len : ∀ (mid : List Int) (s : List (List Int)), (subsOf mid s).length = s.length * 2 ^ mid.length
  | [], s => by rw [List.length_nil, Nat.pow_zero, Nat.mul_one]; rfl
  | b :: r, s => by
    show (subsOf r (s ++ s.map (· ++ [b]))).length = _
    rw [subs_len r, List.length_append, List.length_map, List.length_cons, Nat.pow_succ, Nat.add_mul, ← Nat.mul_assoc]; omega
theorem two_pow {n : Nat} (h : n ≤ 10) : 2 ^ n ≤ 1024 := by
  have : (2 : Nat) ^ n ≤ 2 ^ 10 := Nat.pow_le_pow_right (by omega) h
  omega
def rowsOf (a : Int) (mid : List Int) (z : Int) : List (Int × List Int) := sortO ltIT ((subsOf mid [[]]).map fun p => ((p.length : Int), [a] ++ p ++ [z]))
theorem sortO_mem {lt : α → α → Bool} {xs : List α} {x : α} : x ∈ sortO lt xs ↔ x ∈ xs := (List.mergeSort_perm xs _).mem_iff
theorem sortO_len {lt : α → α → Bool} {xs : List α} : (sortO lt xs).length = xs.length := List.length_mergeSort _
theorem rows_len {a z : Int} {mid : List Int} (h : mid.length ≤ 10) : (rowsOf a mid z).length ≤ 1024 := by
  unfold rowsOf
  rw [sortO_len, List.length_map, subs_len]
  have := two_pow h
  simp
  omega
theorem rows_raw {a z : Int} {mid : List Int} (h : mid.length ≤ 10) : (((Res.ok (subsOf mid [[]])).rb fun w11 => (mapR (fun inner8 : List Int => ((appT [a] inner8).rb fun x9 => appT x9 [z]).rb fun x10 => Res.ok ((inner8.length : Int), x10)) w11).rb lenT).rb fun x12 => Res.ok (sortO ltIT x12)) = .ok (rowsOf a mid z) := by
  have l1 := subs_len mid [[]]
  have l2 := two_pow h
  rw [rb_ok, mapR_ok (g := fun p => ((p.length : Int), [a] ++ p ++ [z])) fun p hp => ?_, rb_ok, lenT_ok (by rw [List.length_map, l1]; simp; omega), rb_ok]
  · rfl
  · obtain ⟨q, hq, t, ht, rfl⟩ := subs_mem _ _ _ hp
    have e := List.mem_singleton.mp hq
    subst e
    have := ht.length_le
    rw [appT_ok (by simp; omega), rb_ok, appT_ok (by simp; omega), rb_ok]
theorem all_coarser_ok {a z : Int} {mid : List Int} (h : mid.length ≤ 10) : all_coarser_ti (a :: (mid ++ [z])) = .ok ((rowsOf a mid z).map fun p => p.2) := by
  unfold all_coarser_ti
  have e1 : (a :: (mid ++ [z])).tail.dropLast = mid := by simp
  have e2 : cut (a :: (mid ++ [z])) (some (-1)) none = [z] := by rw [cut_m1 (by simp), getLast_3]
  rw [rb_ok, cut_1m1, e1, subs_loop mid [[]] (fun p hp => by have e := List.mem_singleton.mp hp; subst e; simp; omega) (by have := two_pow h; simp; omega), rb_ok, after_nx, e2, cut_n1, rows_raw h, rb_ok, rb_ok, lenT_ok (by rw [List.length_map]; have := rows_len (a := a) (z := z) h; omega)]
/-- each row: few of the borders -/
theorem row_ok {h : Hst} (g : GH h) {a z : Int} {mid : List Int} (e : h.1 = a :: (mid ++ [z])) {p : Int × List Int} (hp : p ∈ rowsOf a mid z) : GB p.2 ∧ (∀ b ∈ p.2, b ∈ h.1) ∧ (∃ a ∈ p.2, ∀ b ∈ h.1, a ≤ b) ∧ ∃ a ∈ p.2, ∀ b ∈ h.1, b ≤ a := by
  obtain ⟨q, hq, rfl⟩ := List.mem_map.mp (sortO_mem.mp hp)
  obtain ⟨q0, hq0, t, ht, rfl⟩ := subs_mem _ _ _ hq
  have e0 := List.mem_singleton.mp hq0
  subst e0
  have sub : ([a] ++ ([] ++ t) ++ [z]).Sublist h.1 := by
    rw [e]
    show (a :: (t ++ [z])).Sublist _
    exact (ht.append (List.Sublist.refl [z])).cons_cons a
  have n12 := g.n12
  have inc := g.inc
  rw [e] at inc
  obtain ⟨i1, i2⟩ := List.pairwise_cons.mp inc
  have i3 := (List.pairwise_append.mp i2).2.2
  refine ⟨⟨g.inc.sublist sub, by simp, Nat.le_trans sub.length_le g.n12, fun b hb => g.rg b (sub.subset hb)⟩, fun b hb => sub.subset hb, ⟨a, by simp, fun b hb => ?_⟩, ⟨z, by simp, fun b hb => ?_⟩⟩
  · rw [e] at hb
    rcases List.mem_cons.mp hb with rfl | hb
    · exact Int.le_refl _
    · exact Int.le_of_lt (i1 b hb)
  · rw [e] at hb
    rcases List.mem_cons.mp hb with rfl | hb
    · exact Int.le_of_lt (i1 z (by simp))
    · rcases List.mem_append.mp hb with hb | hb
      · exact Int.le_of_lt (i3 b hb z (by simp))
      · rw [List.mem_singleton.mp hb]; exact Int.le_refl _
/-! ### loops that return the first -/
theorem forT_first {f : Unit → α → Res (Stp Unit ρ)} {p : α → Bool} {g : α → ρ} : ∀ {xs : List α}, (∀ x ∈ xs, f () x = .ok (if p x = true then .ret (g x) else .nx ())) → forT f xs () = .ok (match xs.find? p with
    | some x => .ret (g x)
    | none => .nx ())
  | [], _ => rfl
  | x :: xs, h => by
    have h1 := h x (List.mem_cons_self ..)
    by_cases c : p x = true
    · rw [if_pos c] at h1
      rw [forT_cons_ret h1, List.find?_cons_of_pos c]
    · rw [if_neg c] at h1
      rw [forT_cons h1, List.find?_cons_of_neg c, forT_first fun y hy => h y (List.mem_cons_of_mem _ hy)]
/-! ### the first of the least -/
theorem minII_step {a b c : Int × Int} (h1 : ltII b a = true) (h2 : ltII c a = false) : ltII c b = false := by
  unfold ltII at *
  rw [decide_eq_true_eq] at h1
  rw [decide_eq_false_iff_not] at h2 ⊢
  omega
theorem foldII : ∀ (xs : List (Int × Int)) (a : Int × Int), ((xs.foldl (fun a y => if ltII y a = true then y else a) a) = a ∨ (xs.foldl (fun a y => if ltII y a = true then y else a) a) ∈ xs) ∧ ltII a (xs.foldl (fun a y => if ltII y a = true then y else a) a) = false ∧ ∀ q ∈ xs, ltII q (xs.foldl (fun a y => if ltII y a = true then y else a) a) = false
  | [], a => ⟨.inl rfl, by unfold ltII; rw [decide_eq_false_iff_not]; show ¬ (a.1 < a.1 ∨ a.1 = a.1 ∧ a.2 < a.2); omega, fun _ h => nomatch h⟩
  | x :: xs, a => by
    rw [List.foldl_cons]
    by_cases c : ltII x a = true
    · rw [if_pos c]
      obtain ⟨h1, h2, h3⟩ := foldII xs x
      refine ⟨.inr ?_, ?_, fun q hq => ?_⟩
      · rcases h1 with h1 | h1
        · rw [h1]; exact List.mem_cons_self ..
        · exact List.mem_cons_of_mem _ h1
      · unfold ltII at *
        rw [decide_eq_true_eq] at c
        rw [decide_eq_false_iff_not] at h2 ⊢
        omega
      · rcases List.mem_cons.mp hq with rfl | hq
        · exact h2
        · exact h3 q hq
    · rw [if_neg c]
      obtain ⟨h1, h2, h3⟩ := foldII xs a
      refine ⟨h1.imp id (List.mem_cons_of_mem _), h2, fun q hq => ?_⟩
      rcases List.mem_cons.mp hq with rfl | hq
      · unfold ltII at *
        rw [decide_eq_true_eq] at c
        rw [decide_eq_false_iff_not] at h2 ⊢
        omega
      · exact h3 q hq
theorem minII_ok {xs : List (Int × Int)} (h : xs ≠ []) : ∃ p, minO ltII xs = .ok p ∧ p ∈ xs ∧ ∀ q ∈ xs, ltII q p = false := by
  cases xs with
  | nil => exact absurd rfl h
  | cons x xs =>
    obtain ⟨h1, h2, h3⟩ := foldII xs x
    refine ⟨_, rfl, ?_, fun q hq => ?_⟩
    · rcases h1 with h1 | h1
      · rw [h1]; exact List.mem_cons_self ..
      · exact List.mem_cons_of_mem _ h1
    · rcases List.mem_cons.mp hq with rfl | hq
      · exact h2
      · exact h3 q hq
theorem indexT_first {x : Int} : ∀ {xs : List Int} {j : Nat} (hj : j < xs.length), xs[j] = x → (∀ i (hi : i < j), xs[i]'(by omega) ≠ x) → indexT x xs = .ok (j : Int)
  | [], j, hj, _, _ => by simp at hj
  | y :: ys, 0, _, h, _ => by
    show (if y = x then Res.ok 0 else _) = _
    have h : y = x := h
    rw [if_pos h]; rfl
  | y :: ys, j + 1, hj, h, hn => by
    show (if y = x then Res.ok 0 else _) = _
    have h0 : ¬ y = x := hn 0 (by omega)
    rw [if_neg h0, indexT_first (j := j) (by simpa using hj) (by simpa using h) fun i hi => by
      have := hn (i + 1) (by omega)
      simpa using this]
    show Res.ok ((j : Int) + 1) = _
    congr 1
/-- the least of pairs (number, place) -/
theorem min_place {n : Nat} {f : Nat → Int} {K : Int} (hn : 0 < n) : ∃ j : Nat, j < n ∧ minO ltII ((List.range n).map fun i => (f i - K, ((i + 1 : Nat) : Int))) = .ok (f j - K, ((j + 1 : Nat) : Int)) ∧ minT ((List.range n).map f) = .ok (f j) ∧ indexT (f j) ((List.range n).map f) = .ok (j : Int) := by
  obtain ⟨p, e, hp, hq⟩ := minII_ok (xs := (List.range n).map fun i => (f i - K, ((i + 1 : Nat) : Int))) (fun z => by
    have := congrArg List.length z
    rw [List.length_map, List.length_range] at this
    simp at this
    omega)
  obtain ⟨j, hj, rfl⟩ := List.mem_map.mp hp
  have hj := List.mem_range.mp hj
  have lt : ∀ i, i < n → f j ≤ f i ∧ (f i = f j → j ≤ i) := fun i hi => by
    have := hq _ (List.mem_map.mpr ⟨i, List.mem_range.mpr hi, rfl⟩)
    unfold ltII at this
    rw [decide_eq_false_iff_not] at this
    dsimp only at this
    omega
  refine ⟨j, hj, e, minT_eq (List.mem_map.mpr ⟨j, List.mem_range.mpr hj, rfl⟩) fun x hx => ?_, indexT_first (by rw [List.length_map, List.length_range]; exact hj) (by rw [List.getElem_map, List.getElem_range]) fun i hi z => ?_⟩
  · obtain ⟨i, hi, rfl⟩ := List.mem_map.mp hx
    exact (lt i (List.mem_range.mp hi)).1
  · rw [List.getElem_map, List.getElem_range] at z
    have := (lt i (by omega)).2 z
    omega
/-! ### folded histograms -/
theorem lfold_loop {bs cs : List Int} (hp : (bs.zip cs).length ≤ 1000) : ∀ (vs : List (Int × Int)) (s : List Int), s.length + vs.length ≤ 1000 → forT (ρ := (List Int) × (List Int)) (fun (s3 : List Int) (p4 : Int × Int) =>
  (((Res.ok bs).rb fun z5 => (Res.ok cs).rb fun z6 => Res.ok (z5.zip z6)).rb fun w8 => lenT ((w8.filter (fun p7 : Int × Int => ((decide (p4.1 ≤ p7.1)) && (decide (p7.1 < p4.2))))).map (fun p7 : Int × Int => p7.2))).rb fun marks9 =>
  (Res.ok marks9.sum).rb fun x11 => (pushT s3 x11).rb fun counts10 =>
  Res.ok (.nx (counts10))) vs s = .ok (.nx (s ++ vs.map fun p7 => (((bs.zip cs).filter fun p8 => decide (p7.1 ≤ p8.1) && decide (p8.1 < p7.2)).map fun p8 => p8.2).sum))
  | [], s, _ => by rw [List.map_nil, List.append_nil]; rfl
  | v :: vs, s, hl => by
    rw [List.length_cons] at hl
    have hz := List.length_filter_le (fun p8 : Int × Int => decide (v.1 ≤ p8.1) && decide (p8.1 < v.2)) (bs.zip cs)
    rw [forT_cons (s' := s ++ [(((bs.zip cs).filter fun p8 => decide (v.1 ≤ p8.1) && decide (p8.1 < v.2)).map fun p8 => p8.2).sum]), lfold_loop hp vs _ (by rw [List.length_append, List.length_singleton]; omega), List.append_assoc]
    · rfl
    · rw [rb_ok, rb_ok, rb_ok, lenT_ok (by rw [List.length_map]; omega), rb_ok, rb_ok, pushT_ok (by omega), rb_ok]
theorem lfolded_ok {h : Hst} (g : GH h) {co : List Int} (gc : GB co) (hs : ∀ b ∈ co, b ∈ h.1) {d : List Int} (hd : Has h d) : lfolded_h_ti h co = .ok (co, cnts co d) := by
  have l1 := g.n12
  have l2 := g.len
  have l3 := gc.n12
  unfold lfolded_h_ti
  rw [rb_ok, rb_ok, rb_ok, cut_1, lfold_loop (by rw [List.length_zip]; omega) _ _ (by rw [List.length_zip]; simp; omega), rb_ok, after_nx, List.nil_append]
  congr 2
  unfold cnts
  refine List.map_congr_left fun p hp => ?_
  have m := List.of_mem_zip hp
  exact mrg hd.b g.inc (.inr (hs _ m.1)) (.inr (hs _ (List.mem_of_mem_tail m.2)))
theorem fold_sum {h : Hst} (g : GH h) {co : List Int} (gf : GH (co, cnts co (low h))) (e1 : ∃ a ∈ co, ∀ b ∈ h.1, a ≤ b) (e2 : ∃ a ∈ co, ∀ b ∈ h.1, b ≤ a) : (cnts co (low h)).sum = h.2.sum := by
  have hd := has_low g
  have c2 : 2 ≤ co.length := gf.n2
  have g2 := g.n2
  have fl : Bks co (cnts co (low h)) (low h) := by
    obtain ⟨a, ha, ha2⟩ := e1
    obtain ⟨z, hz, hz2⟩ := e2
    refine Bks.full gf.inc (fun e => by rw [e] at c2; simp at c2) hd.asc (fun x hx => ⟨a, ha, ?_⟩) fun x hx => ⟨z, hz, ?_⟩
    · have h0 : 0 < h.1.length := by omega
      have := hd.b.ge g.inc x hx h.1[0] (by rw [List.head?_eq_getElem?, List.getElem?_eq_getElem h0]; rfl)
      have := ha2 _ (List.getElem_mem h0)
      omega
    · have := hd.b.lt g.inc x hx (h.1.getLast g.ne) (by rw [List.getLast?_eq_some_getLast g.ne]; rfl)
      have := hz2 _ (List.getLast_mem g.ne)
      omega
  have := fl.len
  have := low_len g
  omega
/-! ### certain statements -/
def sureB (t : Hst) (s : Sm) : Bool := decide (s.lo ≤ (s.bd t).1 ∧ (s.bd t).2 ≤ s.hi)
theorem lsure_ok {t : Hst} (g : GH t) (s : Sm) (hs : s.ok t.2.sum) : lsure_h_w t s.w = .ok (sureB t s) := by
  unfold lsure_h_w
  have l1 := low_len g
  have l2 := high_len g
  have l3 := Has.low_s g
  have l4 := Has.high_s g
  rw [lends_ok g, rb_ok]
  dsimp only
  rw [ltrue_ok s hs (low t) l1 (by omega), rb_ok, ltrue_ok s hs (high t) l2 (by omega)]
  have b1 := num_bd g s hs (has_low g)
  have b2 := num_bd g s hs (has_high g)
  have two : ((s.bd t).1 = s.num (low t) ∧ (s.bd t).2 = s.num (high t)) ∨ ((s.bd t).1 = s.num (high t) ∧ (s.bd t).2 = s.num (low t)) := by
    cases s with
    | rank r lo hi => exact .inl ⟨rfl, rfl⟩
    | less v lo hi => exact .inr ⟨rfl, rfl⟩
    | sum lo hi => exact .inl ⟨rfl, rfl⟩
  unfold sureB
  by_cases c : s.lo ≤ s.num (low t) ∧ s.num (low t) ≤ s.hi
  · rw [if_pos (by simpa using c)]
    congr 1
    exact decide_eq_decide.mpr (by omega)
  · rw [if_neg (by simpa using c)]
    congr 1
    exact (decide_eq_false (by omega)).symm
theorem mapR_map {f : α → Res β} {g : γ → α} {k : γ → β} {xs : List γ} (h : ∀ x ∈ xs, f (g x) = .ok (k x)) : mapR f (xs.map g) = .ok (xs.map k) := by
  induction xs with
  | nil => rfl
  | cons x xs ih =>
    show ((f (g x)).nox.rb fun y => (mapR f (xs.map g)).rb fun ys => .ok (y :: ys)) = _
    rw [h x (List.mem_cons_self ..), ih fun y hy => h y (List.mem_cons_of_mem _ hy)]; rfl
theorem fewest_ok {h : Hst} (g : GH h) {ss : List Sm} (hs : ∀ s ∈ ss, s.ok h.2.sum) (hl : ss.length ≤ 6) (s60 : h.2.sum ≤ 60) {a z : Int} {mid : List Int} (e : h.1 = a :: (mid ++ [z])) :
    fewest_borders_h_lw h (ss.map Sm.w) = .ok (((rowsOf a mid z).map fun p => p.2).find? fun co => ss.all (sureB (co, cnts co (low h)))) := by
  have n12 := g.n12
  have m10 : mid.length ≤ 10 := by
    rw [e] at n12
    simp at n12
    omega
  have hac : all_coarser_ti h.1 = .ok ((rowsOf a mid z).map fun p => p.2) := by rw [e]; exact all_coarser_ok m10
  unfold fewest_borders_h_lw
  rw [g.chk, rb_ok, if_neg (by rw [List.length_map]; simp; omega), size_ok, rb_ok, rb_ok, mapR_map (k := fun _ => true) fun s m => statement_ok s (hs s m), rb_ok, lenT_ok (by rw [List.length_map]; omega), rb_ok, rb_ok, rb_ok]
  rw [if_neg (by
    have : (ss.map fun _ => true).all id = true := by rw [List.all_eq_true]; intro x hx; obtain ⟨_, _, rfl⟩ := List.mem_map.mp hx; rfl
    rw [this]; decide), hac, rb_ok, forT_first (p := fun co => ss.all (sureB (co, cnts co (low h)))) (g := fun co => some co)]
  · cases ((rowsOf a mid z).map fun p => p.2).find? fun co => ss.all (sureB (co, cnts co (low h))) <;> rfl
  · intro co hco
    obtain ⟨p, hp, rfl⟩ := List.mem_map.mp hco
    obtain ⟨r1, r2, r3, r4⟩ := row_ok g e hp
    have gf := fold_gh g r1 r3 r4 s60
    have es := fold_sum g gf r3 r4
    obtain ⟨m, em, hm⟩ := max60 gf
    dsimp only at em
    rw [merged_ok g r1 r2 (has_low g), rb_ok, em, rb_ok, rb_ok, if_pos (by simpa using hm), rb_ok, mapR_map (k := sureB (p.2, cnts p.2 (low h))) fun s m => surely_ok gf s (by show s.ok (cnts p.2 (low h)).sum; rw [es]; exact hs s m), rb_ok, lenT_ok (by rw [List.length_map]; omega), rb_ok, rb_ok, all_map]
    cases ss.all (sureB (p.2, cnts p.2 (low h))) <;> rfl
end Y
-- K36_W
set_option Elab.async false
set_option linter.all false
set_option maxRecDepth 100000
set_option maxHeartbeats 4000000
/-! k36: the typed law is true. -/
namespace Y
open PL
theorem ne_no {α : Type} [DecidableEq α] {a b : α} (h : a = b) : ¬ (!decide (a = b)) = true := by simp [h]
theorem num_rg {h : Hst} (g : GH h) (s : Sm) (hs : s.ok h.2.sum) {d : List Int} (hd : Has h d) : 0 ≤ s.num d ∧ (∀ r lo hi, s = .rank r lo hi → s.num d ≤ 999) ∧ ∀ v lo hi, s = .less v lo hi → s.num d ≤ 200 := by
  have dl := hd.len
  have sm := g.sm
  cases s with
  | rank r lo hi =>
    obtain ⟨⟨h1, h2⟩, _, _⟩ := hs
    have a : (r - 1).toNat < d.length := by omega
    have := hd.rg g _ (List.getElem_mem a)
    have e : (Sm.rank r lo hi).num d = d[(r - 1).toNat] := gd a
    rw [e]
    exact ⟨this.1, fun _ _ _ _ => this.2, (by intro _ _ _ z; cases z)⟩
  | less v lo hi =>
    have : (d.filter fun x => decide (x < v)).length ≤ d.length := List.length_filter_le _ _
    have e : (Sm.less v lo hi).num d = ((d.filter fun x => decide (x < v)).length : Int) := rfl
    rw [e]
    exact ⟨by omega, (by intro _ _ _ z; cases z), fun _ _ _ _ => by omega⟩
  | sum lo hi =>
    exact ⟨(sum_bd (k := 999) (by omega) (hd.rg g)).1, (by intro _ _ _ z; cases z), (by intro _ _ _ z; cases z)⟩
theorem sort2 (x y : Int) : ∃ u v, sortI [x, y] = [u, v] ∧ (u = x ∨ u = y) ∧ (v = x ∨ v = y) := by
  show ∃ u v, (if x ≤ y then [x, y] else [y, x]) = [u, v] ∧ _
  by_cases c : x ≤ y
  · rw [if_pos c]; exact ⟨x, y, rfl, .inl rfl, .inr rfl⟩
  · rw [if_neg c]; exact ⟨y, x, rfl, .inr rfl, .inl rfl⟩
theorem word_set {many : Int} (s : Sm) (hs : s.ok many) {u v k : Int} (k0 : 0 ≤ k) (k1 : k ≤ 20) (u0 : 0 ≤ u ∧ (∀ r lo hi, s = .rank r lo hi → u ≤ 999) ∧ ∀ w lo hi, s = .less w lo hi → u ≤ 200) (v0 : 0 ≤ v) :
    ∃ t : Sm, (((((atT [u, v] 0).rb fun x30 => Res.ok (x30 - k)).rb fun x31 => Res.ok (max2 x31 0)).rb fun x36 => (((atT [u, v] 1).rb fun x32 => Res.ok (x32 + k)).rb fun x34 => ((streqT s.w.k ("less")).rb fun c33 => if c33 = true then Res.ok 200 else Res.ok 999).rb fun x35 => Res.ok (min2 x34 x35)).rb fun x37 => Res.ok (x36, x37)).rb fun x38 => wSet s.w x38) = .ok t.w ∧ t.ok many := by
  have a0 : atT [u, v] 0 = .ok u := rfl
  have a1 : atT [u, v] 1 = .ok v := rfl
  have m0 : 0 ≤ max2 (u - k) 0 ∧ max2 (u - k) 0 ≤ u := by unfold max2; split <;> omega
  rw [a0, rb_ok, rb_ok, rb_ok, a1, rb_ok, rb_ok]
  cases s with
  | rank r lo hi =>
    have kk := u0.2.1 r lo hi rfl
    refine ⟨(Sm.rank r lo hi).set (max2 (u - k) 0) (min2 (v + k) 999), ?_, hs.1, ⟨m0.1, by omega⟩, by unfold min2; split <;> omega⟩
    show (((((streqT "rank" "less").rb _).rb _).rb _).rb _) = _
    rw [str_rl, rb_ok, if_neg (by decide), rb_ok, rb_ok, rb_ok, w_set]
  | less w lo hi =>
    have kk := u0.2.2 w lo hi rfl
    refine ⟨(Sm.less w lo hi).set (max2 (u - k) 0) (min2 (v + k) 200), ?_, hs.1, ⟨m0.1, by omega⟩, by unfold min2; split <;> omega⟩
    show (((((streqT "less" "less").rb _).rb _).rb _).rb _) = _
    rw [str_ll, rb_ok, if_pos rfl, rb_ok, rb_ok, rb_ok, w_set]
  | sum lo hi =>
    refine ⟨(Sm.sum lo hi).set (max2 (u - k) 0) (min2 (v + k) 999), ?_, m0.1, by unfold min2; split <;> omega⟩
    show (((((streqT "sum" "less").rb _).rb _).rb _).rb _) = _
    rw [str_sl, rb_ok, if_neg (by decide), rb_ok, rb_ok, rb_ok, w_set]
theorem fm_head {P : List Int → Bool} : ∀ rows : List (Int × List Int), (rows.filterMap fun p => if P p.2 = true then some p.2 else none).head? = (rows.map fun p => p.2).find? P
  | [] => rfl
  | p :: rows => by
    by_cases c : P p.2 = true
    · rw [List.filterMap_cons_some (by rw [if_pos c]), List.map_cons, List.find?_cons_of_pos c]; rfl
    · rw [List.filterMap_cons_none (by rw [if_neg c]), List.map_cons, List.find?_cons_of_neg c]; exact fm_head rows
theorem rows_c : rowsOf 0 [5, 9] 12 = [(0, [0, 12]), (1, [0, 5, 12]), (1, [0, 9, 12]), (2, [0, 5, 9, 12])] := by
  unfold rowsOf
  show sortO ltIT [(0, [0, 12]), (1, [0, 5, 12]), (1, [0, 9, 12]), (2, [0, 5, 9, 12])] = _
  exact List.mergeSort_of_pairwise (by decide)
theorem coarser_c : all_coarser_ti [0, 5, 9, 12] = .ok [[0, 12], [0, 5, 12], [0, 9, 12], [0, 5, 9, 12]] := by
  have h := all_coarser_ok (a := 0) (z := 12) (mid := [5, 9]) (by decide)
  rw [rows_c] at h
  exact h
theorem few_c1 : fewest_borders_h_lw ([0, 5, 9, 12], [60, 50, 3]) [] = .ok (some [0, 5, 12]) := by
  unfold fewest_borders_h_lw
  rw [show check_histogram_h ([0, 5, 9, 12], [60, 50, 3]) = .ok () from by kernel_rfl, rb_ok]
  dsimp only
  rw [coarser_c]
  kernel_rfl
theorem few_c2 : fewest_borders_h_lw ([0, 5, 9, 12], [3, 50, 60]) [⟨"sum", [0, 9999]⟩, ⟨"sum", [0, 9999]⟩, ⟨"sum", [0, 9999]⟩, ⟨"sum", [0, 9999]⟩, ⟨"sum", [0, 9999]⟩, ⟨"sum", [0, 9999]⟩] = .ok (some [0, 9, 12]) := by
  unfold fewest_borders_h_lw
  rw [show check_histogram_h ([0, 5, 9, 12], [3, 50, 60]) = .ok () from by kernel_rfl, rb_ok]
  dsimp only
  rw [coarser_c]
  kernel_rfl
theorem k36_true (ns : List Int) (hn : ns.length ≤ 63) : law_k36 ns = .ok true := by
  unfold law_k36
  rw [rb_ok, rngT_ok (by omega) (by omega) (by omega) (by omega), rb_ok, forT_all, rb_ok, after_nx]
  · rw [rb_ok, show least_loss_h ([0, 5, 9], [60, 60]) = .ok none from by kernel_rfl, rb_ok, rb_ok, if_neg (by decide), few_c1, rb_ok, rb_ok, if_neg (by decide)]
    rw [show coarsened_h_ti ([0, 5, 9], [30, 30]) [0, 9] = .ok ([0, 9], [60]) from by kernel_rfl, rb_ok, rb_ok, if_neg (by decide), show least_loss_h ([0, 5, 9, 12], [60, 50, 3]) = .ok (some (2, 162)) from by kernel_rfl, rb_ok, optE_some, rb_ok, rb_ok, if_neg (by decide)]
    rw [show repT ([(W.mk "sum" [0, 9999])]) 6 = .ok [⟨"sum", [0, 9999]⟩, ⟨"sum", [0, 9999]⟩, ⟨"sum", [0, 9999]⟩, ⟨"sum", [0, 9999]⟩, ⟨"sum", [0, 9999]⟩, ⟨"sum", [0, 9999]⟩] from by kernel_rfl, rb_ok, few_c2, rb_ok, rb_ok, if_neg (by decide)]
    rw [show least_loss_h ([0, 50, 51, 52], [3, 50, 60]) = .ok (some (1, 2503)) from by kernel_rfl, rb_ok]
    rfl
  intro i hi
  have hi := mem_rangeI.mp hi
  obtain ⟨h, eh, dh⟩ := lhistogram_ok ns hn (100 * i) 5 (by omega) (by omega) (by omega) (by omega)
  have g := dh.g
  have ll := low_len g
  have hl := high_len g
  have ls := Has.low_s g
  have hs := Has.high_s g
  have s0 := g.sz0
  have sm := g.sm
  have n2 := g.n2
  have n12 := g.n12
  have dn := dh.n
  have gl := g.len
  have s60 : h.2.sum ≤ 60 := by
    have := (sum_bd (k := 4) (by omega) dh.c).2
    omega
  obtain ⟨a, mid, z, e⟩ := split3 n2
  have m4 : mid.length ≤ 4 := by rw [e] at dn; simp at dn; omega
  have ec1 : cut h.1 (some 1) (some (-1)) = mid := by rw [e, cut_1m1]; simp
  have ec2 : cut h.1 none (some 1) = [a] := by rw [e, cut_n1]
  have ec3 : cut h.1 (some (-1)) none = [z] := by rw [e, cut_m1 (by simp), getLast_3]
  rw [eh, rb_ok, rb_ok]
  dsimp only
  rw [rb_ok, ec1, subs_loop mid [[]] (fun p hp => by have e := List.mem_singleton.mp hp; subst e; simp; omega) (by have := two_pow (n := mid.length) (by omega); simp; omega), rb_ok, after_nx, ec2, ec3, rows_raw (by omega), rb_ok]
  obtain ⟨q, hq, q0, q1⟩ := pick_ok ns hn (100 * i + 40) 4 (by omega) (by omega) (by omega)
  obtain ⟨m, em⟩ : ∃ m : Nat, q = (m : Int) := ⟨q.toNat, by omega⟩
  rw [hq, rb_ok, rngT_ok (by omega) (by omega) (by omega) (by omega), rb_ok, em]
  obtain ⟨ws, hf, ss, ews, els, oks⟩ := forT_range (σ := List W) (ρ := Bool) (n := m) (s := []) (f := fun (s20 : List W) (j21 : Int) =>
  (lstatement_z_i_i ns (((100 * i) + 41) + (9 * j21)) h.2.sum).rb fun word22 =>
  (lends_h h).rb fun p23 =>
  (((lnumber_li_w p23.1 word22).rb fun x24 => (lnumber_li_w p23.2 word22).rb fun x25 => Res.ok [x24, x25]).rb fun x26 => Res.ok (sortI x26)).rb fun ends27 =>
  ((lpick_z_i_i ns (((100 * i) + 80) + j21) 3).rb fun x28 => atT [0, 3, 20] x28).rb fun slack29 =>
  (((((atT ends27 0).rb fun x30 => Res.ok (x30 - slack29)).rb fun x31 => Res.ok (max2 x31 0)).rb fun x36 => (((atT ends27 1).rb fun x32 => Res.ok (x32 + slack29)).rb fun x34 => ((streqT word22.k ("less")).rb fun c33 => if c33 = true then Res.ok 200 else Res.ok 999).rb fun x35 => Res.ok (min2 x34 x35)).rb fun x37 => Res.ok (x36, x37)).rb fun x38 => wSet word22 x38).rb fun x40 => (pushT s20 x40).rb fun words39 =>
  Res.ok (.nx (words39))) (fun k s => ∃ ss : List Sm, s = ss.map Sm.w ∧ ss.length = k ∧ ∀ t ∈ ss, t.ok h.2.sum) ⟨[], rfl, rfl, fun _ h => nomatch h⟩ (fun j s hj ⟨ss, e1, e2, e3⟩ => by
    obtain ⟨s1, es1, ok1, _, _⟩ := lstatement_ok ns hn (100 * i + 41 + 9 * (j : Int)) h.2.sum (by omega) (by omega) (by omega) (by omega)
    obtain ⟨p, hp, p0, p1⟩ := pick_ok ns hn (100 * i + 80 + (j : Int)) 3 (by omega) (by omega) (by omega)
    obtain ⟨k, ek, k0, k1⟩ : ∃ k : Int, atT [0, 3, 20] p = .ok k ∧ 0 ≤ k ∧ k ≤ 20 := by
      obtain ⟨a, ea, ha⟩ := atT_mem (xs := ([0, 3, 20] : List Int)) p0 (by simpa using p1)
      refine ⟨a, ea, ?_⟩
      simp at ha
      omega
    obtain ⟨u, v, esr, hu, hv⟩ := sort2 (s1.num (low h)) (s1.num (high h))
    have n1 := num_rg g s1 ok1 (has_low g)
    have n2' := num_rg g s1 ok1 (has_high g)
    have hu0 : 0 ≤ u ∧ (∀ r lo hi, s1 = .rank r lo hi → u ≤ 999) ∧ ∀ w lo hi, s1 = .less w lo hi → u ≤ 200 := by
      rcases hu with rfl | rfl
      · exact n1
      · exact n2'
    have hv0 : 0 ≤ v := by
      rcases hv with rfl | rfl
      · exact n1.1
      · exact n2'.1
    obtain ⟨t, et, okt⟩ := word_set s1 ok1 k0 k1 hu0 hv0
    refine ⟨s ++ [t.w], ?_, ss ++ [t], by rw [e1, List.map_append]; rfl, by simp [e2], fun x hx => ?_⟩
    · rw [es1, rb_ok, lends_ok g, rb_ok]
      dsimp only
      rw [lnumber_ok s1 ok1 (low h) ll (by omega), rb_ok, lnumber_ok s1 ok1 (high h) hl (by omega), rb_ok, rb_ok, esr, rb_ok, hp, rb_ok, ek, rb_ok, et, rb_ok, pushT_ok (by rw [e1, List.length_map]; omega), rb_ok]
    · rcases List.mem_append.mp hx with hx | hx
      · exact e3 x hx
      · rw [List.mem_singleton.mp hx]; exact okt)
  rw [hf, rb_ok, after_nx, ews]
  have rl := rows_len (a := a) (z := z) (mid := mid) (by omega)
  rw [rb_ok, cmpR_ok (g := fun p : Int × List Int => if ss.all (sureB (p.2, cnts p.2 (low h))) = true then some p.2 else none) (fun p hp => by
    obtain ⟨r1, r2, r3, r4⟩ := row_ok g e hp
    have gf := fold_gh g r1 r3 r4 s60
    have es := fold_sum g gf r3 r4
    rw [rb_ok, mapR_map (k := sureB (p.2, cnts p.2 (low h))) fun s ms => by rw [lfolded_ok g r1 r2 (has_low g), rb_ok]; exact lsure_ok gf s (by show s.ok (cnts p.2 (low h)).sum; rw [es]; exact oks s ms), rb_ok, lenT_ok (by rw [List.length_map]; omega), rb_ok, rb_ok, all_map]
    cases ss.all (sureB (p.2, cnts p.2 (low h))) <;> rfl), rb_ok, lenT_ok (by
    have := List.length_filterMap_le (fun p : Int × List Int => if ss.all (sureB (p.2, cnts p.2 (low h))) = true then some p.2 else none) (rowsOf a mid z)
    omega), rb_ok, fewest_ok g oks (by omega) s60 e, rb_ok]
  have fo : ∀ l : List (List Int), (if (!decide (l = [])) = true then (atT l 0).rb fun x => Res.ok (some x) else Res.ok none) = .ok l.head? := fun l => by
    cases l with
    | nil => rfl
    | cons x l => rw [if_pos (by simp), show atT (x :: l) 0 = .ok x from atT_nat (i := 0) (by simp)]; rfl
  have fh := fm_head (P := fun co => ss.all (sureB (co, cnts co (low h)))) (rowsOf a mid z)
  rw [fo, fh, rb_ok, rb_ok, if_neg (ne_no rfl), rb_ok, rb_ok, rngT_ok (by omega) (by omega) (by omega) (by omega), rb_ok]
  have W := wsum_eq g.len g.c0
  obtain ⟨Ls, hf2, eL⟩ := forT_inv (σ := List Int) (ρ := Bool) (xs := rangeI 1 ((h.1.length : Int) - 1)) (k := 0) (s := []) (f := fun (s56 : List Int) (index57 : Int) =>
  (((appT (cut h.1 none (some index57)) (cut h.1 (some (index57 + 1)) none)).rb fun x58 => lfolded_h_ti h x58).rb fun x59 => lends_h x59).rb fun p60 =>
  (Res.ok (p60.2.sum - p60.1.sum)).rb fun x62 => (pushT s56 x62).rb fun losses61 =>
  Res.ok (.nx (losses61))) (fun k s => s = (List.range k).map fun i => lossAt h (i + 1) + wsum h.1 h.2) rfl (fun j hj s hs => by
    rw [rangeI_len] at hj
    rw [Nat.zero_add] at hs
    subst hs
    rw [rangeI_get (by rw [rangeI_len]; exact hj)]
    obtain ⟨e1, e2, e3, e4⟩ := erase_gb g (i := j + 1) (by omega) (by omega)
    have ec : cut h.1 none (some (1 + (j : Int))) ++ cut h.1 (some (1 + (j : Int) + 1)) none = h.1.eraseIdx (j + 1) := by
      rw [show (1 + (j : Int)) = ((j + 1 : Nat) : Int) by omega, show (((j + 1 : Nat) : Int) + 1) = ((j + 2 : Nat) : Int) by omega, cut_hi, cut_lo, List.eraseIdx_eq_take_drop_succ]
    have gf := fold_gh g e1 e3 e4 s60
    have lc : (cut h.1 none (some (1 + (j : Int)))).length + (cut h.1 (some (1 + (j : Int) + 1)) none).length ≤ 1000000 := by
      have := congrArg List.length ec
      rw [List.length_append] at this
      have := e1.n12
      omega
    have W2 := wsum_eq gf.len gf.c0
    refine ⟨_, ?_, rfl⟩
    rw [appT_ok lc, rb_ok, ec, lfolded_ok g e1 e2 (has_low g), rb_ok, lends_ok gf, rb_ok]
    dsimp only
    rw [rb_ok, pushT_ok (by rw [List.length_map, List.length_range]; omega), rb_ok, Nat.zero_add, List.range_succ, List.map_append]
    congr 4
    show (high (h.1.eraseIdx (j + 1), cnts (h.1.eraseIdx (j + 1)) (low h))).sum - (low (h.1.eraseIdx (j + 1), cnts (h.1.eraseIdx (j + 1)) (low h))).sum = lossAt h (j + 1) + wsum h.1 h.2
    unfold lossAt
    have W3 : (high (h.1.eraseIdx (j + 1), cnts (h.1.eraseIdx (j + 1)) (low h))).sum - (low (h.1.eraseIdx (j + 1), cnts (h.1.eraseIdx (j + 1)) (low h))).sum = wsum (h.1.eraseIdx (j + 1)) (cnts (h.1.eraseIdx (j + 1)) (low h)) := W2
    omega)
  rw [rangeI_len, Nat.zero_add, show ((h.1.length : Int) - 1 - 1).toNat = h.1.length - 2 by omega] at eL
  rw [hf2, rb_ok, after_nx, lends_ok g, rb_ok, rb_ok]
  dsimp only
  have W' : (high h).sum - (low h).sum = wsum h.1 h.2 := W
  by_cases c : h.1.length = 2
  · have e0 : Ls = [] := by rw [eL, c]; rfl
    have e1 : lossL h = [] := by unfold lossL; rw [c]; rfl
    rw [if_neg (by simp [e0]), rb_ok, after_nx, least_loss_ok g s60, if_neg (by simp [e1]), rb_ok, rb_ok, if_neg (ne_no rfl)]
  · obtain ⟨j, hj, p1, p2, p3⟩ := min_place (n := h.1.length - 2) (f := fun i => lossAt h (i + 1) + wsum h.1 h.2) (K := wsum h.1 h.2) (by omega)
    have e1 : lossL h = (List.range (h.1.length - 2)).map fun i => (lossAt h (i + 1) + wsum h.1 h.2 - wsum h.1 h.2, ((i + 1 : Nat) : Int)) := by
      unfold lossL
      apply List.map_congr_left
      intro i _
      rw [show lossAt h (i + 1) + wsum h.1 h.2 - wsum h.1 h.2 = lossAt h (i + 1) by omega]
    have ne : Ls ≠ [] := fun z => by
      have := congrArg List.length (eL.symm.trans z)
      rw [List.length_map, List.length_range] at this
      simp at this
      omega
    have ne2 : lossL h ≠ [] := fun z => by
      have := congrArg List.length (e1.symm.trans z)
      rw [List.length_map, List.length_range] at this
      simp at this
      omega
    rw [if_pos (by simp [ne]), eL, p2, rb_ok, p3, rb_ok, rb_ok, rb_ok, rb_ok, rb_ok, rb_ok, rb_ok, after_nx, least_loss_ok g s60, if_pos (by simp [ne2]), e1, p1, rb_ok, rb_ok, rb_ok, rb_ok, if_neg (ne_no ?_)]
    dsimp only
    rw [show (((j + 1 : Nat) : Int)) = 1 + (j : Int) by omega, show lossAt h (j + 1) + wsum h.1 h.2 - wsum h.1 h.2 = lossAt h (j + 1) + wsum h.1 h.2 - (high h).sum + (low h).sum by omega]
end Y
-- K36_H
set_option Elab.async false
set_option linter.all false
set_option maxRecDepth 100000
set_option maxHeartbeats 0
namespace K36
open PySem PySem.Spec PyProof.Rows L2 PL
def top (i : Nat) : Stmt := PySem.Challenge.pw_bucketdata_k36_whole_fewest.main.body.getD i (.Pass ⟨0, 0, 0, 0⟩)
def d_ (x : Str) (i : Nat) : He.DefD := ⟨(x, none), x, x, defArgs (top i), defBody (top i), defScope (top i), [], []⟩
def fn : List He.DefD := [d_ "is_int" 13, d_ "are_borders" 14, d_ "is_histogram" 15, d_ "check_borders" 16, d_ "check_histogram" 17, d_ "size_of" 18, d_ "filled" 20, d_ "lowest" 21, d_ "highest" 22, d_ "find_bounds" 23, d_ "find_range" 24, d_ "find_sums" 26, d_ "is_total" 31, d_ "is_statement_for" 32, d_ "number_bounds" 33, d_ "surely_holds" 34, d_ "are_coarser" 37, d_ "merged" 38, d_ "coarsened" 39, d_ "all_coarser" 40, d_ "fewest_borders" 41, d_ "looseness" 42, d_ "least_loss" 43, d_ "_law_ends" 45, d_ "_law_number" 46, d_ "_law_true" 47, d_ "_law_pick" 48, d_ "_law_borders" 49, d_ "_law_histogram" 50, d_ "_law_statement" 51, d_ "_law_folded" 52, d_ "_law_sure" 53, d_ "law" 54]
def fa : List He.Fa := [.glo "is_int", .glo "are_borders", .glo "is_histogram", .glo "check_borders", .glo "check_histogram", .glo "size_of", .glo "filled", .glo "lowest", .glo "highest", .glo "find_bounds", .glo "find_range", .glo "find_sums", .glo "is_total", .glo "is_statement_for", .glo "number_bounds", .glo "surely_holds", .glo "are_coarser", .glo "merged", .glo "coarsened", .glo "all_coarser", .glo "fewest_borders", .glo "looseness", .glo "least_loss", .glo "_law_ends", .glo "_law_number", .glo "_law_true", .glo "_law_pick", .glo "_law_borders", .glo "_law_histogram", .glo "_law_statement", .glo "_law_folded", .glo "_law_sure", .glo "law"] ++ (buNames.map He.Fa.free ++ [.int "MAX_VALUE" 999, .int "MAX_DATA" 200, .int "MAX_BORDERS" 12, .int "MAX_BORDER" 1000, .int "MAX_COUNT" 60, .int "MAX_STATEMENTS" 6, .str "RANK" "rank", .str "LESS" "less", .str "SUM" "sum"])
def loose : List PySem.Str := (["BucketError", "InvalidBorders", "TooLarge", "InvalidHistogram", "NotCoarser", "InvalidStatements", "MAX_VALUE", "MAX_DATA", "MAX_BORDERS", "MAX_BORDER", "MAX_COUNT", "is_int", "are_borders", "is_histogram", "check_borders", "check_histogram", "size_of", "filled", "lowest", "highest", "find_bounds", "find_range", "find_sums", "RANK", "LESS", "SUM", "is_total", "is_statement_for", "number_bounds", "surely_holds"] : List PySem.Str) ++ (["MAX_STATEMENTS", "are_coarser", "merged", "coarsened", "all_coarser", "fewest_borders", "looseness", "least_loss", "_law_ends", "_law_number", "_law_true", "_law_pick", "_law_borders", "_law_histogram", "_law_statement", "_law_folded", "_law_sure"] : List PySem.Str)
abbrev R : PySem.W.OpenRow := PySem.W.OpenLaw.row PySem.Challenge.rw_bucketdata_k36_whole_fewest
abbrev hk : PySem.W.Hook := He.hookD 4 fa fn
def ob (s : PySem.W.SharedT) : He.AlD := He.obsDG 4 fa fn (HandSHeadRun.getT s)
theorem ob_eq (s : PySem.W.SharedT) : ob s = hk.obs s.abs := He.obsDG_eq (HandSHeadRun.getT_eq s)
theorem run_eq (w : World) : HandSHeadRun.RunEq R (PySem.W.view R.prog [54]) hk ob 6000 loose w := by
  intro os
  kernel_rfl
section
variable {P : Program} {K : PySem.W.Frag} {h : Heap} {mg : Str → Option Value} {fd : FuncData}
theorem ok0 (X : K.In h) (G : h.Ns mainGlobals mg) (c : He.SaysD fa fn K) (F : FunD K "is_int" "is_int" (defArgs (top 13)) (defBody (top 13)) (defScope (top 13)) [] [] (He.ga K "is_int") fd) : DefOk K mg T cs f0 (He.ga K "is_int") fd :=
  ⟨⟨_, _, _, _, F, He.glo_ok X G (c.fact 0 (f := .glo "is_int") rfl), FunD.bindsN F (fun _ _ _ _ _ _ us hl => match us, hl with | [_, _, _], _ => rfl), ⟨rfl, rfl, rfl, by decide +kernel, by kernel_rfl, by decide +kernel, by decide +kernel⟩, by kernel_rfl⟩, by decide⟩
theorem ok1 (X : K.In h) (G : h.Ns mainGlobals mg) (c : He.SaysD fa fn K) (F : FunD K "are_borders" "are_borders" (defArgs (top 14)) (defBody (top 14)) (defScope (top 14)) [] [] (He.ga K "are_borders") fd) : DefOk K mg T cs f1 (He.ga K "are_borders") fd :=
  ⟨⟨_, _, _, _, F, He.glo_ok X G (c.fact 1 (f := .glo "are_borders") rfl), FunD.bindsN F (fun _ _ _ _ _ _ us hl => match us, hl with | [_], _ => rfl), ⟨rfl, rfl, rfl, by decide +kernel, by kernel_rfl, by decide +kernel, by decide +kernel⟩, by kernel_rfl⟩, by decide⟩
theorem ok2 (X : K.In h) (G : h.Ns mainGlobals mg) (c : He.SaysD fa fn K) (F : FunD K "is_histogram" "is_histogram" (defArgs (top 15)) (defBody (top 15)) (defScope (top 15)) [] [] (He.ga K "is_histogram") fd) : DefOk K mg T cs f2 (He.ga K "is_histogram") fd :=
  ⟨⟨_, _, _, _, F, He.glo_ok X G (c.fact 2 (f := .glo "is_histogram") rfl), FunD.bindsN F (fun _ _ _ _ _ _ us hl => match us, hl with | [_], _ => rfl), ⟨rfl, rfl, rfl, by decide +kernel, by kernel_rfl, by decide +kernel, by decide +kernel⟩, by kernel_rfl⟩, by decide⟩
theorem ok3 (X : K.In h) (G : h.Ns mainGlobals mg) (c : He.SaysD fa fn K) (F : FunD K "check_borders" "check_borders" (defArgs (top 16)) (defBody (top 16)) (defScope (top 16)) [] [] (He.ga K "check_borders") fd) : DefOk K mg T cs f3 (He.ga K "check_borders") fd :=
  ⟨⟨_, _, _, _, F, He.glo_ok X G (c.fact 3 (f := .glo "check_borders") rfl), FunD.bindsN F (fun _ _ _ _ _ _ us hl => match us, hl with | [_], _ => rfl), ⟨rfl, rfl, rfl, by decide +kernel, by kernel_rfl, by decide +kernel, by decide +kernel⟩, by kernel_rfl⟩, by decide⟩
theorem ok4 (X : K.In h) (G : h.Ns mainGlobals mg) (c : He.SaysD fa fn K) (F : FunD K "check_histogram" "check_histogram" (defArgs (top 17)) (defBody (top 17)) (defScope (top 17)) [] [] (He.ga K "check_histogram") fd) : DefOk K mg T cs f4 (He.ga K "check_histogram") fd :=
  ⟨⟨_, _, _, _, F, He.glo_ok X G (c.fact 4 (f := .glo "check_histogram") rfl), FunD.bindsN F (fun _ _ _ _ _ _ us hl => match us, hl with | [_], _ => rfl), ⟨rfl, rfl, rfl, by decide +kernel, by kernel_rfl, by decide +kernel, by decide +kernel⟩, by kernel_rfl⟩, by decide⟩
theorem ok5 (X : K.In h) (G : h.Ns mainGlobals mg) (c : He.SaysD fa fn K) (F : FunD K "size_of" "size_of" (defArgs (top 18)) (defBody (top 18)) (defScope (top 18)) [] [] (He.ga K "size_of") fd) : DefOk K mg T cs f5 (He.ga K "size_of") fd :=
  ⟨⟨_, _, _, _, F, He.glo_ok X G (c.fact 5 (f := .glo "size_of") rfl), FunD.bindsN F (fun _ _ _ _ _ _ us hl => match us, hl with | [_], _ => rfl), ⟨rfl, rfl, rfl, by decide +kernel, by kernel_rfl, by decide +kernel, by decide +kernel⟩, by kernel_rfl⟩, by decide⟩
theorem ok6 (X : K.In h) (G : h.Ns mainGlobals mg) (c : He.SaysD fa fn K) (F : FunD K "filled" "filled" (defArgs (top 20)) (defBody (top 20)) (defScope (top 20)) [] [] (He.ga K "filled") fd) : DefOk K mg T cs f6 (He.ga K "filled") fd :=
  ⟨⟨_, _, _, _, F, He.glo_ok X G (c.fact 6 (f := .glo "filled") rfl), FunD.bindsN F (fun _ _ _ _ _ _ us hl => match us, hl with | [_, _], _ => rfl), ⟨rfl, rfl, rfl, by decide +kernel, by kernel_rfl, by decide +kernel, by decide +kernel⟩, by kernel_rfl⟩, by decide⟩
theorem ok7 (X : K.In h) (G : h.Ns mainGlobals mg) (c : He.SaysD fa fn K) (F : FunD K "lowest" "lowest" (defArgs (top 21)) (defBody (top 21)) (defScope (top 21)) [] [] (He.ga K "lowest") fd) : DefOk K mg T cs f7 (He.ga K "lowest") fd :=
  ⟨⟨_, _, _, _, F, He.glo_ok X G (c.fact 7 (f := .glo "lowest") rfl), FunD.bindsN F (fun _ _ _ _ _ _ us hl => match us, hl with | [_], _ => rfl), ⟨rfl, rfl, rfl, by decide +kernel, by kernel_rfl, by decide +kernel, by decide +kernel⟩, by kernel_rfl⟩, by decide⟩
theorem ok8 (X : K.In h) (G : h.Ns mainGlobals mg) (c : He.SaysD fa fn K) (F : FunD K "highest" "highest" (defArgs (top 22)) (defBody (top 22)) (defScope (top 22)) [] [] (He.ga K "highest") fd) : DefOk K mg T cs f8 (He.ga K "highest") fd :=
  ⟨⟨_, _, _, _, F, He.glo_ok X G (c.fact 8 (f := .glo "highest") rfl), FunD.bindsN F (fun _ _ _ _ _ _ us hl => match us, hl with | [_], _ => rfl), ⟨rfl, rfl, rfl, by decide +kernel, by kernel_rfl, by decide +kernel, by decide +kernel⟩, by kernel_rfl⟩, by decide⟩
theorem ok9 (X : K.In h) (G : h.Ns mainGlobals mg) (c : He.SaysD fa fn K) (F : FunD K "find_bounds" "find_bounds" (defArgs (top 23)) (defBody (top 23)) (defScope (top 23)) [] [] (He.ga K "find_bounds") fd) : DefOk K mg T cs f9 (He.ga K "find_bounds") fd :=
  ⟨⟨_, _, _, _, F, He.glo_ok X G (c.fact 9 (f := .glo "find_bounds") rfl), FunD.bindsN F (fun _ _ _ _ _ _ us hl => match us, hl with | [_, _], _ => rfl), ⟨rfl, rfl, rfl, by decide +kernel, by kernel_rfl, by decide +kernel, by decide +kernel⟩, by kernel_rfl⟩, by decide⟩
theorem ok10 (X : K.In h) (G : h.Ns mainGlobals mg) (c : He.SaysD fa fn K) (F : FunD K "find_range" "find_range" (defArgs (top 24)) (defBody (top 24)) (defScope (top 24)) [] [] (He.ga K "find_range") fd) : DefOk K mg T cs f10 (He.ga K "find_range") fd :=
  ⟨⟨_, _, _, _, F, He.glo_ok X G (c.fact 10 (f := .glo "find_range") rfl), FunD.bindsN F (fun _ _ _ _ _ _ us hl => match us, hl with | [_, _], _ => rfl), ⟨rfl, rfl, rfl, by decide +kernel, by kernel_rfl, by decide +kernel, by decide +kernel⟩, by kernel_rfl⟩, by decide⟩
theorem ok11 (X : K.In h) (G : h.Ns mainGlobals mg) (c : He.SaysD fa fn K) (F : FunD K "find_sums" "find_sums" (defArgs (top 26)) (defBody (top 26)) (defScope (top 26)) [] [] (He.ga K "find_sums") fd) : DefOk K mg T cs f11 (He.ga K "find_sums") fd :=
  ⟨⟨_, _, _, _, F, He.glo_ok X G (c.fact 11 (f := .glo "find_sums") rfl), FunD.bindsN F (fun _ _ _ _ _ _ us hl => match us, hl with | [_], _ => rfl), ⟨rfl, rfl, rfl, by decide +kernel, by kernel_rfl, by decide +kernel, by decide +kernel⟩, by kernel_rfl⟩, by decide⟩
theorem ok12 (X : K.In h) (G : h.Ns mainGlobals mg) (c : He.SaysD fa fn K) (F : FunD K "is_total" "is_total" (defArgs (top 31)) (defBody (top 31)) (defScope (top 31)) [] [] (He.ga K "is_total") fd) : DefOk K mg T cs f12 (He.ga K "is_total") fd :=
  ⟨⟨_, _, _, _, F, He.glo_ok X G (c.fact 12 (f := .glo "is_total") rfl), FunD.bindsN F (fun _ _ _ _ _ _ us hl => match us, hl with | [_], _ => rfl), ⟨rfl, rfl, rfl, by decide +kernel, by kernel_rfl, by decide +kernel, by decide +kernel⟩, by kernel_rfl⟩, by decide⟩
theorem ok13 (X : K.In h) (G : h.Ns mainGlobals mg) (c : He.SaysD fa fn K) (F : FunD K "is_statement_for" "is_statement_for" (defArgs (top 32)) (defBody (top 32)) (defScope (top 32)) [] [] (He.ga K "is_statement_for") fd) : DefOk K mg T cs f13 (He.ga K "is_statement_for") fd :=
  ⟨⟨_, _, _, _, F, He.glo_ok X G (c.fact 13 (f := .glo "is_statement_for") rfl), FunD.bindsN F (fun _ _ _ _ _ _ us hl => match us, hl with | [_, _], _ => rfl), ⟨rfl, rfl, rfl, by decide +kernel, by kernel_rfl, by decide +kernel, by decide +kernel⟩, by kernel_rfl⟩, by decide⟩
theorem ok14 (X : K.In h) (G : h.Ns mainGlobals mg) (c : He.SaysD fa fn K) (F : FunD K "number_bounds" "number_bounds" (defArgs (top 33)) (defBody (top 33)) (defScope (top 33)) [] [] (He.ga K "number_bounds") fd) : DefOk K mg T cs f14 (He.ga K "number_bounds") fd :=
  ⟨⟨_, _, _, _, F, He.glo_ok X G (c.fact 14 (f := .glo "number_bounds") rfl), FunD.bindsN F (fun _ _ _ _ _ _ us hl => match us, hl with | [_, _], _ => rfl), ⟨rfl, rfl, rfl, by decide +kernel, by kernel_rfl, by decide +kernel, by decide +kernel⟩, by kernel_rfl⟩, by decide⟩
theorem ok15 (X : K.In h) (G : h.Ns mainGlobals mg) (c : He.SaysD fa fn K) (F : FunD K "surely_holds" "surely_holds" (defArgs (top 34)) (defBody (top 34)) (defScope (top 34)) [] [] (He.ga K "surely_holds") fd) : DefOk K mg T cs f15 (He.ga K "surely_holds") fd :=
  ⟨⟨_, _, _, _, F, He.glo_ok X G (c.fact 15 (f := .glo "surely_holds") rfl), FunD.bindsN F (fun _ _ _ _ _ _ us hl => match us, hl with | [_, _], _ => rfl), ⟨rfl, rfl, rfl, by decide +kernel, by kernel_rfl, by decide +kernel, by decide +kernel⟩, by kernel_rfl⟩, by decide⟩
theorem ok16 (X : K.In h) (G : h.Ns mainGlobals mg) (c : He.SaysD fa fn K) (F : FunD K "are_coarser" "are_coarser" (defArgs (top 37)) (defBody (top 37)) (defScope (top 37)) [] [] (He.ga K "are_coarser") fd) : DefOk K mg T cs f16 (He.ga K "are_coarser") fd :=
  ⟨⟨_, _, _, _, F, He.glo_ok X G (c.fact 16 (f := .glo "are_coarser") rfl), FunD.bindsN F (fun _ _ _ _ _ _ us hl => match us, hl with | [_, _], _ => rfl), ⟨rfl, rfl, rfl, by decide +kernel, by kernel_rfl, by decide +kernel, by decide +kernel⟩, by kernel_rfl⟩, by decide⟩
theorem ok17 (X : K.In h) (G : h.Ns mainGlobals mg) (c : He.SaysD fa fn K) (F : FunD K "merged" "merged" (defArgs (top 38)) (defBody (top 38)) (defScope (top 38)) [] [] (He.ga K "merged") fd) : DefOk K mg T cs f17 (He.ga K "merged") fd :=
  ⟨⟨_, _, _, _, F, He.glo_ok X G (c.fact 17 (f := .glo "merged") rfl), FunD.bindsN F (fun _ _ _ _ _ _ us hl => match us, hl with | [_, _], _ => rfl), ⟨rfl, rfl, rfl, by decide +kernel, by kernel_rfl, by decide +kernel, by decide +kernel⟩, by kernel_rfl⟩, by decide⟩
theorem ok18 (X : K.In h) (G : h.Ns mainGlobals mg) (c : He.SaysD fa fn K) (F : FunD K "coarsened" "coarsened" (defArgs (top 39)) (defBody (top 39)) (defScope (top 39)) [] [] (He.ga K "coarsened") fd) : DefOk K mg T cs f18 (He.ga K "coarsened") fd :=
  ⟨⟨_, _, _, _, F, He.glo_ok X G (c.fact 18 (f := .glo "coarsened") rfl), FunD.bindsN F (fun _ _ _ _ _ _ us hl => match us, hl with | [_, _], _ => rfl), ⟨rfl, rfl, rfl, by decide +kernel, by kernel_rfl, by decide +kernel, by decide +kernel⟩, by kernel_rfl⟩, by decide⟩
theorem ok19 (X : K.In h) (G : h.Ns mainGlobals mg) (c : He.SaysD fa fn K) (F : FunD K "all_coarser" "all_coarser" (defArgs (top 40)) (defBody (top 40)) (defScope (top 40)) [] [] (He.ga K "all_coarser") fd) : DefOk K mg T cs f19 (He.ga K "all_coarser") fd :=
  ⟨⟨_, _, _, _, F, He.glo_ok X G (c.fact 19 (f := .glo "all_coarser") rfl), FunD.bindsN F (fun _ _ _ _ _ _ us hl => match us, hl with | [_], _ => rfl), ⟨rfl, rfl, rfl, by decide +kernel, by kernel_rfl, by decide +kernel, by decide +kernel⟩, by kernel_rfl⟩, by decide⟩
theorem ok20 (X : K.In h) (G : h.Ns mainGlobals mg) (c : He.SaysD fa fn K) (F : FunD K "fewest_borders" "fewest_borders" (defArgs (top 41)) (defBody (top 41)) (defScope (top 41)) [] [] (He.ga K "fewest_borders") fd) : DefOk K mg T cs f20 (He.ga K "fewest_borders") fd :=
  ⟨⟨_, _, _, _, F, He.glo_ok X G (c.fact 20 (f := .glo "fewest_borders") rfl), FunD.bindsN F (fun _ _ _ _ _ _ us hl => match us, hl with | [_, _], _ => rfl), ⟨rfl, rfl, rfl, by decide +kernel, by kernel_rfl, by decide +kernel, by decide +kernel⟩, by kernel_rfl⟩, by decide⟩
theorem ok21 (X : K.In h) (G : h.Ns mainGlobals mg) (c : He.SaysD fa fn K) (F : FunD K "looseness" "looseness" (defArgs (top 42)) (defBody (top 42)) (defScope (top 42)) [] [] (He.ga K "looseness") fd) : DefOk K mg T cs f21 (He.ga K "looseness") fd :=
  ⟨⟨_, _, _, _, F, He.glo_ok X G (c.fact 21 (f := .glo "looseness") rfl), FunD.bindsN F (fun _ _ _ _ _ _ us hl => match us, hl with | [_], _ => rfl), ⟨rfl, rfl, rfl, by decide +kernel, by kernel_rfl, by decide +kernel, by decide +kernel⟩, by kernel_rfl⟩, by decide⟩
theorem ok22 (X : K.In h) (G : h.Ns mainGlobals mg) (c : He.SaysD fa fn K) (F : FunD K "least_loss" "least_loss" (defArgs (top 43)) (defBody (top 43)) (defScope (top 43)) [] [] (He.ga K "least_loss") fd) : DefOk K mg T cs f22 (He.ga K "least_loss") fd :=
  ⟨⟨_, _, _, _, F, He.glo_ok X G (c.fact 22 (f := .glo "least_loss") rfl), FunD.bindsN F (fun _ _ _ _ _ _ us hl => match us, hl with | [_], _ => rfl), ⟨rfl, rfl, rfl, by decide +kernel, by kernel_rfl, by decide +kernel, by decide +kernel⟩, by kernel_rfl⟩, by decide⟩
theorem ok23 (X : K.In h) (G : h.Ns mainGlobals mg) (c : He.SaysD fa fn K) (F : FunD K "_law_ends" "_law_ends" (defArgs (top 45)) (defBody (top 45)) (defScope (top 45)) [] [] (He.ga K "_law_ends") fd) : DefOk K mg T cs f23 (He.ga K "_law_ends") fd :=
  ⟨⟨_, _, _, _, F, He.glo_ok X G (c.fact 23 (f := .glo "_law_ends") rfl), FunD.bindsN F (fun _ _ _ _ _ _ us hl => match us, hl with | [_], _ => rfl), ⟨rfl, rfl, rfl, by decide +kernel, by kernel_rfl, by decide +kernel, by decide +kernel⟩, by kernel_rfl⟩, by decide⟩
theorem ok24 (X : K.In h) (G : h.Ns mainGlobals mg) (c : He.SaysD fa fn K) (F : FunD K "_law_number" "_law_number" (defArgs (top 46)) (defBody (top 46)) (defScope (top 46)) [] [] (He.ga K "_law_number") fd) : DefOk K mg T cs f24 (He.ga K "_law_number") fd :=
  ⟨⟨_, _, _, _, F, He.glo_ok X G (c.fact 24 (f := .glo "_law_number") rfl), FunD.bindsN F (fun _ _ _ _ _ _ us hl => match us, hl with | [_, _], _ => rfl), ⟨rfl, rfl, rfl, by decide +kernel, by kernel_rfl, by decide +kernel, by decide +kernel⟩, by kernel_rfl⟩, by decide⟩
theorem ok25 (X : K.In h) (G : h.Ns mainGlobals mg) (c : He.SaysD fa fn K) (F : FunD K "_law_true" "_law_true" (defArgs (top 47)) (defBody (top 47)) (defScope (top 47)) [] [] (He.ga K "_law_true") fd) : DefOk K mg T cs f25 (He.ga K "_law_true") fd :=
  ⟨⟨_, _, _, _, F, He.glo_ok X G (c.fact 25 (f := .glo "_law_true") rfl), FunD.bindsN F (fun _ _ _ _ _ _ us hl => match us, hl with | [_, _], _ => rfl), ⟨rfl, rfl, rfl, by decide +kernel, by kernel_rfl, by decide +kernel, by decide +kernel⟩, by kernel_rfl⟩, by decide⟩
theorem ok26 (X : K.In h) (G : h.Ns mainGlobals mg) (c : He.SaysD fa fn K) (F : FunD K "_law_pick" "_law_pick" (defArgs (top 48)) (defBody (top 48)) (defScope (top 48)) [] [] (He.ga K "_law_pick") fd) : DefOk K mg T cs f26 (He.ga K "_law_pick") fd :=
  ⟨⟨_, _, _, _, F, He.glo_ok X G (c.fact 26 (f := .glo "_law_pick") rfl), FunD.bindsN F (fun _ _ _ _ _ _ us hl => match us, hl with | [_, _, _], _ => rfl), ⟨rfl, rfl, rfl, by decide +kernel, by kernel_rfl, by decide +kernel, by decide +kernel⟩, by kernel_rfl⟩, by decide⟩
theorem ok27 (X : K.In h) (G : h.Ns mainGlobals mg) (c : He.SaysD fa fn K) (F : FunD K "_law_borders" "_law_borders" (defArgs (top 49)) (defBody (top 49)) (defScope (top 49)) [] [] (He.ga K "_law_borders") fd) : DefOk K mg T cs f27 (He.ga K "_law_borders") fd :=
  ⟨⟨_, _, _, _, F, He.glo_ok X G (c.fact 27 (f := .glo "_law_borders") rfl), FunD.bindsN F (fun _ _ _ _ _ _ us hl => match us, hl with | [_, _, _], _ => rfl), ⟨rfl, rfl, rfl, by decide +kernel, by kernel_rfl, by decide +kernel, by decide +kernel⟩, by kernel_rfl⟩, by decide⟩
theorem ok28 (X : K.In h) (G : h.Ns mainGlobals mg) (c : He.SaysD fa fn K) (F : FunD K "_law_histogram" "_law_histogram" (defArgs (top 50)) (defBody (top 50)) (defScope (top 50)) [] [] (He.ga K "_law_histogram") fd) : DefOk K mg T cs f28 (He.ga K "_law_histogram") fd :=
  ⟨⟨_, _, _, _, F, He.glo_ok X G (c.fact 28 (f := .glo "_law_histogram") rfl), FunD.bindsN F (fun _ _ _ _ _ _ us hl => match us, hl with | [_, _, _], _ => rfl), ⟨rfl, rfl, rfl, by decide +kernel, by kernel_rfl, by decide +kernel, by decide +kernel⟩, by kernel_rfl⟩, by decide⟩
theorem ok29 (X : K.In h) (G : h.Ns mainGlobals mg) (c : He.SaysD fa fn K) (F : FunD K "_law_statement" "_law_statement" (defArgs (top 51)) (defBody (top 51)) (defScope (top 51)) [] [] (He.ga K "_law_statement") fd) : DefOk K mg T cs f29 (He.ga K "_law_statement") fd :=
  ⟨⟨_, _, _, _, F, He.glo_ok X G (c.fact 29 (f := .glo "_law_statement") rfl), FunD.bindsN F (fun _ _ _ _ _ _ us hl => match us, hl with | [_, _, _], _ => rfl), ⟨rfl, rfl, rfl, by decide +kernel, by kernel_rfl, by decide +kernel, by decide +kernel⟩, by kernel_rfl⟩, by decide⟩
theorem ok30 (X : K.In h) (G : h.Ns mainGlobals mg) (c : He.SaysD fa fn K) (F : FunD K "_law_folded" "_law_folded" (defArgs (top 52)) (defBody (top 52)) (defScope (top 52)) [] [] (He.ga K "_law_folded") fd) : DefOk K mg T cs f30 (He.ga K "_law_folded") fd :=
  ⟨⟨_, _, _, _, F, He.glo_ok X G (c.fact 30 (f := .glo "_law_folded") rfl), FunD.bindsN F (fun _ _ _ _ _ _ us hl => match us, hl with | [_, _], _ => rfl), ⟨rfl, rfl, rfl, by decide +kernel, by kernel_rfl, by decide +kernel, by decide +kernel⟩, by kernel_rfl⟩, by decide⟩
theorem ok31 (X : K.In h) (G : h.Ns mainGlobals mg) (c : He.SaysD fa fn K) (F : FunD K "_law_sure" "_law_sure" (defArgs (top 53)) (defBody (top 53)) (defScope (top 53)) [] [] (He.ga K "_law_sure") fd) : DefOk K mg T cs f31 (He.ga K "_law_sure") fd :=
  ⟨⟨_, _, _, _, F, He.glo_ok X G (c.fact 31 (f := .glo "_law_sure") rfl), FunD.bindsN F (fun _ _ _ _ _ _ us hl => match us, hl with | [_, _], _ => rfl), ⟨rfl, rfl, rfl, by decide +kernel, by kernel_rfl, by decide +kernel, by decide +kernel⟩, by kernel_rfl⟩, by decide⟩
theorem ok32 (X : K.In h) (G : h.Ns mainGlobals mg) (c : He.SaysD fa fn K) (F : FunD K "law" "law" (defArgs (top 54)) (defBody (top 54)) (defScope (top 54)) [] [] (He.ga K "law") fd) : DefOk K mg T cs f32 (He.ga K "law") fd :=
  ⟨⟨_, _, _, _, F, He.glo_ok X G (c.fact 32 (f := .glo "law") rfl), FunD.bindsN F (fun _ _ _ _ _ _ us hl => match us, hl with | [_], _ => rfl), ⟨rfl, rfl, rfl, by decide +kernel, by kernel_rfl, by decide +kernel, by decide +kernel⟩, by kernel_rfl⟩, by decide⟩
theorem all_ok (X : K.In h) (G : h.Ns mainGlobals mg) (c : He.SaysD fa fn K) : ∀ (i : Nat) (f : FnD), T[i]? = some f → ∃ a fd, DefOk K mg T cs f a fd
  | 0, f, hf => by
    obtain ⟨fd, F⟩ := c.def_ 0 (d := d_ "is_int" 13) rfl
    obtain rfl := Option.some.inj (show some f0 = some f from hf)
    exact ⟨_, fd, ok0 X G c F⟩
  | 1, f, hf => by
    obtain ⟨fd, F⟩ := c.def_ 1 (d := d_ "are_borders" 14) rfl
    obtain rfl := Option.some.inj (show some f1 = some f from hf)
    exact ⟨_, fd, ok1 X G c F⟩
  | 2, f, hf => by
    obtain ⟨fd, F⟩ := c.def_ 2 (d := d_ "is_histogram" 15) rfl
    obtain rfl := Option.some.inj (show some f2 = some f from hf)
    exact ⟨_, fd, ok2 X G c F⟩
  | 3, f, hf => by
    obtain ⟨fd, F⟩ := c.def_ 3 (d := d_ "check_borders" 16) rfl
    obtain rfl := Option.some.inj (show some f3 = some f from hf)
    exact ⟨_, fd, ok3 X G c F⟩
  | 4, f, hf => by
    obtain ⟨fd, F⟩ := c.def_ 4 (d := d_ "check_histogram" 17) rfl
    obtain rfl := Option.some.inj (show some f4 = some f from hf)
    exact ⟨_, fd, ok4 X G c F⟩
  | 5, f, hf => by
    obtain ⟨fd, F⟩ := c.def_ 5 (d := d_ "size_of" 18) rfl
    obtain rfl := Option.some.inj (show some f5 = some f from hf)
    exact ⟨_, fd, ok5 X G c F⟩
  | 6, f, hf => by
    obtain ⟨fd, F⟩ := c.def_ 6 (d := d_ "filled" 20) rfl
    obtain rfl := Option.some.inj (show some f6 = some f from hf)
    exact ⟨_, fd, ok6 X G c F⟩
  | 7, f, hf => by
    obtain ⟨fd, F⟩ := c.def_ 7 (d := d_ "lowest" 21) rfl
    obtain rfl := Option.some.inj (show some f7 = some f from hf)
    exact ⟨_, fd, ok7 X G c F⟩
  | 8, f, hf => by
    obtain ⟨fd, F⟩ := c.def_ 8 (d := d_ "highest" 22) rfl
    obtain rfl := Option.some.inj (show some f8 = some f from hf)
    exact ⟨_, fd, ok8 X G c F⟩
  | 9, f, hf => by
    obtain ⟨fd, F⟩ := c.def_ 9 (d := d_ "find_bounds" 23) rfl
    obtain rfl := Option.some.inj (show some f9 = some f from hf)
    exact ⟨_, fd, ok9 X G c F⟩
  | 10, f, hf => by
    obtain ⟨fd, F⟩ := c.def_ 10 (d := d_ "find_range" 24) rfl
    obtain rfl := Option.some.inj (show some f10 = some f from hf)
    exact ⟨_, fd, ok10 X G c F⟩
  | 11, f, hf => by
    obtain ⟨fd, F⟩ := c.def_ 11 (d := d_ "find_sums" 26) rfl
    obtain rfl := Option.some.inj (show some f11 = some f from hf)
    exact ⟨_, fd, ok11 X G c F⟩
  | 12, f, hf => by
    obtain ⟨fd, F⟩ := c.def_ 12 (d := d_ "is_total" 31) rfl
    obtain rfl := Option.some.inj (show some f12 = some f from hf)
    exact ⟨_, fd, ok12 X G c F⟩
  | 13, f, hf => by
    obtain ⟨fd, F⟩ := c.def_ 13 (d := d_ "is_statement_for" 32) rfl
    obtain rfl := Option.some.inj (show some f13 = some f from hf)
    exact ⟨_, fd, ok13 X G c F⟩
  | 14, f, hf => by
    obtain ⟨fd, F⟩ := c.def_ 14 (d := d_ "number_bounds" 33) rfl
    obtain rfl := Option.some.inj (show some f14 = some f from hf)
    exact ⟨_, fd, ok14 X G c F⟩
  | 15, f, hf => by
    obtain ⟨fd, F⟩ := c.def_ 15 (d := d_ "surely_holds" 34) rfl
    obtain rfl := Option.some.inj (show some f15 = some f from hf)
    exact ⟨_, fd, ok15 X G c F⟩
  | 16, f, hf => by
    obtain ⟨fd, F⟩ := c.def_ 16 (d := d_ "are_coarser" 37) rfl
    obtain rfl := Option.some.inj (show some f16 = some f from hf)
    exact ⟨_, fd, ok16 X G c F⟩
  | 17, f, hf => by
    obtain ⟨fd, F⟩ := c.def_ 17 (d := d_ "merged" 38) rfl
    obtain rfl := Option.some.inj (show some f17 = some f from hf)
    exact ⟨_, fd, ok17 X G c F⟩
  | 18, f, hf => by
    obtain ⟨fd, F⟩ := c.def_ 18 (d := d_ "coarsened" 39) rfl
    obtain rfl := Option.some.inj (show some f18 = some f from hf)
    exact ⟨_, fd, ok18 X G c F⟩
  | 19, f, hf => by
    obtain ⟨fd, F⟩ := c.def_ 19 (d := d_ "all_coarser" 40) rfl
    obtain rfl := Option.some.inj (show some f19 = some f from hf)
    exact ⟨_, fd, ok19 X G c F⟩
  | 20, f, hf => by
    obtain ⟨fd, F⟩ := c.def_ 20 (d := d_ "fewest_borders" 41) rfl
    obtain rfl := Option.some.inj (show some f20 = some f from hf)
    exact ⟨_, fd, ok20 X G c F⟩
  | 21, f, hf => by
    obtain ⟨fd, F⟩ := c.def_ 21 (d := d_ "looseness" 42) rfl
    obtain rfl := Option.some.inj (show some f21 = some f from hf)
    exact ⟨_, fd, ok21 X G c F⟩
  | 22, f, hf => by
    obtain ⟨fd, F⟩ := c.def_ 22 (d := d_ "least_loss" 43) rfl
    obtain rfl := Option.some.inj (show some f22 = some f from hf)
    exact ⟨_, fd, ok22 X G c F⟩
  | 23, f, hf => by
    obtain ⟨fd, F⟩ := c.def_ 23 (d := d_ "_law_ends" 45) rfl
    obtain rfl := Option.some.inj (show some f23 = some f from hf)
    exact ⟨_, fd, ok23 X G c F⟩
  | 24, f, hf => by
    obtain ⟨fd, F⟩ := c.def_ 24 (d := d_ "_law_number" 46) rfl
    obtain rfl := Option.some.inj (show some f24 = some f from hf)
    exact ⟨_, fd, ok24 X G c F⟩
  | 25, f, hf => by
    obtain ⟨fd, F⟩ := c.def_ 25 (d := d_ "_law_true" 47) rfl
    obtain rfl := Option.some.inj (show some f25 = some f from hf)
    exact ⟨_, fd, ok25 X G c F⟩
  | 26, f, hf => by
    obtain ⟨fd, F⟩ := c.def_ 26 (d := d_ "_law_pick" 48) rfl
    obtain rfl := Option.some.inj (show some f26 = some f from hf)
    exact ⟨_, fd, ok26 X G c F⟩
  | 27, f, hf => by
    obtain ⟨fd, F⟩ := c.def_ 27 (d := d_ "_law_borders" 49) rfl
    obtain rfl := Option.some.inj (show some f27 = some f from hf)
    exact ⟨_, fd, ok27 X G c F⟩
  | 28, f, hf => by
    obtain ⟨fd, F⟩ := c.def_ 28 (d := d_ "_law_histogram" 50) rfl
    obtain rfl := Option.some.inj (show some f28 = some f from hf)
    exact ⟨_, fd, ok28 X G c F⟩
  | 29, f, hf => by
    obtain ⟨fd, F⟩ := c.def_ 29 (d := d_ "_law_statement" 51) rfl
    obtain rfl := Option.some.inj (show some f29 = some f from hf)
    exact ⟨_, fd, ok29 X G c F⟩
  | 30, f, hf => by
    obtain ⟨fd, F⟩ := c.def_ 30 (d := d_ "_law_folded" 52) rfl
    obtain rfl := Option.some.inj (show some f30 = some f from hf)
    exact ⟨_, fd, ok30 X G c F⟩
  | 31, f, hf => by
    obtain ⟨fd, F⟩ := c.def_ 31 (d := d_ "_law_sure" 53) rfl
    obtain rfl := Option.some.inj (show some f31 = some f from hf)
    exact ⟨_, fd, ok31 X G c F⟩
  | 32, f, hf => by
    obtain ⟨fd, F⟩ := c.def_ 32 (d := d_ "law" 54) rfl
    obtain rfl := Option.some.inj (show some f32 = some f from hf)
    exact ⟨_, fd, ok32 X G c F⟩
  | n + 33, f, hf => by cases hf
theorem bus (X : K.In h) (G : h.Ns mainGlobals mg) (c : He.SaysD fa fn K) : ∀ x ∈ buNames, mg x = none := fun x hx =>
  He.free_ok X G (c.facts (f := .free x) (List.mem_append_right _ (List.mem_append_left _ (List.mem_map_of_mem hx))))
theorem cos (X : K.In h) (G : h.Ns mainGlobals mg) (c : He.SaysD fa fn K) : ∀ x d, cs.lookup x = some d → ∃ v u, mg x = some u ∧ RelV v u ∧ ∀ H M, Rep K H M d v := co_of fun p hp => by
  simp only [cs, List.mem_cons, List.not_mem_nil, or_false] at hp
  rcases hp with rfl | rfl | rfl | rfl | rfl | rfl | rfl | rfl | rfl
  · exact co_int (He.int_ok X G (c.fact 50 (f := .int "MAX_VALUE" 999) rfl))
  · exact co_int (He.int_ok X G (c.fact 51 (f := .int "MAX_DATA" 200) rfl))
  · exact co_int (He.int_ok X G (c.fact 52 (f := .int "MAX_BORDERS" 12) rfl))
  · exact co_int (He.int_ok X G (c.fact 53 (f := .int "MAX_BORDER" 1000) rfl))
  · exact co_int (He.int_ok X G (c.fact 54 (f := .int "MAX_COUNT" 60) rfl))
  · exact co_str (He.str_ok X G (c.fact 56 (f := .str "RANK" "rank") rfl))
  · exact co_str (He.str_ok X G (c.fact 57 (f := .str "LESS" "less") rfl))
  · exact co_str (He.str_ok X G (c.fact 58 (f := .str "SUM" "sum") rfl))
  · exact co_int (He.int_ok X G (c.fact 55 (f := .int "MAX_STATEMENTS" 6) rfl))
end
/-- what is wanted of the pure form -/
def Wish : Prop := ∀ ns : List Int, ns.length ≤ 63 → PL.run T 40 32 [.scr ns] = .ok (.bl true)
end K36
open PySem PySem.W PySem.Calls PyProof.Rows
theorem K36.row_of (wish : K36.Wish) : PySem.Challenge.rw_bucketdata_k36_whole_fewest.Holds := by
  w_on; o_law
  refine HandSHeadRun.head_any (r := OpenLaw.row PySem.Challenge.rw_bucketdata_k36_whole_fewest) (q := view (OpenLaw.row PySem.Challenge.rw_bucketdata_k36_whole_fewest).prog [54]) (H := K36.hk) (ob := K36.ob) (M := 6000) (loose := K36.loose) (d := HandSHeadRun.topDef (OpenLaw.row PySem.Challenge.rw_bucketdata_k36_whole_fewest).prog 54) (kwd := []) K36.ob_eq
    (by kernel_rfl) (fun s => by kernel_rfl) K36.run_eq (by kernel_rfl) (by kernel_rfl) (by kernel_rfl) (by rfl) (by first | assumption | decide +kernel) (by decide +kernel) ⟨rfl, rfl, rfl, rfl, rfl, by decide +kernel⟩ ?hw ?hc
  case hw => w_witness2
  case hc =>
    refine L2.walk_ofE (l := PySem.Challenge.rw_bucketdata_k36_whole_fewest) (n := 63) (k := 40) (x := "_law_script") (CX := PL.CXa (PySem.Challenge.rw_bucketdata_k36_whole_fewest).prog) rfl (by decide) (by kernel_rfl) ⟨rfl, by decide, by decide⟩ ?F (fun _ _ _ _ z => PL.CXa_end z)
    intro w mg fa h Y G hmg0
    obtain ⟨K, KX, c⟩ := Y
    have hmg : mg ("law" : PySem.Str) = some (.ref fa) := by
      have e : (HandSHeadRun.topDef (OpenLaw.row PySem.Challenge.rw_bucketdata_k36_whole_fewest).prog 54).name = ("law" : PySem.Str) := by kernel_rfl
      rw [← e]
      exact hmg0
    obtain ⟨fd, F⟩ := c.def_ 32 (d := K36.d_ "law" 54) rfl
    have d := K36.ok32 KX G c F
    have e := hmg.symm.trans (He.glo_ok KX G (c.fact 32 (f := .glo "law") rfl))
    cases e
    have b := L2.FunD.bindsA (ps := ["_law_script"]) F fun _ _ _ _ _ _ us hl => match us, hl with | [_], _ => rfl
    exact ⟨K, fd, PL.spD K (fun _ => .none) (PL.run K36.T 40 32) false 1, KX, fun s v => b s [v] rfl, fun H a ns hl hO hS => PL.law_sp hO hS (wish ns hl), fun base _ _ =>
      PL.FnOk.any (PL.fns_ok (fun _ => .none) (K36.all_ok KX G c) (K36.bus KX G c) (K36.cos KX G c) 40 32 K36.f32 _ fd rfl d)⟩
set_option maxRecDepth 100000 in
set_option maxHeartbeats 0 in
theorem PySem.Challenge.cw_bucketdata_k36_whole_fewest_holds : PySem.Challenge.rw_bucketdata_k36_whole_fewest.Holds :=
  K36.row_of (K36.wish_of Y.k36_true)
