import PyProof.Rows.All
import Wide.All
import OpenK.AllK
import Wide.FinOn
import HandS.ForMost
import HandS.TupAny
import HandS.TupMul
import HandS.Deep
import HandS.Flow
import HandS.Style
import HandS.SortInts
import HandS.TupLe
import HandS.IsInst
import HandS.Small
import PyProof.SeqIndex
import HandS.ForExc
import HandS.Defaults
import HandS.ExcIs
import HandS.ExcOwn
import HandS.Codes
import HandS.Head0
import HandS.Head1
import HandS.Head2
import HandS.HeadEnd
import HandS.HeadHook1
import HandS.HeadHook2
import HandS.HeadHook4
import KE.KStateDown
import PySem.Challenge.RW_oneline_k00_rows_of_bits
set_option Elab.async false
set_option linter.all false
set_option maxRecDepth 100000
set_option maxHeartbeats 0
/-! Pv0: a small language of pure values, and its interpreter. -/
namespace Pv
open PySem
/-! ### values -/
/-- ground values: they never change -/
inductive G where
  | non | bl (b : Bool) | int (i : Int) | str (s : Str) | tup (xs : List G)
deriving Inhabited
/-- run-time values: ground ones and lists, each of which has one owner -/
inductive R where
  | g (x : G) | lst (xs : List R)
deriving Inhabited
mutual
def G.dep : G → Nat
  | .tup xs => G.deps xs + 1
  | _ => 0
def G.deps : List G → Nat
  | [] => 0
  | x :: xs => max x.dep (G.deps xs)
end
mutual
def G.lay : G → Bool
  | .str s => PyData.strOk s
  | .tup xs => G.lays xs
  | _ => true
def G.lays : List G → Bool
  | [] => true
  | x :: xs => G.lay x && G.lays xs
end
/-- what == can tell -/
def fit (x : G) : Bool := x.lay && decide (x.dep ≤ 60)
def fits (xs : List G) : Bool := G.lays xs && decide (G.deps xs ≤ 59)
def b2 (b : Bool) : Int := if b then 1 else 0
mutual
/-- Python's == of ground values -/
def G.eqv : G → G → Bool
  | .non, .non => true
  | .bl a, .bl b => a == b
  | .bl a, .int j => b2 a == j
  | .int i, .bl b => i == b2 b
  | .int i, .int j => i == j
  | .str s, .str t => s == t
  | .tup xs, .tup ys => G.eqvs xs ys
  | _, _ => false
def G.eqvs : List G → List G → Bool
  | [], [] => true
  | x :: xs, y :: ys => G.eqv x y && G.eqvs xs ys
  | _, _ => false
end
/-- the items of a list that are all ground -/
def toGs : List R → Option (List G)
  | [] => some []
  | .g x :: r => (toGs r).map (x :: ·)
  | .lst _ :: _ => none
def fl (xs : List G) : R := .lst (xs.map R.g)
/-- a result: a value, an exception of the class c, no promise -/
inductive Out (α : Type) where
  | ok (a : α) | exc (c : Nat) | stuck
def Out.bind {α β : Type} : Out α → (α → Out β) → Out β
  | .ok a, f => f a
  | .exc c, _ => .exc c
  | .stuck, _ => .stuck
/-- within a comprehension nothing is raised -/
def noexc {α : Type} : Out α → Out α
  | .ok a => .ok a
  | _ => .stuck
instance : Monad Out where
  pure := .ok
  bind := Out.bind
def ofOpt {α : Type} : Option α → Out α
  | some a => .ok a
  | none => .stuck
/-! ### the text -/
inductive BOp where
  | add | sub | mul | mod | fdiv | pow | shl | shr | band | bxor | bor
deriving DecidableEq
inductive COp where
  | eq | ne | lt | le | gt | ge | is_ | isnt | in_ | nin
deriving DecidableEq
inductive Ty where
  | bool | int | str | tuple | list
deriving DecidableEq
inductive B1 where
  | len | tuple | list | int | abs | sum | all | any | sorted | max | min
deriving DecidableEq
inductive B2 where
  | max | min
deriving DecidableEq
inductive M1 where
  | index | count
deriving DecidableEq
/-- expressions; nil and cons make lists of them -/
inductive E where
  | nil | cons (e es : E)
  | k (g : G)
  | var (j : Nat)
  | tup (es : E) | lst (es : E)
  | bin (op : BOp) (a b : E)
  | neg (a : E) | not (a : E)
  | and (a b : E) | or (a b : E)
  | ite (c a b : E)
  | cmp (a t : E) | cc (op : COp) (b t : E)
  | ix (a i : E)
  | sl (a lo hi : E)
  | back (a : E)
  | call (f : Nat) (es : E)
  | b1 (f : B1) (a : E)
  | b2 (f : B2) (a b : E)
  | isi (a : E) (t : Ty)
  | mth (m : M1) (a b : E)
  | pop (j : Nat) | popAt (j : Nat) (i : E)
  | rng1 (a : E) | rng2 (a b : E) | rng3 (a b c : E) | it (e : E)
  | comp (elt tg it cond : E)
  | comp2 (elt tg it cond tg1 it1 cond1 : E)
deriving Inhabited
inductive S where
  | skip | seq (s t : S)
  | exp (e : E)
  | set (j : Nat) (e : E)
  | unp (tg e : E)
  | par (js : List Nat) (es : E)
  | setix (j : Nat) (i e : E)
  | setix2 (j : Nat) (i k e : E)
  | aug (j : Nat) (op : BOp) (e : E)
  | augix (j : Nat) (i : E) (op : BOp) (e : E)
  | ifs (c : E) (s t : S)
  | for_ (tg it : E) (s : S)
  | while_ (c : E) (s : S)
  | ret (e : E) | brk | cont
  | app (j : Nat) (e : E)
  | appix (j : Nat) (i e : E)
  | rev (j : Nat)
  | raise (c : Nat)
  | tryx (e : E) (tbl : List (Nat × Option Bool))
deriving Inhabited
/-! ### the state -/
inductive Slot where
  | no | own (r : R) | arg (r : R) | bor (r : R)
deriving Inhabited
abbrev Env := List Slot
/-- what an expression gives: a value of its own, the object of slot j, something lent -/
inductive Q where
  | v (r : R) | s (j : Nat) | b (r : R)
abbrev CallT := Nat → List Slot → Out (R × List R)
def Slot.r? : Slot → Option R
  | .no => none
  | .own r => some r
  | .arg r => some r
  | .bor r => some r
def slotAt (ρ : Env) (j : Nat) : Slot := ρ.getD j .no
def deref (ρ : Env) : Q → Out R
  | .v r => .ok r
  | .s j => ofOpt (slotAt ρ j).r?
  | .b r => .ok r
def evVar (ρ : Env) (j : Nat) : Out (Q × Env) :=
  match slotAt ρ j with
  | .own (.g x) => .ok (.v (.g x), ρ)
  | .bor (.g x) => .ok (.v (.g x), ρ)
  | .own (.lst _) => .ok (.s j, ρ)
  | .arg (.lst _) => .ok (.s j, ρ)
  | .bor (.lst _) => .ok (.s j, ρ)
  | _ => .stuck
def frz : Slot → Slot
  | .own r => .bor r
  | .arg r => .bor r
  | x => x
def freeze (ρ : Env) : Env := ρ.map frz
def lend (ρ : Env) (j : Nat) : Env := ρ.set j (frz (slotAt ρ j))
/-- the slot back, if it is lent still -/
def unlend (j : Nat) (old : Slot) (ρ : Env) : Env :=
  match slotAt ρ j with
  | .bor _ => ρ.set j old
  | _ => ρ
def Slot.isNo : Slot → Bool
  | .no => true
  | _ => false
def mask : Env → Env → Env
  | a :: r, b :: s => (if a.isNo then .no else b) :: mask r s
  | _, _ => []
/-! ### operators -/
def line : Nat := 16777216
def i64 (i : Int) : Bool := decide (-(2 ^ 64) < i) && decide (i < 2 ^ 64)
def binop : BOp → R → R → Out R
  | .add, .g (.int i), .g (.int j) => .ok (.g (.int (i + j)))
  | .add, .g (.tup xs), .g (.tup ys) => if xs.length + ys.length ≤ line then .ok (.g (.tup (xs ++ ys))) else .stuck
  | .add, .lst xs, .lst ys => (match toGs xs, toGs ys with
    | some a, some b => if a.length + b.length ≤ line then .ok (fl (a ++ b)) else .stuck
    | _, _ => .stuck)
  | .sub, .g (.int i), .g (.int j) => .ok (.g (.int (i - j)))
  | .mul, .g (.int i), .g (.int j) => if i64 i || i64 j then .ok (.g (.int (i * j))) else .stuck
  | .mul, .g (.tup xs), .g (.int k) => if -1000 ≤ k ∧ k ≤ 1000 ∧ xs.length ≤ 1000 then .ok (.g (.tup (List.replicate k.toNat xs).flatten)) else .stuck
  | .mul, .lst xs, .g (.int k) => (match toGs xs with
    | some a => if -1000 ≤ k ∧ k ≤ 1000 ∧ a.length ≤ 1000 then .ok (fl (List.replicate k.toNat a).flatten) else .stuck
    | none => .stuck)
  | .mod, .g (.int i), .g (.int j) => if 0 < j then .ok (.g (.int (i % j))) else .stuck
  | .fdiv, .g (.int i), .g (.int j) => if 0 < j ∧ j < 1073741824 then .ok (.g (.int (i / j))) else .stuck
  | .pow, .g (.int i), .g (.int j) => if 0 ≤ j ∧ j ≤ 1000000 ∧ i64 i then .ok (.g (.int (i ^ j.toNat))) else .stuck
  | .shl, .g (.int i), .g (.int j) => if 0 ≤ j ∧ j ≤ 1000000 ∧ i64 i then .ok (.g (.int (i * 2 ^ j.toNat))) else .stuck
  | .shr, .g (.int i), .g (.int j) => if 0 ≤ j then .ok (.g (.int (i / 2 ^ j.toNat))) else .stuck
  | .band, .g (.int i), .g (.int j) => .ok (.g (.int (Builtin.bitAnd i j)))
  | .bxor, .g (.int i), .g (.int j) => .ok (.g (.int (Builtin.bitXor i j)))
  | .bor, .g (.int i), .g (.int j) => .ok (.g (.int (Builtin.bitOr i j)))
  | _, _, _ => .stuck
/-- a list that is multiplied is a new one -/
def mulBad : BOp → Q → R → Bool
  | .mul, .v _, _ => false
  | .mul, _, .lst _ => true
  | _, _, _ => false
def truth : R → Out Bool
  | .g .non => .ok false
  | .g (.bl b) => .ok b
  | .g (.int i) => .ok (i != 0)
  | .g (.tup xs) => .ok (!xs.isEmpty)
  | .lst xs => .ok (!xs.isEmpty)
  | _ => .stuck
def asB : R → Out Bool
  | .g (.bl b) => .ok b
  | _ => .stuck
/-- == where both are not too deep -/
def pyEq (x y : G) : Out Bool := if fit x && fit y then .ok (G.eqv x y) else .stuck
def pyIn (x : G) (ys : List G) : Out Bool := if fit x && fits ys then .ok (ys.any fun y => G.eqv y x) else .stuck
def items? : R → Option (List G)
  | .g (.tup xs) => some xs
  | .lst xs => toGs xs
  | _ => none
def cmpop : COp → R → R → Out Bool
  | .eq, .g x, .g y => pyEq x y
  | .ne, .g x, .g y => (pyEq x y).bind fun b => .ok (!b)
  | .eq, .lst xs, .lst ys => (match toGs xs, toGs ys with
    | some a, some b => pyEq (.tup a) (.tup b)
    | _, _ => .stuck)
  | .ne, .lst xs, .lst ys => (match toGs xs, toGs ys with
    | some a, some b => (pyEq (.tup a) (.tup b)).bind fun b => .ok (!b)
    | _, _ => .stuck)
  | .lt, .g (.int i), .g (.int j) => .ok (decide (i < j))
  | .le, .g (.int i), .g (.int j) => .ok (decide (i ≤ j))
  | .gt, .g (.int i), .g (.int j) => .ok (decide (j < i))
  | .ge, .g (.int i), .g (.int j) => .ok (decide (j ≤ i))
  | .is_, .g .non, .g .non => .ok true
  | .is_, _, .g .non => .ok false
  | .is_, .g (.bl a), .g (.bl b) => .ok (a == b)
  | .isnt, .g .non, .g .non => .ok false
  | .isnt, _, .g .non => .ok true
  | .isnt, .g (.bl a), .g (.bl b) => .ok (a != b)
  | .in_, .g x, y => (match items? y with
    | some ys => pyIn x ys
    | none => .stuck)
  | .nin, .g x, y => (match items? y with
    | some ys => (pyIn x ys).bind fun b => .ok (!b)
    | none => .stuck)
  | _, _, _ => .stuck
abbrev ixN := L2.ixN
abbrev atI {α : Type} (xs : List α) (i : Int) : Option α := L2.atI xs i
def ixop (own : Bool) : R → R → Out Q
  | .g (.tup xs), .g (.int i) => (match atI xs i with
    | some x => .ok (.v (.g x))
    | none => .stuck)
  | .lst xs, .g (.int i) => (match atI xs i with
    | some (.g x) => .ok (.v (.g x))
    | some r => .ok (.b r)
    | none => .stuck)
  | _, _ => .stuck
abbrev cutI (n d : Nat) (o : Option Int) : Nat := HT.sIx n d o
def cutL {α : Type} (xs : List α) (lo hi : Option Int) : List α := (xs.drop (cutI xs.length 0 lo)).take (cutI xs.length xs.length hi - cutI xs.length 0 lo)
def optI : R → Option (Option Int)
  | .g (.int i) => some (some i)
  | .g .non => some none
  | _ => none
def slop (a lo hi : R) : Out R :=
  match optI lo, optI hi with
  | some l, some h => (match a with
    | .g (.tup xs) => .ok (.g (.tup (cutL xs l h)))
    | .lst xs => (match toGs xs with
      | some ys => .ok (fl (cutL ys l h))
      | none => .stuck)
    | _ => .stuck)
  | _, _ => .stuck
def backop : R → Out R
  | .lst xs => (match toGs xs with
    | some ys => .ok (fl ys.reverse)
    | none => .stuck)
  | _ => .stuck
def toInts : List G → Option (List Int)
  | [] => some []
  | .int i :: r => (toInts r).map (i :: ·)
  | _ => none
def toBls : List G → Option (List Bool)
  | [] => some []
  | .bl i :: r => (toBls r).map (i :: ·)
  | _ => none
/-- into an ascending list -/
def insI (i : Int) : List Int → List Int
  | [] => [i]
  | j :: r => if i ≤ j then i :: j :: r else j :: insI i r
def sortI : List Int → List Int
  | [] => []
  | i :: r => insI i (sortI r)
def maxI : List Int → Option Int
  | [] => none
  | i :: r => some (r.foldl (fun a b => if b > a then b else a) i)
def minI : List Int → Option Int
  | [] => none
  | i :: r => some (r.foldl (fun a b => if b < a then b else a) i)
def b1op : B1 → R → Out R
  | .len, .g (.tup xs) => .ok (.g (.int xs.length))
  | .len, .lst xs => .ok (.g (.int xs.length))
  | .tuple, .g (.tup xs) => .ok (.g (.tup xs))
  | .tuple, .lst xs => (match toGs xs with
    | some ys => .ok (.g (.tup ys))
    | none => .stuck)
  | .list, .g (.tup xs) => .ok (fl xs)
  | .list, .lst xs => (match toGs xs with
    | some ys => .ok (fl ys)
    | none => .stuck)
  | .int, .g (.int i) => .ok (.g (.int i))
  | .int, .g (.bl b) => .ok (.g (.int (if b then 1 else 0)))
  | .abs, .g (.int i) => .ok (.g (.int (if i < 0 then -i else i)))
  | .sum, r => (match (items? r).bind toInts with
    | some ns => .ok (.g (.int ns.sum))
    | none => .stuck)
  | .all, .lst xs => (match (toGs xs).bind toBls with
    | some bs => .ok (.g (.bl (bs.all id)))
    | none => .stuck)
  | .any, .lst xs => (match (toGs xs).bind toBls with
    | some bs => .ok (.g (.bl (bs.any id)))
    | none => .stuck)
  | .sorted, .lst xs => (match (toGs xs).bind toInts with
    | some ns => .ok (fl ((sortI ns).map G.int))
    | none => .stuck)
  | .max, .lst xs => (match ((toGs xs).bind toInts).bind maxI with
    | some n => .ok (.g (.int n))
    | none => .stuck)
  | .min, .lst xs => (match ((toGs xs).bind toInts).bind minI with
    | some n => .ok (.g (.int n))
    | none => .stuck)
  | _, _ => .stuck
def b2op : B2 → R → R → Out R
  | .max, .g (.int i), .g (.int j) => .ok (.g (.int (if j > i then j else i)))
  | .min, .g (.int i), .g (.int j) => .ok (.g (.int (if j < i then j else i)))
  | _, _, _ => .stuck
def isiop : R → Ty → Bool
  | .g (.bl _), .bool => true
  | .g (.bl _), .int => true
  | .g (.int _), .int => true
  | .g (.str _), .str => true
  | .g (.tup _), .tuple => true
  | .lst _, .list => true
  | _, _ => false
def firstAt (x : G) : List G → Nat → Option Nat
  | [], _ => none
  | y :: r, n => if G.eqv y x then some n else firstAt x r (n + 1)
def mthop : M1 → R → R → Out R
  | .index, r, .g x => (match items? r with
    | some ys => if fit x && fits ys then (match firstAt x ys 0 with
      | some n => .ok (.g (.int n))
      | none => .stuck) else .stuck
    | none => .stuck)
  | .count, r, .g x => (match items? r with
    | some ys => if fit x && fits ys then .ok (.g (.int (ys.countP fun y => G.eqv y x))) else .stuck
    | none => .stuck)
  | _, _, _ => .stuck
def isL : R → Bool
  | .lst _ => true
  | _ => false
/-- the kind of a receiver -/
def recv (r : R) : Out Bool := match items? r with
  | some _ => .ok (isL r)
  | none => .stuck
def mthop2 (l : Bool) (m : M1) (r s : R) : Out R := if isL r = l then mthop m r s else .stuck
/-! ### slots written -/
/-- the list in a slot that may change -/
def mutL (ρ : Env) (j : Nat) : Option (List R) :=
  match slotAt ρ j with
  | .own (.lst xs) => some xs
  | .arg (.lst xs) => some xs
  | _ => none
def putL (ρ : Env) (j : Nat) (xs : List R) : Env :=
  match slotAt ρ j with
  | .arg _ => ρ.set j (.arg (.lst xs))
  | _ => ρ.set j (.own (.lst xs))
/-- a result becomes somebody's own: a value; a slot's object is moved -/
def take (ρ : Env) : Q → Out (R × Env)
  | .v r => .ok (r, ρ)
  | .s j => (match slotAt ρ j with
    | .own r => .ok (r, ρ.set j .no)
    | _ => .stuck)
  | .b _ => .stuck
def R.isG : R → Bool
  | .g _ => true
  | _ => false
/-! what stands for a target: x, or a tuple of such -/
mutual
def bindT : E → G → Env → Out Env
  | .var j, x, ρ => .ok (ρ.set j (.own (.g x)))
  | .tup ts, x, ρ => (match x with
    | .tup xs => bindTs ts xs ρ
    | _ => .stuck)
  | _, _, _ => .stuck
termination_by structural e => e
def bindTs : E → List G → Env → Out Env
  | .nil, xs, ρ => (match xs with
    | [] => .ok ρ
    | _ :: _ => .stuck)
  | .cons t ts, xs, ρ => (match xs with
    | x :: r => (bindT t x ρ).bind fun ρ' => bindTs ts r ρ'
    | [] => .stuck)
  | _, _, _ => .stuck
termination_by structural e => e
end
/-- the slots of a target -/
def tgs : E → List Nat
  | .var j => [j]
  | .tup ts => tgs ts
  | .cons t ts => tgs t ++ tgs ts
  | _ => []
def wipeS : Env → List Nat → Env
  | ρ, [] => ρ
  | ρ, j :: js => (wipeS ρ js).set j .no
def backS (old : Env) : Env → List Nat → Env
  | ρ, [] => ρ
  | ρ, j :: js => (backS old ρ js).set j (slotAt old j)
/-- a comprehension's target: a ground item, or one lent -/
def bindC (t : E) (r : R) (ρ : Env) : Out Env :=
  match r with
  | .g x => bindT t x ρ
  | .lst xs => (match t with
    | .var j => .ok (ρ.set j (.bor (.lst xs)))
    | _ => .stuck)
/-! ### calls -/
def hasB : List Q → Bool
  | [] => false
  | .b _ :: _ => true
  | _ :: r => hasB r
/-- the arguments; what is handed in and out is taken out of its slot meanwhile -/
def toArgs (fz : Bool) : List Q → Env → Out (List Slot × Env)
  | [], ρ => .ok ([], ρ)
  | .v (.g x) :: qs, ρ => (toArgs fz qs ρ).bind fun y => .ok (.own (.g x) :: y.1, y.2)
  | .v (.lst xs) :: qs, ρ => (toArgs fz qs ρ).bind fun y => .ok ((if fz then .bor (.lst xs) else .own (.lst xs)) :: y.1, y.2)
  | .b r :: qs, ρ => if fz then (toArgs fz qs ρ).bind fun y => .ok (.bor r :: y.1, y.2) else .stuck
  | .s j :: qs, ρ => (match slotAt ρ j with
    | .bor r => (toArgs fz qs ρ).bind fun y => .ok (.bor r :: y.1, y.2)
    | .own r => if fz then (toArgs fz qs ρ).bind fun y => .ok (.bor r :: y.1, y.2) else (toArgs fz qs (ρ.set j .no)).bind fun y => .ok (.arg r :: y.1, y.2)
    | .arg r => if fz then (toArgs fz qs ρ).bind fun y => .ok (.bor r :: y.1, y.2) else (toArgs fz qs (ρ.set j .no)).bind fun y => .ok (.arg r :: y.1, y.2)
    | .no => .stuck)
/-- as it was, with another list -/
def likeS (old : Slot) (r : R) : Slot :=
  match old with
  | .arg _ => .arg r
  | _ => .own r
/-- what was handed in comes back -/
def giveBack (old : Env) : List Q → List Slot → List R → Env → Out Env
  | .s j :: qs, .arg _ :: as, r :: rs, ρ => giveBack old qs as rs (ρ.set j (likeS (slotAt old j) r))
  | .s _ :: qs, .bor _ :: as, rs, ρ => giveBack old qs as rs ρ
  | .v _ :: qs, .own _ :: as, rs, ρ => giveBack old qs as rs ρ
  | .v _ :: qs, .bor _ :: as, rs, ρ => giveBack old qs as rs ρ
  | .b _ :: qs, .bor _ :: as, rs, ρ => giveBack old qs as rs ρ
  | [], [], [], ρ => .ok ρ
  | _, _, _, _ => .stuck
def doCall (cf : CallT) (f : Nat) (qs : List Q) (ρ : Env) : Out (Q × Env) :=
  (toArgs (hasB qs) qs ρ).bind fun x => (cf f x.1).bind fun y => (giveBack ρ qs x.1 y.2 x.2).bind fun ρ' => .ok (.v y.1, ρ')
/-! ### expressions -/
def rangeL (lo : Int) (n : Nat) : List R := (List.range n).map fun (i : Nat) => .g (.int (lo + (i : Int)))
def b62 (i : Int) : Bool := decide (-(2 ^ 62) ≤ i) && decide (i < 2 ^ 62)
def rangeS (lo hi st : Int) : List R :=
  if 0 < st then (List.range ((hi - lo + st - 1) / st).toNat).map fun (i : Nat) => .g (.int (lo + (i : Int) * st))
  else (List.range ((lo - hi + (-st) - 1) / (-st)).toNat).map fun (i : Nat) => .g (.int (lo + (i : Int) * st))
/-- what is walked: the items; the slot that is lent meanwhile; whether all is lent -/
inductive Lent where
  | none | slot (j : Nat) | all
def lendAs : Lent → Env → Env
  | .none, ρ => ρ
  | .slot j, ρ => lend ρ j
  | .all, ρ => freeze ρ
def itemsR : R → Option (List R)
  | .g (.tup xs) => some (xs.map R.g)
  | .lst xs => some xs
  | _ => none
/-- the turns of a comprehension -/
def compL (turn : R → Env → Out (List R × Env)) : List R → Env → Out (List R × Env)
  | [], ρ => .ok ([], ρ)
  | x :: xs, ρ => (turn x ρ).bind fun y => (compL turn xs y.2).bind fun z => .ok (y.1 ++ z.1, z.2)
/-- what was lent or hidden is back -/
def backC (l : Lent) (old ρ : Env) (js : List Nat) : Env :=
  match l with
  | .none => backS old ρ js
  | .slot j => (backS old ρ js).set j (slotAt old j)
  | .all => old
def E.isNil : E → Bool
  | .nil => true
  | _ => false
/-- an argument behind one that is lent: nothing may change -/
def behind (q : Q) (ρ : Env) (f : Env → Out (Q × Env)) : Out (Q × Env) :=
  match q with
  | .b _ => (f (freeze ρ)).bind fun y => .ok (y.1, ρ)
  | _ => f ρ
def behinds (q : Q) (ρ : Env) (f : Env → Out (List Q × Env)) : Out (List Q × Env) :=
  match q with
  | .b _ => (f (freeze ρ)).bind fun y => .ok (y.1, ρ)
  | _ => f ρ
def bl (b : Bool) : R := .g (.bl b)
def ints2 (ρ : Env) (a b : Q) : Out (Int × Int) := (deref ρ a).bind fun x => (deref ρ b).bind fun y =>
  match x, y with
  | .g (.int i), .g (.int j) => if b62 i && b62 j then .ok (i, j) else .stuck
  | _, _ => .stuck
/-- the items of a result that is walked -/
def walked (ρ : Env) : Q → Out (List R × Lent)
  | .v r => (match itemsR r with
    | some xs => .ok (xs, .none)
    | none => .stuck)
  | .s j => (match (slotAt ρ j).r? with
    | some (.lst xs) => .ok (xs, .slot j)
    | _ => .stuck)
  | .b (.lst xs) => .ok (xs, .all)
  | _ => .stuck
def gsOf : List Q → Option (List G)
  | [] => some []
  | .v (.g x) :: r => (gsOf r).map (x :: ·)
  | _ => none
def rsOf : List Q → Option (List R)
  | [] => some []
  | .v x :: r => (rsOf r).map (x :: ·)
  | _ => none
def optE (q : Q) (ρ : Env) (e : E) (f : Env → Out (Q × Env)) : Out (Option Int × Env) :=
  if e.isNil then .ok (none, ρ) else (behind q ρ f).bind fun y => (deref y.2 y.1).bind fun r => match r with
    | .g (.int i) => .ok (some i, y.2)
    | _ => .stuck
def slop2 (a : R) (l h : Option Int) : Out R :=
  match a with
  | .g (.tup xs) => .ok (.g (.tup (cutL xs l h)))
  | .lst xs => (match toGs xs with
    | some ys => .ok (fl (cutL ys l h))
    | none => .stuck)
  | _ => .stuck
def testE (f : Env → Out (Q × Env)) (ρ : Env) : Out (Bool × Env) := (f ρ).bind fun x => (deref x.2 x.1).bind fun r => (truth r).bind fun t => .ok (t, x.2)
def condE (c : Bool) (f : Env → Out (Q × Env)) (ρ : Env) : Out (Bool × Env) := if c then .ok (true, ρ) else testE f ρ
/-- a turn of a comprehension -/
def compT (tg : E) (c : Bool) (fc fe : Env → Out (Q × Env)) (r : R) (ρ : Env) : Out (List R × Env) :=
  noexc ((bindC tg r ρ).bind fun ρ1 => (condE c fc ρ1).bind fun c => if c.1 then (fe c.2).bind fun y => (match y.1 with
    | .v r => .ok ([r], wipeS y.2 (tgs tg))
    | _ => .stuck) else .ok ([], wipeS c.2 (tgs tg)))
def Lent.some? : Lent → Bool
  | .all => false
  | _ => true
/-- .. with a second source -/
def compT2 (tg tg1 : E) (c : Bool) (fc : Env → Out (Q × Env)) (fi : Env → Out ((List R × Lent) × Env)) (turn : R → Env → Out (List R × Env)) (r : R) (ρ : Env) : Out (List R × Env) :=
  noexc ((bindC tg r ρ).bind fun ρ1 => (condE c fc ρ1).bind fun c => if c.1 then (fi c.2).bind fun w => (if w.1.2.some? then compL turn w.1.1 (wipeS (lendAs w.1.2 w.2) (tgs tg1)) else .stuck).bind fun z => .ok (z.1, wipeS (backC w.1.2 w.2 z.2 (tgs tg1)) (tgs tg))
    else .ok ([], wipeS c.2 (tgs tg)))
section
variable (cf : CallT)
mutual
def ev : E → Env → Out (Q × Env)
  | .k g, ρ => .ok (.v (.g g), ρ)
  | .var j, ρ => evVar ρ j
  | .tup es, ρ => (evs es ρ).bind fun x => (match gsOf x.1 with
    | some gs => if gs.length ≤ line then .ok (.v (.g (.tup gs)), x.2) else .stuck
    | none => .stuck)
  | .lst es, ρ => (evs es ρ).bind fun x => (match rsOf x.1 with
    | some rs => if rs.length ≤ line then .ok (.v (.lst rs), x.2) else .stuck
    | none => .stuck)
  | .bin op a b, ρ => (ev a ρ).bind fun x => (behind x.1 x.2 (ev b)).bind fun y => (deref y.2 x.1).bind fun r => (deref y.2 y.1).bind fun s => (if mulBad op x.1 r then .stuck else binop op r s).bind fun z => .ok (.v z, y.2)
  | .neg a, ρ => (ev a ρ).bind fun x => (match x.1 with
    | .v (.g (.int i)) => .ok (.v (.g (.int (-i))), x.2)
    | _ => .stuck)
  | .not a, ρ => (ev a ρ).bind fun x => (deref x.2 x.1).bind fun r => (truth r).bind fun t => .ok (.v (bl (!t)), x.2)
  | .and a b, ρ => (ev a ρ).bind fun x => (deref x.2 x.1).bind fun r => (asB r).bind fun t => if t then ev b x.2 else .ok (.v (bl false), x.2)
  | .or a b, ρ => (ev a ρ).bind fun x => (deref x.2 x.1).bind fun r => (asB r).bind fun t => if t then .ok (.v (bl true), x.2) else ev b x.2
  | .ite c a b, ρ => (ev c ρ).bind fun x => (deref x.2 x.1).bind fun r => (truth r).bind fun t => if t then ev a x.2 else ev b x.2
  | .cmp a t, ρ => (ev a ρ).bind fun x => (evc t x.1 x.2).bind fun y => .ok (.v (bl y.1), y.2)
  | .ix a i, ρ => (ev a ρ).bind fun x => (behind x.1 x.2 (ev i)).bind fun y => (deref y.2 x.1).bind fun r => (deref y.2 y.1).bind fun s => (ixop true r s).bind fun z => .ok (z, y.2)
  | .sl a lo hi, ρ => (ev a ρ).bind fun x => (optE x.1 x.2 lo (ev lo)).bind fun y => (optE x.1 y.2 hi (ev hi)).bind fun z => (deref z.2 x.1).bind fun r => (slop2 r y.1 z.1).bind fun w => .ok (.v w, z.2)
  | .back a, ρ => (ev a ρ).bind fun x => (deref x.2 x.1).bind fun r => (backop r).bind fun z => .ok (.v z, x.2)
  | .call f es, ρ => (evs es ρ).bind fun x => doCall cf f x.1 x.2
  | .b1 f a, ρ => (ev a ρ).bind fun x => (deref x.2 x.1).bind fun r => (b1op f r).bind fun z => .ok (.v z, x.2)
  | .b2 f a b, ρ => (ev a ρ).bind fun x => (behind x.1 x.2 (ev b)).bind fun y => (deref y.2 x.1).bind fun r => (deref y.2 y.1).bind fun s => (b2op f r s).bind fun z => .ok (.v z, y.2)
  | .isi a t, ρ => (ev a ρ).bind fun x => (deref x.2 x.1).bind fun r => .ok (.v (bl (isiop r t)), x.2)
  | .mth m a b, ρ => (ev a ρ).bind fun x => (deref x.2 x.1).bind fun r0 => (recv r0).bind fun l0 => (behind x.1 x.2 (ev b)).bind fun y => (deref y.2 x.1).bind fun r => (deref y.2 y.1).bind fun s => (mthop2 l0 m r s).bind fun z => .ok (.v z, y.2)
  | .pop j, ρ => (match mutL ρ j with
    | some xs => (match xs.getLast? with
      | some x => .ok (.v x, putL ρ j xs.dropLast)
      | none => .stuck)
    | none => .stuck)
  | .popAt j i, ρ => (match mutL ρ j with
    | some _ => (ev i ρ).bind fun x => (match x.1, mutL x.2 j with
      | .v (.g (.int n)), some xs => if b62 n then (match ixN xs.length n with
        | some m => (match xs[m]? with
          | some y => .ok (.v y, putL x.2 j (xs.eraseIdx m))
          | none => .stuck)
        | none => .stuck) else .stuck
      | _, _ => .stuck)
    | none => .stuck)
  | .comp elt tg it cond, ρ => (evIt it ρ).bind fun w =>
      (compL (compT tg cond.isNil (ev cond) (ev elt)) w.1.1 (wipeS (lendAs w.1.2 w.2) (tgs tg))).bind fun z =>
        if z.1.length ≤ line then .ok (.v (.lst z.1), backC w.1.2 w.2 z.2 (tgs tg)) else .stuck
  | .comp2 elt tg it cond tg1 it1 cond1, ρ => (evIt it ρ).bind fun w =>
      (compL (compT2 tg tg1 cond.isNil (ev cond) (evIt it1) (compT tg1 cond1.isNil (ev cond1) (ev elt))) w.1.1 (wipeS (lendAs w.1.2 w.2) (tgs tg ++ tgs tg1))).bind fun z =>
        if z.1.length ≤ line then .ok (.v (.lst z.1), backC w.1.2 w.2 z.2 (tgs tg ++ tgs tg1)) else .stuck
  | _, _ => .stuck
termination_by structural e => e
/-- several expressions -/
def evs : E → Env → Out (List Q × Env)
  | .nil, ρ => .ok ([], ρ)
  | .cons e es, ρ => (ev e ρ).bind fun x => (behinds x.1 x.2 (evs es)).bind fun y => .ok (x.1 :: y.1, y.2)
  | _, _ => .stuck
termination_by structural e => e
/-- a chain of comparisons behind a value -/
def evc : E → Q → Env → Out (Bool × Env)
  | .cc op b t, q, ρ => (behind q ρ (ev b)).bind fun y => (deref y.2 q).bind fun r => (deref y.2 y.1).bind fun s => (cmpop op r s).bind fun c => if c && !t.isNil then evc t y.1 y.2 else .ok (c, y.2)
  | _, _, _ => .stuck
termination_by structural e => e
/-- what can be walked: the items, what is lent meanwhile -/
def evIt : E → Env → Out ((List R × Lent) × Env)
  | .rng1 a, ρ => (ev a ρ).bind fun x => (match x.1 with
    | .v (.g (.int n)) => if b62 n then .ok ((rangeL 0 n.toNat, .none), x.2) else .stuck
    | _ => .stuck)
  | .rng2 a b, ρ => (ev a ρ).bind fun x => (behind x.1 x.2 (ev b)).bind fun y => (match x.1, y.1 with
    | .v (.g (.int m)), .v (.g (.int n)) => if b62 m && b62 n then .ok ((rangeL m (n - m).toNat, .none), y.2) else .stuck
    | _, _ => .stuck)
  | .it e, ρ => (ev e ρ).bind fun x => (walked x.2 x.1).bind fun w => .ok (w, x.2)
  | _, _ => .stuck
termination_by structural e => e
end
/-! ### statements -/
inductive Fl where
  | next (ρ : Env) | brk (ρ : Env) | cont (ρ : Env) | ret (r : R) (ρ : Env)
def evB (e : E) (ρ : Env) : Out (Bool × Env) := testE (ev cf e) ρ
/-- the turns of a for -/
def forL (turn : R → Env → Out Fl) (ρ0 : Env) : List R → Env → Out Fl
  | [], ρ => .ok (.next ρ)
  | x :: xs, ρ => (turn x ρ).bind fun f => (match f with
    | .next ρ' => forL turn ρ0 xs (mask ρ0 ρ')
    | .cont ρ' => forL turn ρ0 xs (mask ρ0 ρ')
    | .brk ρ' => .ok (.next (mask ρ0 ρ'))
    | .ret r ρ' => .ok (.ret r ρ'))
def whileL (test : Env → Out (Bool × Env)) (turn : Env → Out Fl) (ρ0 : Env) : Nat → Env → Out Fl
  | 0, _ => .stuck
  | n + 1, ρ => (test ρ).bind fun c => if c.1 then (turn c.2).bind fun f => (match f with
    | .next ρ' => whileL test turn ρ0 n (mask ρ0 ρ')
    | .cont ρ' => whileL test turn ρ0 n (mask ρ0 ρ')
    | .brk ρ' => .ok (.next (mask ρ0 ρ'))
    | .ret r ρ' => .ok (.ret r ρ')) else .ok (.next c.2)
def Fl.map (f : Env → Env) : Fl → Fl
  | .next ρ => .next (f ρ)
  | .brk ρ => .brk (f ρ)
  | .cont ρ => .cont (f ρ)
  | .ret r ρ => .ret r (f ρ)
def unl (l : Lent) (old : Env) (f : Fl) : Fl :=
  match l with
  | .slot j => f.map (unlend j (slotAt old j))
  | _ => f
/-- a body of a for -/
def turnF (t : E) (body : Env → Out Fl) (r : R) (ρ : Env) : Out Fl :=
  match r with
  | .g x => (bindT t x ρ).bind fun ρ1 => body ρ1
  | _ => .stuck
def wfuel : Nat := 1000000000
/-- take several results, from the left -/
def takes : Env → List Q → Out (List R × Env)
  | ρ, [] => .ok ([], ρ)
  | ρ, q :: qs => (take ρ q).bind fun x => (takes x.2 qs).bind fun y => .ok (x.1 :: y.1, y.2)
def sets : List Nat → List R → Env → Out Env
  | [], [], ρ => .ok ρ
  | j :: js, r :: rs, ρ => sets js rs (ρ.set j (.own r))
  | _, _, _ => .stuck
/-- a list behind another one, in place -/
def extQ (ρ : Env) : Q → Out (List R)
  | .v (.lst ys) => .ok ys
  | .s j => (match slotAt ρ j with
    | .own (.lst ys) => ofOpt ((toGs ys).map fun gs => gs.map R.g)
    | .arg (.lst ys) => ofOpt ((toGs ys).map fun gs => gs.map R.g)
    | _ => .stuck)
  | _ => .stuck
/-- behind an exception lists are lost -/
def dropL (ρ : Env) : Env := ρ.map fun s => match s with
  | .own (.lst _) => .no
  | .arg _ => .no
  | s => s
def exec : S → Env → Out Fl
  | .skip, ρ => .ok (.next ρ)
  | .seq s t, ρ => (exec s ρ).bind fun f => (match f with
    | .next ρ' => exec t ρ'
    | f => .ok f)
  | .exp e, ρ => (ev cf e ρ).bind fun x => .ok (.next x.2)
  | .set j e, ρ => (ev cf e ρ).bind fun x => (take x.2 x.1).bind fun y => .ok (.next (y.2.set j (.own y.1)))
  | .unp tg e, ρ => (ev cf e ρ).bind fun x => (match x.1 with
    | .v (.g (.tup xs)) => (bindT tg (.tup xs) x.2).bind fun ρ' => .ok (.next ρ')
    | _ => .stuck)
  | .par js es, ρ => (evs cf es ρ).bind fun x => (takes x.2 x.1).bind fun y => (sets js y.1 y.2).bind fun ρ' => .ok (.next ρ')
  | .setix j i e, ρ => (ev cf e ρ).bind fun x => (match x.1, mutL x.2 j with
    | .v r, some _ => (ev cf i x.2).bind fun y => (match y.1, mutL y.2 j with
      | .v (.g (.int n)), some xs => (match ixN xs.length n with
        | some m => .ok (.next (putL y.2 j (xs.set m r)))
        | none => .stuck)
      | _, _ => .stuck)
    | _, _ => .stuck)
  | .setix2 j i k e, ρ => (ev cf e ρ).bind fun x => (match x.1, mutL x.2 j with
    | .v r, some _ => (ev cf i x.2).bind fun y => (match y.1 with
      | .v (.g (.int n)) => (ev cf k (freeze y.2)).bind fun z => (match z.1, mutL y.2 j with
        | .v (.g (.int l)), some xs => (match ixN xs.length n with
          | some m => (match xs[m]? with
            | some (.lst ys) => (match ixN ys.length l with
              | some p => .ok (.next (putL y.2 j (xs.set m (.lst (ys.set p r)))))
              | none => .stuck)
            | _ => .stuck)
          | none => .stuck)
        | _, _ => .stuck)
      | _ => .stuck)
    | _, _ => .stuck)
  | .aug j op e, ρ => (match slotAt ρ j with
    | .own (.g x) => (ev cf e ρ).bind fun y => (deref y.2 y.1).bind fun s => (binop op (.g x) s).bind fun z => .ok (.next (y.2.set j (.own z)))
    | .own (.lst _) => (ev cf e ρ).bind fun y => (match op, mutL y.2 j with
      | .add, some xs => (extQ y.2 y.1).bind fun ys => if xs.length + ys.length ≤ line then .ok (.next (putL y.2 j (xs ++ ys))) else .stuck
      | _, _ => .stuck)
    | .arg (.lst _) => (ev cf e ρ).bind fun y => (match op, mutL y.2 j with
      | .add, some xs => (extQ y.2 y.1).bind fun ys => if xs.length + ys.length ≤ line then .ok (.next (putL y.2 j (xs ++ ys))) else .stuck
      | _, _ => .stuck)
    | _ => .stuck)
  | .ifs c s t, ρ => (evB cf c ρ).bind fun b => if b.1 then exec s b.2 else exec t b.2
  | .for_ tg it s, ρ => (evIt cf it ρ).bind fun w =>
      (if w.1.2.some? then forL (turnF tg (exec s)) (lendAs w.1.2 w.2) w.1.1 (lendAs w.1.2 w.2) else .stuck).bind fun f => .ok (unl w.1.2 w.2 f)
  | .while_ c s, ρ => whileL (evB cf c) (exec s) ρ wfuel ρ
  | .ret e, ρ => (ev cf e ρ).bind fun x => (take x.2 x.1).bind fun y => .ok (.ret y.1 y.2)
  | .brk, ρ => .ok (.brk ρ)
  | .cont, ρ => .ok (.cont ρ)
  | .app j e, ρ => (match mutL ρ j with
    | some _ => (ev cf e ρ).bind fun x => (match x.1, mutL x.2 j with
      | .v r, some xs => if xs.length < line then .ok (.next (putL x.2 j (xs ++ [r]))) else .stuck
      | _, _ => .stuck)
    | none => .stuck)
  | .appix j i e, ρ => (match mutL ρ j with
    | some _ => (ev cf i ρ).bind fun y => (match y.1 with
      | .v (.g (.int n)) => (ev cf e (freeze y.2)).bind fun z => (match z.1, mutL y.2 j with
        | .v r, some xs => (match ixN xs.length n with
          | some m => (match xs[m]? with
            | some (.lst ys) => if ys.length < line then .ok (.next (putL y.2 j (xs.set m (.lst (ys ++ [r]))))) else .stuck
            | _ => .stuck)
          | none => .stuck)
        | _, _ => .stuck)
      | _ => .stuck)
    | none => .stuck)
  | .rev j, ρ => (match mutL ρ j with
    | some xs => .ok (.next (putL ρ j xs.reverse))
    | none => .stuck)
  | .raise c, _ => .exc c
  | .tryx e tbl, ρ => (match ev cf e ρ with
    | .ok x => .ok (.next x.2)
    | .exc c => (match tbl.lookup c with
      | some (some b) => .ok (.ret (.g (.bl b)) (dropL ρ))
      | some none => .exc c
      | none => .stuck)
    | .stuck => .stuck)
  | _, _ => .stuck
end
/-! ### defs -/
structure Fn where
  np : Nat
  ns : Nat
  body : S
deriving Inhabited
/-- what is handed back of the arguments that are handed in and out -/
def finals : List Slot → Env → Out (List R)
  | [], _ => .ok []
  | .arg _ :: as, .arg r :: ss => (finals as ss).bind fun rs => .ok (r :: rs)
  | .arg _ :: _, _ => .stuck
  | _ :: as, _ :: ss => finals as ss
  | _ :: _, [] => .stuck
def runFn (cf : CallT) (fn : Fn) (as : List Slot) : Out (R × List R) :=
  if as.length = fn.np then (exec cf fn.body (as ++ List.replicate (fn.ns - fn.np) .no)).bind fun f => (match f with
    | .ret r ρ => (finals as ρ).bind fun fs => .ok (r, fs)
    | .next ρ => (finals as ρ).bind fun fs => .ok (.g .non, fs)
    | _ => .stuck) else .stuck
def callF (P : List Fn) : Nat → CallT
  | 0, _, _ => .stuck
  | k + 1, f, as => (match P[f]? with
    | some fn => runFn (callF P k) fn as
    | none => .stuck)
end Pv
/-! Pv1: what stands for what in the heap; frames and steps. -/
namespace Pv
open PySem PySem.Spec PyProof.Rows L2
/-! ### representation -/
/-- a list of the written part -/
def KL (K : PySem.W.Frag) (a : Addr) (ws : List V) : Prop := ∃ (o : Obj) (its : Array Value) (n : Nat), K.lookup a = some o ∧ o.cls = .type "list" ∧ o.dict = none ∧ o.data = .seq its n ∧ its.size ≤ sizeLine ∧ Vals ws its.toList
/-- the footprint: what is alive -/
def Ft (K : PySem.W.Frag) (H : Hp) (a : Addr) (ws : List V) (F F' : List Addr) : Prop := (Rd H a (.lst ws) ∧ F = a :: F') ∨ (KL K a ws ∧ F = F')
theorem SqL.ft {K : PySem.W.Frag} {H : Hp} {a : Addr} {ws : List V} (h : SqL K H a ws) (F' : List Addr) : ∃ F, Ft K H a ws F F' := by
  rcases h with h | h
  · exact ⟨_, .inl ⟨h, rfl⟩⟩
  · exact ⟨_, .inr ⟨h, rfl⟩⟩
/-- a tuple, known to its object, which has no dict of its own -/
def SqD (K : PySem.W.Frag) (H : Hp) (a : Addr) (ws : List V) : Prop := (∃ o, H a = some (.frz o (.tup ws)) ∧ o.dict = none) ∨
  ∃ (o : Obj) (its : Array Value) (n : Nat), K.lookup a = some o ∧ o.cls = .type "tuple" ∧ o.dict = none ∧ o.data = .seq its n ∧ its.size ≤ sizeLine ∧ Vals ws its.toList
theorem SqD.t {K : PySem.W.Frag} {H : Hp} {a : Addr} {ws : List V} (h : SqD K H a ws) : SqT K H a ws := by
  rcases h with ⟨o, h, _⟩ | ⟨o, its, n, h1, h2, _, h3⟩
  · exact .inl (.inr ⟨o, h⟩)
  · exact .inr ⟨o, its, n, h1, h2, h3⟩
section
variable (K : PySem.W.Frag) (H : Hp)
mutual
def RepG : V → G → Prop
  | v, .non => v = .non
  | v, .bl b => v = .bl b
  | v, .int i => v = .int i
  | v, .str s => v = .str s
  | v, .tup xs => ∃ a ws, v = .ref a ∧ SqD K H a ws ∧ RepGs ws xs
def RepGs : List V → List G → Prop
  | ws, [] => ws = []
  | ws, x :: xs => ∃ w r, ws = w :: r ∧ RepG w x ∧ RepGs r xs
end
mutual
def RepR : V → R → List Addr → Prop
  | v, .g x, F => RepG K H v x ∧ F = []
  | v, .lst xs, F => ∃ a ws F', v = .ref a ∧ SqL K H a ws ∧ RepRs ws xs F' ∧ Ft K H a ws F F'
def RepRs : List V → List R → List Addr → Prop
  | ws, [], F => ws = [] ∧ F = []
  | ws, x :: xs, F => ∃ w r F1 F2, ws = w :: r ∧ RepR w x F1 ∧ RepRs r xs F2 ∧ F = F1 ++ F2
end
end
section
variable (K : PySem.W.Frag) (H : Hp)
mutual
/-- .. whose lists may be written -/
def RepO : V → R → List Addr → Prop
  | v, .g x, F => RepG K H v x ∧ F = []
  | v, .lst xs, F => ∃ a ws F', v = .ref a ∧ H a = some (.lst ws) ∧ RepOs ws xs F' ∧ F = a :: F'
def RepOs : List V → List R → List Addr → Prop
  | ws, [], F => ws = [] ∧ F = []
  | ws, x :: xs, F => ∃ w r F1 F2, ws = w :: r ∧ RepO w x F1 ∧ RepOs r xs F2 ∧ F = F1 ++ F2
end
end
/-- lists that may be written -/
def Own (H : Hp) (F : List Addr) : Prop := ∀ a ∈ F, ∃ xs, H a = some (.lst xs)
/-- everything stays -/
def Ext (H H' : Hp) : Prop := ∀ b o, H b = some o → H' b = some o
theorem Ext.refl {H : Hp} : Ext H H := fun _ _ h => h
theorem Ext.trans {H H1 H2 : Hp} (a : Ext H H1) (b : Ext H1 H2) : Ext H H2 := fun c o h => b c o (a c o h)
theorem Ext.new {H : Hp} {p : Addr} {o : HO} (h : H p = none) : Ext H (upd H p o) := fun b x e => by rw [upd_ne (ne_of_none e h)]; exact e
/-- the addresses of M may change -/
structure Stp (M M' : Addr → Prop) (H H' : Hp) : Prop where
  keep : ∀ b o, ¬ M b → H b = some o → H' b = some o
  new : ∀ a, M' a → M a ∨ H a = none
theorem Stp.trans {M M1 M2 : Addr → Prop} {H H1 H2 : Hp} (a : Stp M M1 H H1) (b : Stp M1 M2 H1 H2) : Stp M M2 H H2 where
  keep := fun c o n e => b.keep c o (fun z => by
    rcases a.new c z with q | q
    · exact n q
    · rw [q] at e; cases e) (a.keep c o n e)
  new := fun c z => by
    rcases b.new c z with q | q
    · exact a.new c q
    · by_cases hm : M c
      · exact .inl hm
      · cases e : H c with
        | none => exact .inr rfl
        | some o => rw [a.keep c o hm e] at q; cases q
theorem Stp.ext {M M' : Addr → Prop} {H H' : Hp} (e : Ext H H') (n : ∀ a, M' a → M a ∨ H a = none) : Stp M M' H H' := ⟨fun b o _ h => e b o h, n⟩
theorem Stp.mono {M M1 M' M1' : Addr → Prop} {H H' : Hp} (s : Stp M M' H H') (h1 : ∀ a, M a → M1 a) (h2 : ∀ a, M1' a → M' a ∨ M1 a) : Stp M1 M1' H H' :=
  ⟨fun b o n e => s.keep b o (fun z => n (h1 b z)) e, fun a z => by
    rcases h2 a z with q | q
    · rcases s.new a q with r | r
      · exact .inl (h1 a r)
      · exact .inr r
    · exact .inl q⟩
section
variable {K : PySem.W.Frag} {H H' : Hp} {M : Addr → Prop}
/-- what is read as a tuple stays, whatever lists change -/
theorem sqt_keep {a : Addr} {ws : List V} (hM : ∀ b, M b → ∃ xs, H b = some (.lst xs)) (k : ∀ b o, ¬ M b → H b = some o → H' b = some o) (h : SqD K H a ws) : SqD K H' a ws := by
  rcases h with ⟨o, h, d⟩ | h
  · exact .inl ⟨o, k a _ (fun z => by obtain ⟨xs, e⟩ := hM a z; rw [h] at e; cases e) h, d⟩
  · exact .inr h
theorem ft_keep {a : Addr} {ws : List V} {F F' : List Addr} (k : ∀ b o, ¬ M b → H b = some o → H' b = some o) (n : ∀ a ∈ F, ¬ M a) (h : Ft K H a ws F F') : SqL K H' a ws ∧ Ft K H' a ws F F' ∧ ∀ a ∈ F', a ∈ F := by
  rcases h with ⟨h | ⟨o, h⟩, rfl⟩ | ⟨h, rfl⟩
  · have h' := k a _ (n a List.mem_cons_self) h
    exact ⟨.inl (.inl h'), .inl ⟨.inl h', rfl⟩, fun _ h => List.mem_cons_of_mem _ h⟩
  · have h' := k a _ (n a List.mem_cons_self) h
    exact ⟨.inl (.inr ⟨o, h'⟩), .inl ⟨.inr ⟨o, h'⟩, rfl⟩, fun _ h => List.mem_cons_of_mem _ h⟩
  · exact ⟨.inr h, .inr ⟨h, rfl⟩, fun _ h => h⟩
mutual
theorem RepG.keep (hM : ∀ b, M b → ∃ xs, H b = some (.lst xs)) (k : ∀ b o, ¬ M b → H b = some o → H' b = some o) : ∀ {v : V} {x : G}, RepG K H v x → RepG K H' v x
  | _, .non, h => h
  | _, .bl _, h => h
  | _, .int _, h => h
  | _, .str _, h => h
  | _, .tup _, h => by
    obtain ⟨a, ws, e, hs, hr⟩ := h
    exact ⟨a, ws, e, sqt_keep hM k hs, RepGs.keep hM k hr⟩
theorem RepGs.keep (hM : ∀ b, M b → ∃ xs, H b = some (.lst xs)) (k : ∀ b o, ¬ M b → H b = some o → H' b = some o) : ∀ {ws : List V} {xs : List G}, RepGs K H ws xs → RepGs K H' ws xs
  | _, [], h => h
  | _, _ :: _, h => by
    obtain ⟨w, r, e, h1, h2⟩ := h
    exact ⟨w, r, e, RepG.keep hM k h1, RepGs.keep hM k h2⟩
end
mutual
theorem RepR.keep (hM : ∀ b, M b → ∃ xs, H b = some (.lst xs)) (k : ∀ b o, ¬ M b → H b = some o → H' b = some o) : ∀ {x : R} {v : V} {F : List Addr}, (∀ a ∈ F, ¬ M a) → RepR K H v x F → RepR K H' v x F
  | .g _, _, _, _, h => ⟨h.1.keep hM k, h.2⟩
  | .lst xs, _, _, n, h => by
    obtain ⟨a, ws, F', e, hs, hr, hF⟩ := h
    obtain ⟨h1, h2, h3⟩ := ft_keep k n hF
    exact ⟨a, ws, F', e, h1, RepRs.keep hM k (fun b hb => n b (h3 b hb)) hr, h2⟩
theorem RepRs.keep (hM : ∀ b, M b → ∃ xs, H b = some (.lst xs)) (k : ∀ b o, ¬ M b → H b = some o → H' b = some o) : ∀ {xs : List R} {ws : List V} {F : List Addr}, (∀ a ∈ F, ¬ M a) → RepRs K H ws xs F → RepRs K H' ws xs F
  | [], _, _, _, h => h
  | _ :: _, _, _, n, h => by
    obtain ⟨w, r, F1, F2, e, h1, h2, hF⟩ := h
    subst hF
    exact ⟨w, r, F1, F2, e, RepR.keep hM k (fun a ha => n a (List.mem_append_left _ ha)) h1, RepRs.keep hM k (fun a ha => n a (List.mem_append_right _ ha)) h2, rfl⟩
end
mutual
theorem RepO.keep (hM : ∀ b, M b → ∃ xs, H b = some (.lst xs)) (k : ∀ b o, ¬ M b → H b = some o → H' b = some o) : ∀ {x : R} {v : V} {F : List Addr}, (∀ a ∈ F, ¬ M a) → RepO K H v x F → RepO K H' v x F
  | .g _, _, _, _, h => ⟨h.1.keep hM k, h.2⟩
  | .lst xs, _, _, n, h => by
    obtain ⟨a, ws, F', e, hs, hr, hF⟩ := h
    subst hF
    exact ⟨a, ws, F', e, k a _ (n a List.mem_cons_self) hs, RepOs.keep hM k (fun b hb => n b (List.mem_cons_of_mem _ hb)) hr, rfl⟩
theorem RepOs.keep (hM : ∀ b, M b → ∃ xs, H b = some (.lst xs)) (k : ∀ b o, ¬ M b → H b = some o → H' b = some o) : ∀ {xs : List R} {ws : List V} {F : List Addr}, (∀ a ∈ F, ¬ M a) → RepOs K H ws xs F → RepOs K H' ws xs F
  | [], _, _, _, h => h
  | _ :: _, _, _, n, h => by
    obtain ⟨w, r, F1, F2, e, h1, h2, hF⟩ := h
    subst hF
    exact ⟨w, r, F1, F2, e, RepO.keep hM k (fun a ha => n a (List.mem_append_left _ ha)) h1, RepOs.keep hM k (fun a ha => n a (List.mem_append_right _ ha)) h2, rfl⟩
end
mutual
theorem RepO.rep : ∀ {x : R} {v : V} {F : List Addr}, RepO K H v x F → RepR K H v x F
  | .g _, _, _, h => h
  | .lst xs, _, _, h => by
    obtain ⟨a, ws, F', e, hs, hr, hF⟩ := h
    exact ⟨a, ws, F', e, SqL.of hs, RepOs.rep hr, .inl ⟨.inl hs, hF⟩⟩
theorem RepOs.rep : ∀ {xs : List R} {ws : List V} {F : List Addr}, RepOs K H ws xs F → RepRs K H ws xs F
  | [], _, _, h => h
  | _ :: _, _, _, h => by
    obtain ⟨w, r, F1, F2, e, h1, h2, hF⟩ := h
    exact ⟨w, r, F1, F2, e, RepO.rep h1, RepOs.rep h2, hF⟩
end
mutual
theorem RepO.own : ∀ {x : R} {v : V} {F : List Addr}, RepO K H v x F → Own H F
  | .g _, _, _, h => by rw [h.2]; exact fun a ha => nomatch ha
  | .lst xs, _, _, h => by
    obtain ⟨a, ws, F', e, hs, hr, hF⟩ := h
    subst hF
    intro b hb
    rcases List.mem_cons.mp hb with q | q
    · subst q; exact ⟨ws, hs⟩
    · exact RepOs.own hr b q
theorem RepOs.own : ∀ {xs : List R} {ws : List V} {F : List Addr}, RepOs K H ws xs F → Own H F
  | [], _, _, h => by rw [h.2]; exact fun a ha => nomatch ha
  | _ :: _, _, _, h => by
    obtain ⟨w, r, F1, F2, e, h1, h2, hF⟩ := h
    subst hF
    intro b hb
    rcases List.mem_append.mp hb with q | q
    · exact RepO.own h1 b q
    · exact RepOs.own h2 b q
end
mutual
/-- the footprint is alive -/
theorem RepR.live : ∀ {x : R} {v : V} {F : List Addr}, RepR K H v x F → ∀ a ∈ F, H a ≠ none
  | .g _, _, _, h => by rw [h.2]; exact fun a ha => nomatch ha
  | .lst xs, _, _, h => by
    obtain ⟨a, ws, F', e, hs, hr, hF⟩ := h
    rcases hF with ⟨h, rfl⟩ | ⟨h, rfl⟩
    · intro b hb
      rcases List.mem_cons.mp hb with q | q
      · subst q
        rcases h with h | ⟨o, h⟩ <;> rw [h] <;> simp
      · exact RepRs.live hr b q
    · exact RepRs.live hr
theorem RepRs.live : ∀ {xs : List R} {ws : List V} {F : List Addr}, RepRs K H ws xs F → ∀ a ∈ F, H a ≠ none
  | [], _, _, h => by rw [h.2]; exact fun a ha => nomatch ha
  | _ :: _, _, _, h => by
    obtain ⟨w, r, F1, F2, e, h1, h2, hF⟩ := h
    subst hF
    intro b hb
    rcases List.mem_append.mp hb with q | q
    · exact RepR.live h1 b q
    · exact RepRs.live h2 b q
end
theorem RepO.ext (e : Ext H H') {v : V} {x : R} {F : List Addr} (h : RepO K H v x F) : RepO K H' v x F := h.keep (M := fun _ => False) (fun _ z => z.elim) (fun b o _ q => e b o q) fun _ _ z => z
theorem RepOs.ext (e : Ext H H') {v : List V} {x : List R} {F : List Addr} (h : RepOs K H v x F) : RepOs K H' v x F := h.keep (M := fun _ => False) (fun _ z => z.elim) (fun b o _ q => e b o q) fun _ _ z => z
theorem RepG.ext (e : Ext H H') {v : V} {x : G} (h : RepG K H v x) : RepG K H' v x := h.keep (M := fun _ => False) (fun _ z => z.elim) fun b o _ q => e b o q
theorem RepGs.ext (e : Ext H H') {v : List V} {x : List G} (h : RepGs K H v x) : RepGs K H' v x := h.keep (M := fun _ => False) (fun _ z => z.elim) fun b o _ q => e b o q
theorem RepR.ext (e : Ext H H') {v : V} {x : R} {F : List Addr} (h : RepR K H v x F) : RepR K H' v x F := h.keep (M := fun _ => False) (fun _ z => z.elim) (fun b o _ q => e b o q) fun _ _ z => z
theorem RepRs.ext (e : Ext H H') {v : List V} {x : List R} {F : List Addr} (h : RepRs K H v x F) : RepRs K H' v x F := h.keep (M := fun _ => False) (fun _ z => z.elim) (fun b o _ q => e b o q) fun _ _ z => z
theorem Own.ext {F : List Addr} (e : Ext H H') (h : Own H F) : Own H' F := fun a ha => let ⟨xs, q⟩ := h a ha; ⟨xs, e a _ q⟩
theorem RepGs.len : ∀ {xs : List G} {ws : List V}, RepGs K H ws xs → ws.length = xs.length
  | [], _, h => by cases h; rfl
  | _ :: xs, _, h => by
    obtain ⟨w, r, e, _, h2⟩ := h
    subst e
    simp [RepGs.len h2]
theorem RepRs.len : ∀ {xs : List R} {ws : List V} {F : List Addr}, RepRs K H ws xs F → ws.length = xs.length
  | [], _, _, h => by cases h.1; rfl
  | _ :: xs, _, _, h => by
    obtain ⟨w, r, F1, F2, e, _, h2, _⟩ := h
    subst e
    simp [RepRs.len h2]
theorem RepGs.at : ∀ {xs : List G} {ws : List V} {i : Nat} {x : G}, RepGs K H ws xs → xs[i]? = some x → ∃ w, ws[i]? = some w ∧ RepG K H w x
  | [], _, _, _, _, e => by simp at e
  | y :: xs, _, 0, x, h, e => by
    obtain ⟨w, r, e1, h1, _⟩ := h
    subst e1
    simp at e; subst e
    exact ⟨w, rfl, h1⟩
  | y :: xs, _, i + 1, x, h, e => by
    obtain ⟨w, r, e1, _, h2⟩ := h
    subst e1
    obtain ⟨u, q1, q2⟩ := RepGs.at h2 (by simpa using e)
    exact ⟨u, by simpa using q1, q2⟩
theorem RepRs.at : ∀ {xs : List R} {ws : List V} {F : List Addr} {i : Nat} {x : R}, RepRs K H ws xs F → xs[i]? = some x → ∃ w F', ws[i]? = some w ∧ RepR K H w x F' ∧ ∀ a ∈ F', a ∈ F
  | [], _, _, _, _, _, e => by simp at e
  | y :: xs, _, _, 0, x, h, e => by
    obtain ⟨w, r, F1, F2, e1, h1, _, eF⟩ := h
    subst e1 eF
    simp at e; subst e
    exact ⟨w, F1, rfl, h1, fun a ha => List.mem_append_left _ ha⟩
  | y :: xs, _, _, i + 1, x, h, e => by
    obtain ⟨w, r, F1, F2, e1, _, h2, eF⟩ := h
    subst e1 eF
    obtain ⟨u, F', q1, q2, q3⟩ := RepRs.at h2 (by simpa using e)
    exact ⟨u, F', by simpa using q1, q2, fun a ha => List.mem_append_right _ (q3 a ha)⟩
theorem RepRs.gs : ∀ {xs : List R} {ws : List V} {F : List Addr} {gs : List G}, RepRs K H ws xs F → toGs xs = some gs → RepGs K H ws gs ∧ F = []
  | [], _, _, _, h, e => by cases e; exact ⟨h.1, h.2⟩
  | .g y :: xs, _, _, gs, h, e => by
    obtain ⟨w, r, F1, F2, e1, h1, h2, eF⟩ := h
    subst e1 eF
    simp only [toGs, Option.map_eq_some_iff] at e
    obtain ⟨zs, ez, rfl⟩ := e
    obtain ⟨q1, q2⟩ := RepRs.gs h2 ez
    exact ⟨⟨w, r, rfl, h1.1, q1⟩, by rw [q2, h1.2]; rfl⟩
  | .lst _ :: _, _, _, _, _, e => by cases e
theorem RepGs.os : ∀ {gs : List G} {ws : List V}, RepGs K H ws gs → RepOs K H ws (gs.map R.g) []
  | [], _, h => ⟨h, rfl⟩
  | _ :: _, _, h => by
    obtain ⟨w, r, e, h1, h2⟩ := h
    exact ⟨w, r, [], [], e, ⟨h1, rfl⟩, RepGs.os h2, rfl⟩
theorem RepGs.rs : ∀ {gs : List G} {ws : List V}, RepGs K H ws gs → RepRs K H ws (gs.map R.g) []
  | [], _, h => ⟨h, rfl⟩
  | _ :: _, _, h => by
    obtain ⟨w, r, e, h1, h2⟩ := h
    exact ⟨w, r, [], [], e, ⟨h1, rfl⟩, RepGs.rs h2, rfl⟩
theorem RepGs.append : ∀ {xs : List G} {ws : List V} {ys : List G} {us : List V}, RepGs K H ws xs → RepGs K H us ys → RepGs K H (ws ++ us) (xs ++ ys)
  | [], _, _, _, h, q => by cases h; exact q
  | _ :: _, _, _, _, h, q => by
    obtain ⟨w, r, e, h1, h2⟩ := h
    subst e
    exact ⟨w, r ++ _, rfl, h1, RepGs.append h2 q⟩
theorem RepRs.append : ∀ {xs : List R} {ws : List V} {F : List Addr} {ys : List R} {us : List V} {F' : List Addr}, RepRs K H ws xs F → RepRs K H us ys F' → RepRs K H (ws ++ us) (xs ++ ys) (F ++ F')
  | [], _, _, _, _, _, h, q => by obtain ⟨rfl, rfl⟩ := h; exact q
  | _ :: _, _, _, _, _, _, h, q => by
    obtain ⟨w, r, F1, F2, e, h1, h2, eF⟩ := h
    subst e eF
    exact ⟨w, r ++ _, F1, F2 ++ _, rfl, h1, RepRs.append h2 q, by simp⟩
theorem RepOs.append : ∀ {xs : List R} {ws : List V} {F : List Addr} {ys : List R} {us : List V} {F' : List Addr}, RepOs K H ws xs F → RepOs K H us ys F' → RepOs K H (ws ++ us) (xs ++ ys) (F ++ F')
  | [], _, _, _, _, _, h, q => by obtain ⟨rfl, rfl⟩ := h; exact q
  | _ :: _, _, _, _, _, _, h, q => by
    obtain ⟨w, r, F1, F2, e, h1, h2, eF⟩ := h
    subst e eF
    exact ⟨w, r ++ _, F1, F2 ++ _, rfl, h1, RepOs.append h2 q, by simp⟩
theorem RepGs.drop : ∀ (n : Nat) {xs : List G} {ws : List V}, RepGs K H ws xs → RepGs K H (ws.drop n) (xs.drop n)
  | 0, _, _, h => h
  | n + 1, [], _, h => by cases h; exact (by simp; exact rfl)
  | n + 1, _ :: _, _, h => by
    obtain ⟨w, r, e, _, h2⟩ := h
    subst e
    exact RepGs.drop n h2
theorem RepGs.take : ∀ (n : Nat) {xs : List G} {ws : List V}, RepGs K H ws xs → RepGs K H (ws.take n) (xs.take n)
  | 0, _, _, h => by simp; exact rfl
  | n + 1, [], _, h => by cases h; exact (by simp; exact rfl)
  | n + 1, _ :: _, _, h => by
    obtain ⟨w, r, e, h1, h2⟩ := h
    subst e
    exact ⟨w, r.take n, rfl, h1, RepGs.take n h2⟩
theorem RepGs.reverse : ∀ {xs : List G} {ws : List V}, RepGs K H ws xs → RepGs K H ws.reverse xs.reverse
  | [], _, h => by cases h; exact rfl
  | _ :: _, _, h => by
    obtain ⟨w, r, e, h1, h2⟩ := h
    subst e
    rw [List.reverse_cons, List.reverse_cons]
    exact RepGs.append (RepGs.reverse h2) ⟨w, [], rfl, h1, rfl⟩
theorem RepGs.rep {xs : List G} {ws : List V} (h : RepGs K H ws xs) : ∀ n : Nat, RepGs K H (List.replicate n ws).flatten (List.replicate n xs).flatten
  | 0 => rfl
  | n + 1 => by
    rw [List.replicate_succ, List.replicate_succ, List.flatten_cons, List.flatten_cons]
    exact RepGs.append h (RepGs.rep h n)
theorem RepGs.ints : ∀ {xs : List G} {ws : List V} {ns : List Int}, RepGs K H ws xs → toInts xs = some ns → ws = ns.map V.int
  | [], _, _, h, e => by cases h; cases e; rfl
  | .int i :: xs, _, _, h, e => by
    obtain ⟨w, r, e1, h1, h2⟩ := h
    subst e1
    simp only [toInts, Option.map_eq_some_iff] at e
    obtain ⟨zs, ez, rfl⟩ := e
    cases h1
    rw [RepGs.ints h2 ez]; rfl
  | .non :: _, _, _, _, e => by cases e
  | .bl _ :: _, _, _, _, e => by cases e
  | .str _ :: _, _, _, _, e => by cases e
  | .tup _ :: _, _, _, _, e => by cases e
theorem RepGs.bls : ∀ {xs : List G} {ws : List V} {ns : List Bool}, RepGs K H ws xs → toBls xs = some ns → ws = ns.map V.bl
  | [], _, _, h, e => by cases h; cases e; rfl
  | .bl i :: xs, _, _, h, e => by
    obtain ⟨w, r, e1, h1, h2⟩ := h
    subst e1
    simp only [toBls, Option.map_eq_some_iff] at e
    obtain ⟨zs, ez, rfl⟩ := e
    cases h1
    rw [RepGs.bls h2 ez]; rfl
  | .non :: _, _, _, _, e => by cases e
  | .int _ :: _, _, _, _, e => by cases e
  | .str _ :: _, _, _, _, e => by cases e
  | .tup _ :: _, _, _, _, e => by cases e
theorem repgs_ints (K : PySem.W.Frag) (H : Hp) : ∀ ns : List Int, RepGs K H (ns.map V.int) (ns.map G.int)
  | [] => rfl
  | n :: ns => ⟨_, _, rfl, rfl, repgs_ints K H ns⟩
/-- the tokens of ground data, for the library's own == -/
def toD : G → PyData
  | .non => .none
  | .bl b => .bool b
  | .int i => .int i
  | .str s => .str s
  | .tup xs => .tuple (toDs xs)
where toDs : List G → List PyData
  | [] => []
  | x :: xs => toD x :: toDs xs
mutual
theorem RepG.dp : ∀ {x : G} {v : V}, RepG K H v x → Dp K H v (toD x)
  | .non, _, h => by cases h; exact .non
  | .bl _, _, h => by cases h; exact .bl _
  | .int _, _, h => by cases h; exact .int _
  | .str _, _, h => by cases h; exact .str _
  | .tup xs, _, h => by
    obtain ⟨a, ws, e, hs, hr⟩ := h
    subst e
    exact .tup hs.t (RepGs.dp hr)
theorem RepGs.dp : ∀ {xs : List G} {ws : List V}, RepGs K H ws xs → DpAll K H ws (toD.toDs xs)
  | [], _, h => by cases h; exact .nil
  | _ :: _, _, h => by
    obtain ⟨w, r, e, h1, h2⟩ := h
    subst e
    exact .cons (RepG.dp h1) (RepGs.dp h2)
end
end
mutual
theorem toD_depth : ∀ x : G, (toD x).depth = x.dep
  | .non => rfl
  | .bl _ => rfl
  | .int _ => rfl
  | .str _ => rfl
  | .tup xs => by
    show PyData.depth (.tuple (toD.toDs xs)) = G.deps xs + 1
    rw [PyData.depth, toDs_depth xs]
theorem toDs_depth : ∀ xs : List G, PyData.depthAll (toD.toDs xs) = G.deps xs
  | [] => rfl
  | x :: xs => by
    show PyData.depthAll (toD x :: toD.toDs xs) = max x.dep (G.deps xs)
    rw [PyData.depthAll, toD_depth x, toDs_depth xs]
end
mutual
theorem toD_lay : ∀ x : G, (toD x).canLay0 = x.lay
  | .non => rfl
  | .bl _ => rfl
  | .int _ => rfl
  | .str _ => rfl
  | .tup xs => by
    show PyData.canLay0 (.tuple (toD.toDs xs)) = G.lays xs
    rw [PyData.canLay0, toDs_lay xs]
theorem toDs_lay : ∀ xs : List G, PyData.canLayAll0 (toD.toDs xs) = G.lays xs
  | [] => rfl
  | x :: xs => by
    show PyData.canLayAll0 (toD x :: toD.toDs xs) = (x.lay && G.lays xs)
    rw [PyData.canLayAll0, toD_lay x, toDs_lay xs]
end
mutual
theorem toD_eqv : ∀ x y : G, PyData.eqv (toD x) (toD y) = G.eqv x y
  | .non, y => by cases y <;> simp [toD, PyData.eqv, G.eqv]
  | .bl a, y => by cases y <;> simp [toD, PyData.eqv, G.eqv, b2]
  | .int a, y => by cases y <;> simp [toD, PyData.eqv, G.eqv, b2]
  | .str a, y => by cases y <;> simp [toD, PyData.eqv, G.eqv]
  | .tup xs, y => by
    cases y with
    | tup ys =>
      show PyData.eqv (.tuple (toD.toDs xs)) (.tuple (toD.toDs ys)) = G.eqvs xs ys
      rw [PyData.eqv, toDs_eqv xs ys]
    | _ => simp [toD, PyData.eqv, G.eqv]
theorem toDs_eqv : ∀ xs ys : List G, PyData.eqvAll (toD.toDs xs) (toD.toDs ys) = G.eqvs xs ys
  | [], [] => rfl
  | [], _ :: _ => rfl
  | _ :: _, [] => rfl
  | x :: xs, y :: ys => by
    show PyData.eqvAll (toD x :: toD.toDs xs) (toD y :: toD.toDs ys) = (G.eqv x y && G.eqvs xs ys)
    rw [PyData.eqvAll, toD_eqv x y, toDs_eqv xs ys]
end
theorem toDs_map : ∀ xs : List G, toD.toDs xs = xs.map toD
  | [] => rfl
  | x :: xs => by
    show toD x :: toD.toDs xs = toD x :: xs.map toD
    rw [toDs_map xs]
end Pv
/-! Pv2: the operators keep what the small language says of them. -/
namespace Pv
open PySem PySem.Spec PyProof.Rows L2
/-- the answer of an operator: nothing old changes -/
def Ans (K : PySem.W.Frag) (H : Hp) (z : R) (Q : VK) : Prop := ∀ v H' F, Ext H H' → RepO K H' v z F → F.Nodup → (∀ a ∈ F, H a = none) → Q v H'
def rPure (K : PySem.W.Frag) (f : R → R → Out R) : R2 := fun x y H Q => ∃ r s z F1 F2, RepR K H x r F1 ∧ RepR K H y s F2 ∧ f r s = .ok z ∧ Ans K H z Q
def rUn (K : PySem.W.Frag) (f : R → Out R) : V → Hp → VK → Prop := fun x H Q => ∃ r z F, RepR K H x r F ∧ f r = .ok z ∧ Ans K H z Q
section
variable {K : PySem.W.Frag} {H : Hp} {Q : VK}
theorem Ans.g {z : G} {v : V} (q : Ans K H (.g z) Q) (h : RepG K H v z) : Q v H := q v H [] Ext.refl ⟨h, rfl⟩ .nil (fun _ z => nomatch z)
theorem Ans.gx {z : G} {v : V} {H' : Hp} (q : Ans K H (.g z) Q) (e : Ext H H') (h : RepG K H' v z) : Q v H' := q v H' [] e ⟨h, rfl⟩ .nil (fun _ z => nomatch z)
/-- a new tuple -/
theorem Ans.tup {zs : List G} {ws : List V} (q : Ans K H (.g (.tup zs)) Q) (h : RepGs K H ws zs) {p : Addr} {o : Obj} (hp : H p = none) (hd : o.dict = none) : Q (.ref p) (upd H p (.frz o (.tup ws))) :=
  q.gx (Ext.new hp) ⟨p, ws, rfl, .inl ⟨o, upd_same, hd⟩, h.ext (Ext.new hp)⟩
/-- a new list -/
theorem Ans.lst {zs : List R} {ws : List V} (q : Ans K H (.lst zs) Q) (h : RepOs K H ws zs []) {p : Addr} (hp : H p = none) : Q (.ref p) (upd H p (.lst ws)) := by
  refine q (.ref p) _ [p] (Ext.new hp) ⟨p, ws, [], rfl, upd_same, h.ext (Ext.new hp), rfl⟩ (by simp) (fun a ha => ?_)
  rw [List.mem_singleton.mp ha]; exact hp
theorem line_eq : (line : Nat) = sizeLine := by rw [sizeLine_eq]; rfl
theorem rep_tup {v : V} {xs : List G} (h : RepG K H v (.tup xs)) : ∃ a ws, v = .ref a ∧ SqD K H a ws ∧ RepGs K H ws xs := h
end
section
variable {X : Cx}
/-! ### + -/
theorem op_catL {pins : List (Addr × Obj)} {s : Shared} {σ : L2.St} {H : Hp} {l b : Addr} {xs zs : List V} {Q : VK} (I : Inv X pins σ H s) (h1 : SqL X.K H l xs) (h2 : SqL X.K H b zs) (hz : xs.length + zs.length ≤ sizeLine)
    (q : ∀ p, H p = none → Q (.ref p) (upd H p (.lst (xs ++ zs)))) : wpAny (model X.prog X.w) X.A (binaryOp .Add (.ref l) (.ref b)) (EP X pins σ Q) X.xe s := by
  obtain ⟨its, r1, ⟨⟨cls, dd, data, sl⟩, n, ho, hc, _, hd⟩, _⟩ := I.list h1
  obtain ⟨its2, r2, ⟨⟨cls2, dd2, data2, sl2⟩, n2, ho2, hc2, _, hd2⟩, _⟩ := I.list h2
  simp only at hc hd hc2 hd2
  subst hc hd hc2 hd2
  have l1 := r1.length
  have l2 := r2.length
  have e : its.toArray ++ its2.toArray = (its ++ its2).toArray := by simp
  refine PySem.concat_meets ⟨_, ho, rfl⟩ ⟨_, ho2, rfl⟩ noFill_list_add seq_list_add PySem.F.slot_list_add PySem.F.entry_list_add (PySem.F.args_list_add_2 _ _)
    (list_addW l b its.toArray its2.toArray n n2 dd dd2 sl sl2 (by simp; omega)) ⟨ho, ho2, ?_⟩
  rw [e]
  exact ⟨.ref _, _, I.lnew (t' := s.toks) (r1.append r2) (by rw [List.length_append]; omega), rfl, q _ I.fresh⟩
/-! ### new tuples -/
/-- a tuple just laid -/
theorem Inv.tnew {pins : List (Addr × Obj)} {s : Shared} {σ : L2.St} {H : Hp} {its : List Value} {ys : List V} {t' : Nat} (I : Inv X pins σ H s) (hv : Vals ys its) (hz : ys.length ≤ sizeLine) :
    Inv X pins σ (upd H s.heap.objs.size (.frz { cls := .type "tuple", data := .seq its.toArray } (.tup ys))) { s with heap := s.heap.push { cls := .type "tuple", data := .seq its.toArray }, toks := t' } :=
  I.laid (fun _ _ q => Heap.get?_push_of_some _ q) (Nat.le_refl _) ⟨Heap.get?_push_size _ rfl, hz, its, hv, IsTup.new _ _⟩
/-- what is wanted of a new tuple -/
def NewT (H : Hp) (ws : List V) (Q : VK) : Prop := ∀ p o, H p = none → o.dict = none → Q (.ref p) (upd H p (.frz o (.tup ws)))
theorem op_catD {pins : List (Addr × Obj)} {s : Shared} {σ : L2.St} {H : Hp} {a b : Addr} {xs ys : List V} {Q : VK} (I : Inv X pins σ H s) (ha : SqT X.K H a xs) (hb : SqT X.K H b ys) (hz : xs.length + ys.length ≤ sizeLine)
    (q0 : xs = [] → Q (.ref b) H) (q1 : xs ≠ [] → ys = [] → Q (.ref a) H) (q2 : NewT H (xs ++ ys) Q) : wpAny (model X.prog X.w) X.A (binaryOp .Add (.ref a) (.ref b)) (EP X pins σ Q) X.xe s := by
  obtain ⟨its, r1, p1, _⟩ := I.tuple ha
  obtain ⟨its2, r2, p2, _⟩ := I.tuple hb
  by_cases hx : xs = []
  · subst hx
    cases r1
    exact cat_tup0 p1 p2 ⟨.ref b, H, I, rfl, q0 rfl⟩
  · refine HT.cat_tup p1 p2 (fun z => hx (r1.nil_iff.mp z)) (fun z => ⟨.ref a, H, I, rfl, q1 hx (r2.nil_iff.mp z)⟩) (fun z => ?_) (by rw [← r1.length, ← r2.length]; exact hz)
    exact ⟨.ref s.heap.objs.size, _, Inv.tnew (t' := s.toks) I (r1.append r2) (by rw [List.length_append]; exact hz), rfl, q2 _ _ (I.hok.fresh (Nat.le_refl _)) rfl⟩
theorem call_tupleD {pins : List (Addr × Obj)} {s : Shared} {σ : L2.St} {H : Hp} {p : Addr} {ys : List V} {us : List Value} {Q : VK} (I : Inv X pins σ H s) (rv : Vals [.ref p] us) (hq : SqL X.K H p ys) (q : NewT H ys Q) : wpAny (model X.prog X.w) X.A (call (.type "tuple") us) (EP X pins σ Q) X.xe s := by
  obtain ⟨u, rfl, rx⟩ := vals1 rv
  cases rx
  obtain ⟨its, r', pl, hz⟩ := I.list hq
  have hlen := r'.length
  refine call_tuple_list pl.isList (fun h' kp => ?_) (by simp only [List.size_toArray] <;> omega)
  have I1 : Inv X pins σ H { s with heap := h' } := I.kept (t' := s.toks) kp
  exact ⟨.ref h'.objs.size, _, Inv.tnew (t' := s.toks) I1 r' hz, rfl, q _ _ (I1.hok.fresh (Nat.le_refl _)) rfl⟩
theorem sl_tupD {pins : List (Addr × Obj)} {s : Shared} {σ : L2.St} {H : Hp} {a : Addr} {xs : List V} {Q : VK} {vl vu : Value} {lo hi : Option Int} {sl : Addr} (I : Inv X pins σ H s) (hs : s.heap.IsSliceOf sl vl vu .none) (pl : IsPart vl lo) (pu : IsPart vu hi) (hx : SqT X.K H a xs)
    (q1 : HT.sIx xs.length 0 lo = 0 ∧ HT.sIx xs.length xs.length hi = xs.length → Q (.ref a) H) (q2 : NewT H (cutV xs lo hi) Q) :
    ∃ T id, typeLookup (.type T) "__getitem__" = pure (some (.builtin id)) ∧ s.TypeIs (.ref a) T ∧ wpAny (model X.prog X.w) X.A (getItem (.ref a) (.ref sl)) (EP X pins σ Q) X.xe s := by
  obtain ⟨its, r, ht, hz⟩ := I.tuple hx
  have hlen : its.toArray.size = xs.length := by rw [List.size_toArray]; exact r.length.symm
  refine ⟨"tuple", _, PyProof.Rows.slot_tuple_getitem.lookup, ht.typeIs, ?_⟩
  by_cases hw : HT.sIx xs.length 0 lo = 0 ∧ HT.sIx xs.length xs.length hi = xs.length
  · exact getItem_tuple_whole ht hs pl pu (by rw [hlen]; exact hw) ⟨.ref a, H, I, rfl, q1 hw⟩
  · refine HT.getItem_tuple_cut ht hs pl pu (by rw [hlen]; exact hw) ?_ (by rw [hlen]; exact hz)
    rw [hlen]
    exact ⟨.ref s.heap.objs.size, _, Inv.tnew (t' := s.toks) I ((r.drop (HT.sIx xs.length 0 lo)).take (HT.sIx xs.length xs.length hi - HT.sIx xs.length 0 lo)) (Nat.le_trans (cutV_length xs lo hi) hz), rfl, q2 _ _ (I.hok.fresh (Nat.le_refl _)) rfl⟩
def tTupD (t : TA) : TE := fun σ H Q => t σ H fun xs H1 => xs.length ≤ sizeLine ∧ NewT H1 xs Q
theorem pe_tupD {es : List Expr} {t : TA} {x1} {pos : Pos} (h : PA X es t) : PE X (.Tuple es x1 pos) (tTupD t) := by
  refine ⟨fun pins s σ H Q I hq => ?_⟩
  refine wpAny_Tuple_spliced (thn (h.run pos pins s σ H _ I hq) fun us s1 ⟨xs, H1, I1, r, z, q⟩ => ⟨by rw [← r.length]; exact z, ?_⟩)
  exact ⟨.ref s1.heap.objs.size, _, Inv.tnew (t' := s1.toks) I1 r z, rfl, q _ _ (I1.hok.fresh (Nat.le_refl _)) rfl⟩
/-! ### a tuple many times -/
theorem tuple_mul1 (l : Addr) (items : Array Value) (n : Nat) (dd : Option Addr) (sl : Array (Option Value)) (x : Int) (u : Tok) (c0 : (decide (x < -(2 ^ 63)) || decide (x ≥ 2 ^ 63)) = false) (c1 : (items.isEmpty || x == 1) = true) :
    Meets (Builtin.«tuple.__mul__» ⟨[.ref l, .int x u], []⟩) (fun _ R s => s.heap.get? l = some { cls := .type "tuple", dict := dd, data := .seq items n, slots := sl } ∧
      R (.ok (.ret (Value.ref l))) s) :=
  .of_wp fun prog w A R s h => by
    obtain ⟨hp, g, d, tk, os⟩ := s
    obtain ⟨hl, h⟩ := h
    have f1 := AutoSeq1.idx_int
    wp_walk using wpAny_loadPart' hl
    repeat (first
      | (refine wpAny_ite_false (decide_eq_false (by rw [c0]; exact Bool.false_ne_true)) ?_; wp_walk using wpAny_loadPart' hl)
      | (refine wpAny_ite_true (decide_eq_true c1) ?_; wp_walk using wpAny_loadPart' hl))
    exact ⟨_, rfl, h⟩
theorem tuple_mul0 (l : Addr) (items : Array Value) (n : Nat) (dd : Option Addr) (sl : Array (Option Value)) (x : Int) (u : Tok) (c0 : (decide (x < -(2 ^ 63)) || decide (x ≥ 2 ^ 63)) = false) (c1 : (items.isEmpty || x == 1) = false) (c2 : (decide (x ≤ 0) || items.isEmpty) = true) :
    Meets (Builtin.«tuple.__mul__» ⟨[.ref l, .int x u], []⟩) (fun _ R s => s.heap.get? l = some { cls := .type "tuple", dict := dd, data := .seq items n, slots := sl } ∧
      R (.ok (.ret (Value.ref s.heap.objs.size))) { s with heap := s.heap.push { cls := Value.type "tuple", data := Data.seq #[] }, toks := s.toks }) :=
  .of_wp fun prog w A R s h => by
    obtain ⟨hp, g, d, tk, os⟩ := s
    obtain ⟨hl, h⟩ := h
    have f1 := AutoSeq1.idx_int
    wp_walk using wpAny_loadPart' hl
    repeat (first
      | (refine wpAny_ite_false (decide_eq_false (by rw [c0]; exact Bool.false_ne_true)) ?_; wp_walk using wpAny_loadPart' hl)
      | (refine wpAny_ite_false (decide_eq_false (by rw [c1]; exact Bool.false_ne_true)) ?_; wp_walk using wpAny_loadPart' hl)
      | (refine wpAny_ite_true (decide_eq_true c2) ?_; wp_walk using wpAny_loadPart' hl))
    exact ⟨_, rfl, h⟩
/-! ### the binary operators -/
def toOp : BOp → Operator
  | .add => .Add | .sub => .Sub | .mul => .Mult | .mod => .Mod | .fdiv => .FloorDiv | .pow => .Pow | .shl => .LShift | .shr => .RShift | .band => .BitAnd | .bxor => .BitXor | .bor => .BitOr
theorem rep_int {K : PySem.W.Frag} {H : Hp} {v : V} {i : Int} {F : List Addr} (h : RepR K H v (.g (.int i)) F) : v = .int i := h.1
theorem i64_ok {i j : Int} (h : (i64 i || i64 j) = true) : CMul i j := by
  unfold i64 at h
  simp only [Bool.or_eq_true, Bool.and_eq_true, decide_eq_true_eq] at h
  exact h
theorem op_mulT {pins : List (Addr × Obj)} {s : Shared} {σ : L2.St} {H : Hp} {l : Addr} {xs : List V} {k : Int} {t : Tok} {Q : VK} (I : Inv X pins σ H s) (hT : SqT X.K H l xs) (hk : k ≤ 1000) (hkl : -1000 ≤ k) (hz : xs.length ≤ 1000)
    (q1 : (List.replicate k.toNat xs).flatten = xs → Q (.ref l) H) (q2 : NewT H (List.replicate k.toNat xs).flatten Q) :
    wpAny (model X.prog X.w) X.A (binaryOp .Mult (.ref l) (.int k t)) (EP X pins σ Q) X.xe s := by
  obtain ⟨its, r, ⟨⟨cls, dd, data, sl⟩, ho, hc, n, hd⟩, hs⟩ := I.tuple hT
  simp only at hc hd
  subst hc hd
  have hle : its.length = xs.length := r.length.symm
  have hsz0 : its.toArray.size = xs.length := by rw [List.size_toArray, hle]
  have c0 : (decide (k < -(2 ^ 63)) || decide (k ≥ 2 ^ 63)) = false := by
    rw [decide_eq_false (by omega), decide_eq_false (by omega)] <;> rfl
  by_cases hbig : xs ≠ [] ∧ 2 ≤ k
  · have hi : its.toArray.isEmpty = false := by
      cases its with
      | nil => exact absurd (List.eq_nil_of_length_eq_zero hle.symm) hbig.1
      | cons a b => rfl
    have hm : ((its.toArray.size : Nat) : Int) * k ≤ 1000000 := by
      rw [hsz0]
      have a1 : ((xs.length : Nat) : Int) * k ≤ 1000 * k := Int.mul_le_mul_of_nonneg_right (by omega) (by omega)
      omega
    have flen : (List.replicate k.toNat its).flatten.length ≤ sizeLine := by
      rw [PyProof.Rows.lm_len_rep_flat, hle, sizeLine_eq]
      have a1 : k.toNat * xs.length ≤ 1000 * 1000 := Nat.mul_le_mul (by omega) hz
      omega
    have c1 : (its.toArray.isEmpty || k == 1) = false := by
      rw [hi, Bool.false_or]
      exact beq_eq_false_iff_ne.mpr (by omega)
    have c2 : (decide (k ≤ 0) || its.toArray.isEmpty) = false := by
      rw [hi, Bool.or_false]
      exact decide_eq_false (by omega)
    have c4 : Builtin.Tuple.tupleTooMany (((its.toArray.size : Nat) : Int) * k) = false := by
      unfold Builtin.Tuple.tupleTooMany
      rw [sizeLine_eq]
      exact decide_eq_false (by omega)
    refine wpAny_binaryOp_repeat_ref (T := "tuple") (U := "int") (by decide) ⟨_, ho, rfl⟩ (fun s' => typeIs_int s' k t) noFill_tuple_mul F.fills_int_mul F.slot_int_rmul repeat_tuple F.slot_int_index.lookup
      (call_meets F.slot_int_rmul (typeIs_int s k t) F.entry_int_rmul (F.args_int_rmul_2 _ _) (int_rmul_tuple k t l its.toArray n dd sl)
        ⟨ho, rfl, ⟨_, ho, rfl⟩, call_meets F.slot_tuple_mul ⟨_, ho, rfl⟩ F.entry_tuple_mul (F.args_tuple_mul_2 _ _) (tuple_mulW l its.toArray n dd sl k t c0 c1 c2 (by omega) c4 (by rw [size_rep, List.size_toArray]; exact flen)) ⟨ho, ?_⟩⟩)
    rw [size_rep]
    exact ⟨.ref s.heap.objs.size, _, Inv.tnew (t' := s.toks) I (r.rep k.toNat) (by rw [PyProof.Rows.lm_len_rep_flat, sizeLine_eq]; have a1 : k.toNat * xs.length ≤ 1000 * 1000 := Nat.mul_le_mul (by omega) hz; omega), rfl, q2 _ _ (I.hok.fresh (Nat.le_refl _)) rfl⟩
  · by_cases h1 : xs = [] ∨ k = 1
    · have c1 : (its.toArray.isEmpty || k == 1) = true := by
        rcases h1 with e | e
        · subst e; cases r; rfl
        · subst e; simp
      refine wpAny_binaryOp_repeat_ref (T := "tuple") (U := "int") (by decide) ⟨_, ho, rfl⟩ (fun s' => typeIs_int s' k t) noFill_tuple_mul F.fills_int_mul F.slot_int_rmul repeat_tuple F.slot_int_index.lookup
        (call_meets F.slot_int_rmul (typeIs_int s k t) F.entry_int_rmul (F.args_int_rmul_2 _ _) (int_rmul_tuple k t l its.toArray n dd sl)
          ⟨ho, rfl, ⟨_, ho, rfl⟩, call_meets F.slot_tuple_mul ⟨_, ho, rfl⟩ F.entry_tuple_mul (F.args_tuple_mul_2 _ _) (tuple_mul1 l its.toArray n dd sl k t c0 c1) ⟨ho, ?_⟩⟩)
      refine ⟨.ref l, H, I, rfl, q1 ?_⟩
      rcases h1 with e | e
      · subst e; simp
      · subst e; simp
    · have hn : xs ≠ [] := fun e => h1 (.inl e)
      have hk0 : k ≤ 0 := by
        have : ¬ (2 ≤ k) := fun z => hbig ⟨hn, z⟩
        have : k ≠ 1 := fun z => h1 (.inr z)
        omega
      have hi : its.toArray.isEmpty = false := by
        cases its with
        | nil => exact absurd (List.eq_nil_of_length_eq_zero hle.symm) hn
        | cons a b => rfl
      have c1 : (its.toArray.isEmpty || k == 1) = false := by
        rw [hi, Bool.false_or]; exact beq_eq_false_iff_ne.mpr (by omega)
      have c2 : (decide (k ≤ 0) || its.toArray.isEmpty) = true := by rw [decide_eq_true hk0]; rfl
      refine wpAny_binaryOp_repeat_ref (T := "tuple") (U := "int") (by decide) ⟨_, ho, rfl⟩ (fun s' => typeIs_int s' k t) noFill_tuple_mul F.fills_int_mul F.slot_int_rmul repeat_tuple F.slot_int_index.lookup
        (call_meets F.slot_int_rmul (typeIs_int s k t) F.entry_int_rmul (F.args_int_rmul_2 _ _) (int_rmul_tuple k t l its.toArray n dd sl)
          ⟨ho, rfl, ⟨_, ho, rfl⟩, call_meets F.slot_tuple_mul ⟨_, ho, rfl⟩ F.entry_tuple_mul (F.args_tuple_mul_2 _ _) (tuple_mul0 l its.toArray n dd sl k t c0 c1 c2) ⟨ho, ?_⟩⟩)
      have e0 : (List.replicate k.toNat xs).flatten = [] := by
        have : k.toNat = 0 := by omega
        rw [this]; rfl
      have q3 := q2 s.heap.objs.size { cls := .type "tuple", data := .seq ([] : List Value).toArray } (I.hok.fresh (Nat.le_refl _)) rfl
      rw [e0] at q3
      exact ⟨.ref s.heap.objs.size, _, Inv.tnew (its := []) (t' := s.toks) I .nil (Nat.zero_le _), rfl, q3⟩
theorem op_mulL {pins : List (Addr × Obj)} {s : Shared} {σ : L2.St} {H : Hp} {l : Addr} {xs : List V} {k : Int} {t : Tok} {Q : VK} (I : Inv X pins σ H s) (hT : H l = some (.lst xs)) (hk : k ≤ 1000) (hkl : -1000 ≤ k) (hz : xs.length ≤ 1000)
    (q2 : ∀ p, H p = none → Q (.ref p) (upd H p (.lst (List.replicate k.toNat xs).flatten))) :
    wpAny (model X.prog X.w) X.A (binaryOp .Mult (.ref l) (.int k t)) (EP X pins σ Q) X.xe s := by
  refine op_rep pins s σ H (.ref l) (.int k) _ _ Q I rfl ⟨t, rfl⟩ ⟨l, k, xs, rfl, rfl, hT, by omega, by omega, ?_, q2⟩
  rw [sizeLine_eq]
  have : xs.length * k.toNat ≤ 1000 * 1000 := Nat.mul_le_mul hz (by omega)
  omega
theorem op_bin (op : BOp) (hop : op ≠ .mul) : OpR X (binaryOp (toOp op)) (rPure X.K (binop op)) := by
  intro pins s σ H x y v u Q I rx ry ⟨r, t, z, F1, F2, h1, h2, e, q⟩
  cases op with
  | mul => exact absurd rfl hop
  | add =>
    cases r with
    | g r => cases t with
      | g t => cases r <;> cases t <;> simp only [binop, reduceCtorEq] at e
               · cases e; exact op_add pins s σ H x y v u Q I rx ry ⟨_, _, h1.1, h2.1, q.g rfl⟩
               · rename_i xs ys
                 split at e
                 · rename_i hl
                   cases e
                   obtain ⟨a, ws, rfl, s1, g1⟩ := rep_tup h1.1
                   obtain ⟨b, us, rfl, s2, g2⟩ := rep_tup h2.1
                   cases rx
                   cases ry
                   refine op_catD I s1.t s2.t ?_ (fun e1 => ?_) (fun e1 e2 => ?_) fun p o hp hd => q.tup (g1.append g2) hp hd
                   · rw [g1.len, g2.len, ← line_eq]; exact hl
                   · subst e1
                     have : xs = [] := by have := g1.len; simpa using this.symm
                     subst this
                     exact q.g ⟨b, us, rfl, s2, g2⟩
                   · subst e2
                     have : ys = [] := by have := g2.len; simpa using this.symm
                     subst this
                     refine q.g ⟨a, ws, rfl, s1, ?_⟩
                     rw [List.append_nil]; exact g1
                 · cases e
      | lst t => cases r <;> simp only [binop, reduceCtorEq] at e
    | lst r => cases t with
      | g t => cases t <;> simp only [binop, reduceCtorEq] at e
      | lst t =>
        simp only [binop] at e
        split at e
        · rename_i a b ea eb
          split at e
          · rename_i hl
            cases e
            obtain ⟨p1, ws, F', rfl, s1, g1, _⟩ := h1
            obtain ⟨p2, us, F'', rfl, s2, g2, _⟩ := h2
            obtain ⟨g1, _⟩ := g1.gs ea
            obtain ⟨g2, _⟩ := g2.gs eb
            cases rx
            cases ry
            refine op_catL I s1 s2 ?_ fun p hp => q.lst ((g1.append g2).os) hp
            rw [g1.len, g2.len, ← line_eq]; exact hl
          · cases e
        · cases e
  | sub =>
    cases r with
    | lst r => cases t <;> simp only [binop, reduceCtorEq] at e
    | g r => cases t with
      | lst t => cases r <;> simp only [binop, reduceCtorEq] at e
      | g t =>
        cases r <;> cases t <;> simp only [binop, reduceCtorEq] at e
        cases e; exact op_sub pins s σ H x y v u Q I rx ry ⟨_, _, h1.1, h2.1, q.g rfl⟩
  | mod =>
    cases r with
    | lst r => cases t <;> simp only [binop, reduceCtorEq] at e
    | g r => cases t with
      | lst t => cases r <;> simp only [binop, reduceCtorEq] at e
      | g t =>
        cases r <;> cases t <;> simp only [binop, reduceCtorEq] at e
        split at e
        · rename_i hj; cases e; exact op_mod pins s σ H x y v u Q I rx ry ⟨_, _, h1.1, h2.1, hj, q.g rfl⟩
        · cases e
  | fdiv =>
    cases r with
    | lst r => cases t <;> simp only [binop, reduceCtorEq] at e
    | g r => cases t with
      | lst t => cases r <;> simp only [binop, reduceCtorEq] at e
      | g t =>
        cases r <;> cases t <;> simp only [binop, reduceCtorEq] at e
        split at e
        · rename_i hj; cases e; exact op_fdiv pins s σ H x y v u Q I rx ry ⟨_, _, h1.1, h2.1, hj, q.g rfl⟩
        · cases e
  | pow =>
    cases r with
    | lst r => cases t <;> simp only [binop, reduceCtorEq] at e
    | g r => cases t with
      | lst t => cases r <;> simp only [binop, reduceCtorEq] at e
      | g t =>
        cases r <;> cases t <;> simp only [binop, reduceCtorEq] at e
        split at e
        · rename_i i j hj
          cases e
          refine op_pow pins s σ H x y v u Q I rx ry ⟨_, _, h1.1, h2.1, ⟨hj.1, hj.2.1, ?_⟩, q.g rfl⟩
          have := hj.2.2
          unfold i64 at this
          simp only [Bool.and_eq_true, decide_eq_true_eq] at this
          omega
        · cases e
  | shl =>
    cases r with
    | lst r => cases t <;> simp only [binop, reduceCtorEq] at e
    | g r => cases t with
      | lst t => cases r <;> simp only [binop, reduceCtorEq] at e
      | g t =>
        cases r <;> cases t <;> simp only [binop, reduceCtorEq] at e
        split at e
        · rename_i i j hj
          cases e
          refine op_shl pins s σ H x y v u Q I rx ry ⟨_, _, h1.1, h2.1, ⟨hj.1, hj.2.1, ?_⟩, q.g rfl⟩
          have := hj.2.2
          unfold i64 at this
          simp only [Bool.and_eq_true, decide_eq_true_eq] at this
          omega
        · cases e
  | shr =>
    cases r with
    | lst r => cases t <;> simp only [binop, reduceCtorEq] at e
    | g r => cases t with
      | lst t => cases r <;> simp only [binop, reduceCtorEq] at e
      | g t =>
        cases r <;> cases t <;> simp only [binop, reduceCtorEq] at e
        split at e
        · rename_i hj; cases e; exact op_shr pins s σ H x y v u Q I rx ry ⟨_, _, h1.1, h2.1, hj, q.g rfl⟩
        · cases e
  | band =>
    cases r with
    | lst r => cases t <;> simp only [binop, reduceCtorEq] at e
    | g r => cases t with
      | lst t => cases r <;> simp only [binop, reduceCtorEq] at e
      | g t =>
        cases r <;> cases t <;> simp only [binop, reduceCtorEq] at e
        cases e; exact op_and pins s σ H x y v u Q I rx ry ⟨_, _, h1.1, h2.1, q.g rfl⟩
  | bxor =>
    cases r with
    | lst r => cases t <;> simp only [binop, reduceCtorEq] at e
    | g r => cases t with
      | lst t => cases r <;> simp only [binop, reduceCtorEq] at e
      | g t =>
        cases r <;> cases t <;> simp only [binop, reduceCtorEq] at e
        cases e; exact op_xor pins s σ H x y v u Q I rx ry ⟨_, _, h1.1, h2.1, q.g rfl⟩
  | bor =>
    cases r with
    | lst r => cases t <;> simp only [binop, reduceCtorEq] at e
    | g r => cases t with
      | lst t => cases r <;> simp only [binop, reduceCtorEq] at e
      | g t =>
        cases r <;> cases t <;> simp only [binop, reduceCtorEq] at e
        cases e; exact op_or pins s σ H x y v u Q I rx ry ⟨_, _, h1.1, h2.1, q.g rfl⟩
end
end Pv
/-! Pv3: comparisons and built-in functions keep what the small language says of them. -/
namespace Pv
open PySem PySem.Spec PyProof.Rows L2
section
variable {X : Cx}
def toC : COp → CmpOp
  | .eq => .Eq | .ne => .NotEq | .lt => .Lt | .le => .LtE | .gt => .Gt | .ge => .GtE | .is_ => .Is | .isnt => .IsNot | .in_ => .In | .nin => .NotIn
def rCmp (K : PySem.W.Frag) (op : COp) : R2 := fun x y H Q => ∃ r s b F1 F2, RepR K H x r F1 ∧ RepR K H y s F2 ∧ cmpop op r s = .ok b ∧ Q (.bl b) H
theorem fit_shaped {x : G} (h : fit x = true) : SeqAt.shaped (toD x) = true := by
  unfold fit at h
  simp only [Bool.and_eq_true, decide_eq_true_eq] at h
  show ((toD x).canLay0 && decide ((toD x).depth ≤ 64)) = true
  rw [toD_lay, toD_depth, h.1, Bool.true_and]
  exact decide_eq_true (by omega)
theorem pyEq_ok {x y : G} {b : Bool} (h : pyEq x y = .ok b) : fit x = true ∧ fit y = true ∧ b = G.eqv x y := by
  unfold pyEq at h
  split at h
  · rename_i q
    simp only [Bool.and_eq_true] at q
    cases h
    exact ⟨q.1, q.2, rfl⟩
  · cases h
theorem bindB_ok {o : Out Bool} {f : Bool → Out Bool} {b : Bool} (h : o.bind f = .ok b) : ∃ c, o = .ok c ∧ f c = .ok b := by
  cases o with
  | ok c => exact ⟨c, rfl, h⟩
  | exc c => cases h
  | stuck => cases h
/-- a list or a tuple of ground items, as the library's data -/
theorem items_dp {K : PySem.W.Frag} {H : Hp} {v : V} {r : R} {F : List Addr} {ys : List G} (h : RepR K H v r F) (e : items? r = some ys) :
    (∃ a ws, v = .ref a ∧ SqL K H a ws ∧ RepGs K H ws ys) ∨ (∃ a ws, v = .ref a ∧ SqT K H a ws ∧ RepGs K H ws ys) := by
  cases r with
  | g r =>
    cases r <;> simp only [items?, reduceCtorEq] at e
    cases e
    obtain ⟨a, ws, e, s, g⟩ := rep_tup h.1
    exact .inr ⟨a, ws, e, s.t, g⟩
  | lst xs =>
    obtain ⟨a, ws, F', e1, s, g, _⟩ := h
    exact .inl ⟨a, ws, e1, s, (g.gs e).1⟩
theorem pyIn_ok {x : G} {ys : List G} {b : Bool} (h : pyIn x ys = .ok b) : fit x = true ∧ fits ys = true ∧ b = ys.any fun y => G.eqv y x := by
  unfold pyIn at h
  split at h
  · rename_i q
    simp only [Bool.and_eq_true] at q
    cases h
    exact ⟨q.1, q.2, rfl⟩
  · cases h
theorem fits_lay {ys : List G} (h : fits ys = true) : PyData.canLayAll0 (toD.toDs ys) = true := by
  unfold fits at h
  simp only [Bool.and_eq_true] at h
  rw [toDs_lay]; exact h.1
theorem fit_lay {y : G} (h : fit y = true) : (toD y).canLay0 = true := by
  unfold fit at h
  simp only [Bool.and_eq_true] at h
  rw [toD_lay]; exact h.1
theorem any_toD (x : G) (ys : List G) : ((toD.toDs ys).any fun z => PyData.eqv z (toD x)) = ys.any fun y => G.eqv y x := by
  rw [toDs_map, List.any_map]
  congr 1
  funext y
  exact toD_eqv y x
theorem op_inG (hu : X.A.units + 66 < cLine) {pins : List (Addr × Obj)} {s : Shared} {σ : L2.St} {H : Hp} {x y : V} {v u : Value} {Q : VK} (neg : Bool) (I : Inv X pins σ H s) (rx : RelV x v) (ry : RelV y u) {g : G} {r : R} {ys : List G} {F : List Addr}
    (h1 : RepG X.K H x g) (h2 : RepR X.K H y r F) (e : items? r = some ys) (f1 : fit g = true) (f2 : fits ys = true) (q : Q (.bl (xor neg (ys.any fun y => G.eqv y g))) H) :
    wpAny (model X.prog X.w) X.A (compareOp (if neg then .NotIn else .In) v u) (EP X pins σ Q) X.xe s := by
  obtain ⟨as, r1⟩ := Dp.reads I _ x v h1.dp rx
  have room : X.A.units + 1 + min (PyData.depthAll (toD.toDs ys)) (toD g).depth < cLine := by
    unfold fit at f1
    simp only [Bool.and_eq_true, decide_eq_true_eq] at f1
    rw [toD_depth]
    omega
  rcases items_dp h2 e with ⟨a, ws, rfl, sl, g2⟩ | ⟨a, ws, rfl, sl, g2⟩
  · obtain ⟨bs, r2⟩ := Dp.reads I (.list (toD.toDs ys)) _ u (.lst sl g2.dp) ry
    cases neg with
    | true =>
      refine SeqAt.notIn_list_reads r2 r1 (fits_lay f2) (fit_lay f1) room ⟨.bl _, H, I, rfl, ?_⟩
      rw [any_toD]; simpa using q
    | false =>
      refine SeqAt.in_list_reads r2 r1 (fits_lay f2) (fit_lay f1) room ⟨.bl _, H, I, rfl, ?_⟩
      rw [any_toD]; simpa using q
  · obtain ⟨bs, r2⟩ := Dp.reads I (.tuple (toD.toDs ys)) _ u (.tup sl g2.dp) ry
    cases neg with
    | true =>
      refine SeqAt.notIn_tuple_reads r2 r1 (fits_lay f2) (fit_lay f1) room ⟨.bl _, H, I, rfl, ?_⟩
      rw [any_toD]; simpa using q
    | false =>
      refine SeqAt.in_tuple_reads r2 r1 (fits_lay f2) (fit_lay f1) room ⟨.bl _, H, I, rfl, ?_⟩
      rw [any_toD]; simpa using q
theorem op_cmp (hu : X.A.units + 66 < cLine) (op : COp) : OpR X (compareOp (toC op)) (rCmp X.K op) := by
  intro pins s σ H x y v u Q I rx ry ⟨r, t, b, F1, F2, h1, h2, e, q⟩
  have eqG : ∀ {g k : G}, RepG X.K H x g → RepG X.K H y k → pyEq g k = .ok b → wpAny (model X.prog X.w) X.A (compareOp .Eq v u) (EP X pins σ Q) X.xe s := fun h1 h2 e => by
    obtain ⟨f1, f2, rfl⟩ := pyEq_ok e
    exact op_eqD (by omega) pins s σ H x y v u Q I rx ry ⟨_, _, h1.dp, h2.dp, fit_shaped f1, fit_shaped f2, by rw [toD_eqv]; exact q⟩
  have neG : ∀ {g k : G}, RepG X.K H x g → RepG X.K H y k → (pyEq g k).bind (fun b => .ok (!b)) = .ok b → wpAny (model X.prog X.w) X.A (compareOp .NotEq v u) (EP X pins σ Q) X.xe s := fun h1 h2 e => by
    obtain ⟨c, e, ec⟩ := bindB_ok e
    obtain ⟨f1, f2, rfl⟩ := pyEq_ok e
    cases ec
    exact op_neD (by omega) pins s σ H x y v u Q I rx ry ⟨_, _, h1.dp, h2.dp, fit_shaped f1, fit_shaped f2, by rw [toD_eqv]; exact q⟩
  have shL : ∀ {a : List G}, fit (.tup a) = true → SeqAt.shaped (.list (toD.toDs a)) = true := fun h => by
    have := fit_shaped h
    exact this
  cases op with
  | eq =>
    cases r with
    | g r => cases t with
      | g t => exact eqG h1.1 h2.1 (by simpa only [cmpop] using e)
      | lst t => simp only [cmpop, reduceCtorEq] at e
    | lst xs => cases t with
      | g t => simp only [cmpop, reduceCtorEq] at e
      | lst ys =>
        simp only [cmpop] at e
        split at e
        · rename_i a c ea ec
          obtain ⟨f1, f2, rfl⟩ := pyEq_ok e
          obtain ⟨p1, ws, F', rfl, s1, g1, _⟩ := h1
          obtain ⟨p2, us, F'', rfl, s2, g2, _⟩ := h2
          refine op_eqD (by omega) pins s σ H _ _ v u Q I rx ry ⟨_, _, .lst s1 (g1.gs ea).1.dp, .lst s2 (g2.gs ec).1.dp, shL f1, shL f2, ?_⟩
          have : PyData.eqv (.list (toD.toDs a)) (.list (toD.toDs c)) = G.eqv (.tup a) (.tup c) := by
            rw [PyData.eqv, toDs_eqv]; rfl
          rw [this]; exact q
        · cases e
  | ne =>
    cases r with
    | g r => cases t with
      | g t => exact neG h1.1 h2.1 (by simpa only [cmpop] using e)
      | lst t => simp only [cmpop, reduceCtorEq] at e
    | lst xs => cases t with
      | g t => simp only [cmpop, reduceCtorEq] at e
      | lst ys =>
        simp only [cmpop] at e
        split at e
        · rename_i a c ea ec
          obtain ⟨d, e, ed⟩ := bindB_ok e
          obtain ⟨f1, f2, rfl⟩ := pyEq_ok e
          cases ed
          obtain ⟨p1, ws, F', rfl, s1, g1, _⟩ := h1
          obtain ⟨p2, us, F'', rfl, s2, g2, _⟩ := h2
          refine op_neD (by omega) pins s σ H _ _ v u Q I rx ry ⟨_, _, .lst s1 (g1.gs ea).1.dp, .lst s2 (g2.gs ec).1.dp, shL f1, shL f2, ?_⟩
          have : PyData.eqv (.list (toD.toDs a)) (.list (toD.toDs c)) = G.eqv (.tup a) (.tup c) := by
            rw [PyData.eqv, toDs_eqv]; rfl
          rw [this]; exact q
        · cases e
  | lt =>
    cases r with
    | lst r => cases t <;> simp only [cmpop, reduceCtorEq] at e
    | g r => cases t with
      | lst t => cases r <;> simp only [cmpop, reduceCtorEq] at e
      | g t =>
        cases r <;> cases t <;> simp only [cmpop, reduceCtorEq] at e
        cases e; exact op_lt pins s σ H x y v u Q I rx ry ⟨_, _, h1.1, h2.1, q⟩
  | le =>
    cases r with
    | lst r => cases t <;> simp only [cmpop, reduceCtorEq] at e
    | g r => cases t with
      | lst t => cases r <;> simp only [cmpop, reduceCtorEq] at e
      | g t =>
        cases r <;> cases t <;> simp only [cmpop, reduceCtorEq] at e
        cases e; exact op_le pins s σ H x y v u Q I rx ry ⟨_, _, h1.1, h2.1, q⟩
  | gt =>
    cases r with
    | lst r => cases t <;> simp only [cmpop, reduceCtorEq] at e
    | g r => cases t with
      | lst t => cases r <;> simp only [cmpop, reduceCtorEq] at e
      | g t =>
        cases r <;> cases t <;> simp only [cmpop, reduceCtorEq] at e
        cases e; exact op_gt pins s σ H x y v u Q I rx ry ⟨_, _, h1.1, h2.1, q⟩
  | ge =>
    cases r with
    | lst r => cases t <;> simp only [cmpop, reduceCtorEq] at e
    | g r => cases t with
      | lst t => cases r <;> simp only [cmpop, reduceCtorEq] at e
      | g t =>
        cases r <;> cases t <;> simp only [cmpop, reduceCtorEq] at e
        cases e; exact op_ge pins s σ H x y v u Q I rx ry ⟨_, _, h1.1, h2.1, q⟩
  | is_ =>
    have nn : ∀ {c : Bool}, y = .non → c = decide (x = .non) → Q (.bl c) H → wpAny (model X.prog X.w) X.A (compareOp .Is v u) (EP X pins σ Q) X.xe s := fun ey ec q => by
      subst ec
      exact op_isN pins s σ H x y v u Q I rx ry ⟨ey, q⟩
    cases r with
    | lst r => cases t with
      | lst t => simp only [cmpop, reduceCtorEq] at e
      | g t =>
        cases t <;> simp only [cmpop, reduceCtorEq] at e
        cases e
        obtain ⟨a, _, _, rfl, _⟩ := h1
        exact nn h2.1 (by simp) q
    | g r => cases t with
      | lst t => cases r <;> simp only [cmpop, reduceCtorEq] at e
      | g t =>
        cases t with
        | non =>
          cases r with
          | non => simp only [cmpop] at e; cases e; exact nn h2.1 (by rw [show x = .non from h1.1]; rfl) q
          | tup r => simp only [cmpop] at e; cases e; obtain ⟨a, ws, rfl, _⟩ := rep_tup h1.1; exact nn h2.1 (by simp) q
          | bl r => simp only [cmpop] at e; cases e; exact nn h2.1 (by rw [show x = .bl r from h1.1]; simp) q
          | int r => simp only [cmpop] at e; cases e; exact nn h2.1 (by rw [show x = .int r from h1.1]; simp) q
          | str r => simp only [cmpop] at e; cases e; exact nn h2.1 (by rw [show x = .str r from h1.1]; simp) q
        | bl t =>
          cases r <;> simp only [cmpop, reduceCtorEq] at e
          cases e
          rename_i r
          refine op_is_bl pins s σ H x y v u Q I rx ry ⟨r, t, h1.1, h2.1, ?_⟩
          have : decide (r = t) = (r == t) := by cases r <;> cases t <;> rfl
          rw [this]; exact q
        | _ => cases r <;> simp only [cmpop, reduceCtorEq] at e
  | isnt =>
    have nn : ∀ {c : Bool}, y = .non → c = (!decide (x = .non)) → Q (.bl c) H → wpAny (model X.prog X.w) X.A (compareOp .IsNot v u) (EP X pins σ Q) X.xe s := fun ey ec q => by
      subst ec
      exact op_notN pins s σ H x y v u Q I rx ry ⟨ey, q⟩
    cases r with
    | lst r => cases t with
      | lst t => simp only [cmpop, reduceCtorEq] at e
      | g t =>
        cases t <;> simp only [cmpop, reduceCtorEq] at e
        cases e
        obtain ⟨a, _, _, rfl, _⟩ := h1
        exact nn h2.1 (by simp) q
    | g r => cases t with
      | lst t => cases r <;> simp only [cmpop, reduceCtorEq] at e
      | g t =>
        cases t with
        | non =>
          cases r with
          | non => simp only [cmpop] at e; cases e; exact nn h2.1 (by rw [show x = .non from h1.1]; rfl) q
          | tup r => simp only [cmpop] at e; cases e; obtain ⟨a, ws, rfl, _⟩ := rep_tup h1.1; exact nn h2.1 (by simp) q
          | bl r => simp only [cmpop] at e; cases e; exact nn h2.1 (by rw [show x = .bl r from h1.1]; simp) q
          | int r => simp only [cmpop] at e; cases e; exact nn h2.1 (by rw [show x = .int r from h1.1]; simp) q
          | str r => simp only [cmpop] at e; cases e; exact nn h2.1 (by rw [show x = .str r from h1.1]; simp) q
        | bl t =>
          cases r <;> simp only [cmpop, reduceCtorEq] at e
          cases e
          rename_i r
          refine op_isnot_bl pins s σ H x y v u Q I rx ry ⟨r, t, h1.1, h2.1, ?_⟩
          have : (!decide (r = t)) = (r != t) := by cases r <;> cases t <;> rfl
          rw [this]; exact q
        | _ => cases r <;> simp only [cmpop, reduceCtorEq] at e
  | in_ =>
    cases r with
    | lst r => simp only [cmpop, reduceCtorEq] at e
    | g r =>
      simp only [cmpop] at e
      split at e
      · rename_i ys ey
        obtain ⟨f1, f2, rfl⟩ := pyIn_ok e
        exact op_inG hu false I rx ry h1.1 h2 ey f1 f2 (by simpa using q)
      · cases e
  | nin =>
    cases r with
    | lst r => simp only [cmpop, reduceCtorEq] at e
    | g r =>
      simp only [cmpop] at e
      split at e
      · rename_i ys ey
        obtain ⟨d, e, ed⟩ := bindB_ok e
        obtain ⟨f1, f2, rfl⟩ := pyIn_ok e
        cases ed
        exact op_inG hu true I rx ry h1.1 h2 ey f1 f2 (by simpa using q)
      · cases e
end
end Pv
/-! Pv4: built-in functions. -/
namespace Pv
open PySem PySem.Spec PyProof.Rows L2
theorem insI_perm (i : Int) : ∀ l : List Int, (insI i l).Perm (i :: l)
  | [] => .refl _
  | j :: r => by
    unfold insI
    split
    · exact .refl _
    · exact ((insI_perm i r).cons j).trans (.swap i j r)
theorem sortI_perm : ∀ l : List Int, (sortI l).Perm l
  | [] => .refl _
  | i :: r => (insI_perm i (sortI r)).trans ((sortI_perm r).cons i)
theorem insI_sorted (i : Int) : ∀ l : List Int, l.Pairwise (· ≤ ·) → (insI i l).Pairwise (· ≤ ·)
  | [], _ => by unfold insI; simp
  | j :: r, h => by
    unfold insI
    rw [List.pairwise_cons] at h
    split
    · rename_i hij
      rw [List.pairwise_cons]
      refine ⟨fun a ha => ?_, List.pairwise_cons.mpr h⟩
      rcases List.mem_cons.mp ha with e | e
      · subst e; exact hij
      · exact Int.le_trans hij (h.1 a e)
    · rename_i hij
      rw [List.pairwise_cons]
      refine ⟨fun a ha => ?_, insI_sorted i r h.2⟩
      rcases List.mem_cons.mp ((insI_perm i r).mem_iff.mp ha) with e | e
      · subst e; omega
      · exact h.1 a e
theorem sortI_sorted : ∀ l : List Int, (sortI l).Pairwise (· ≤ ·)
  | [] => .nil
  | i :: r => insI_sorted i _ (sortI_sorted r)
theorem sorted_unique : ∀ {a b : List Int}, a.Perm b → a.Pairwise (· ≤ ·) → b.Pairwise (· ≤ ·) → a = b
  | [], b, p, _, _ => by have := p.length_eq; simp at this; exact (List.eq_nil_of_length_eq_zero this.symm).symm
  | x :: a, [], p, _, _ => by have := p.length_eq; simp at this
  | x :: a, y :: b, p, ha, hb => by
    rw [List.pairwise_cons] at ha hb
    have h1 : x ≤ y := by
      rcases List.mem_cons.mp (p.mem_iff.mpr List.mem_cons_self) with e | e
      · omega
      · exact ha.1 y e
    have h2 : y ≤ x := by
      rcases List.mem_cons.mp (p.mem_iff.mp List.mem_cons_self) with e | e
      · omega
      · exact hb.1 x e
    have e : x = y := by omega
    subst e
    rw [sorted_unique ((List.perm_cons x).mp p) ha.2 hb.2]
theorem sortI_eq {ns ns' : List Int} (p : ns'.Perm ns) (h : ns'.Pairwise (· ≤ ·)) : ns' = sortI ns := sorted_unique (p.trans (sortI_perm ns).symm) h (sortI_sorted ns)
theorem foldl_max (r : List Int) : ∀ i : Int, (r.foldl (fun a b => if b > a then b else a) i) ∈ i :: r ∧ ∀ y ∈ i :: r, y ≤ r.foldl (fun a b => if b > a then b else a) i := by
  induction r with
  | nil => intro i; simp
  | cons j r ih =>
    intro i
    rw [List.foldl_cons]
    obtain ⟨h1, h2⟩ := ih (if j > i then j else i)
    have hi : i ≤ (if j > i then j else i) := by split <;> omega
    have hj : j ≤ (if j > i then j else i) := by split <;> omega
    refine ⟨?_, fun y hy => ?_⟩
    · rcases List.mem_cons.mp h1 with e | e
      · rw [e]; split <;> simp
      · exact List.mem_cons_of_mem _ (List.mem_cons_of_mem _ e)
    · have hm := h2 _ List.mem_cons_self
      rcases List.mem_cons.mp hy with e | hy
      · subst e; omega
      · rcases List.mem_cons.mp hy with e | hy
        · subst e; omega
        · exact h2 y (List.mem_cons_of_mem _ hy)
theorem foldl_min (r : List Int) : ∀ i : Int, (r.foldl (fun a b => if b < a then b else a) i) ∈ i :: r ∧ ∀ y ∈ i :: r, r.foldl (fun a b => if b < a then b else a) i ≤ y := by
  induction r with
  | nil => intro i; simp
  | cons j r ih =>
    intro i
    rw [List.foldl_cons]
    obtain ⟨h1, h2⟩ := ih (if j < i then j else i)
    have hi : (if j < i then j else i) ≤ i := by split <;> omega
    have hj : (if j < i then j else i) ≤ j := by split <;> omega
    refine ⟨?_, fun y hy => ?_⟩
    · rcases List.mem_cons.mp h1 with e | e
      · rw [e]; split <;> simp
      · exact List.mem_cons_of_mem _ (List.mem_cons_of_mem _ e)
    · have hm := h2 _ List.mem_cons_self
      rcases List.mem_cons.mp hy with e | hy
      · subst e; omega
      · rcases List.mem_cons.mp hy with e | hy
        · subst e; omega
        · exact h2 y (List.mem_cons_of_mem _ hy)
section
variable {X : Cx}
def b1V : B1 → Value
  | .len => .builtin "len" | .tuple => .type "tuple" | .list => .type "list" | .int => .type "int" | .abs => .builtin "abs" | .sum => .builtin "sum" | .all => .builtin "all" | .any => .builtin "any" | .sorted => .builtin "sorted" | .max => .builtin "max" | .min => .builtin "min"
def rB1 (K : PySem.W.Frag) (f : B1) : List V → Hp → VK → Prop := fun vs H Q => ∃ x r z F, vs = [x] ∧ RepR K H x r F ∧ b1op f r = .ok z ∧ Ans K H z Q
section
variable {prog : Program} {w : World} {A : Around} {E : Value → Shared → Prop} {s : Shared} {l : Addr} {its : List Value} {ns : List Int} {Q : Value → Shared → Prop}
theorem iter_tup {items : Array Value} (hl : s.heap.IsTuple l items)
    (h : ∀ s₂ : Shared, s₂ = { s with heap := s.heap.push { cls := .type "tuple_iterator", data := .fields #[.ref l, .int 0 0] } } →
      (s₂.heap.IsTupleIter s.heap.objs.size l 0 ∧ s₂.heap.IsTuple l items) → l ≠ s.heap.objs.size → Q (.ref s.heap.objs.size) s₂) : wpAny (model prog w) A (pyIter (.ref l)) Q E s := by
  have hlt : l < s.heap.objs.size := by obtain ⟨_, e, _⟩ := hl; exact Heap.lt_size e
  exact wpAny_pyIter_tuple hl (h _ rfl ⟨⟨_, Heap.get?_push_size _ rfl, rfl, rfl⟩, hl.push _⟩ (Nat.ne_of_lt hlt))
theorem old_kept' {h : Heap} {o : Obj} {h' : Heap} {tk : Nat} (hk : ∀ b o', b ∉ [h.objs.size] → (h.push o).get? b = some o' → h'.get? b = some o') : ∀ b o', h.get? b = some o' → h'.get? b = some o' := fun b o' e =>
  hk b o' (fun hm => by rw [List.mem_singleton.mp hm] at e; exact absurd (Heap.lt_size e) (Nat.lt_irrefl _)) (Heap.get?_push_of_some _ e)
theorem sum_tup (hh : A.handled = none) (hl : s.heap.IsTuple l its.toArray) (hi : IntsAre its ns)
    (h : ∀ h' tk t', (∀ b o, s.heap.get? b = some o → h'.get? b = some o) → Q (.int ns.sum t') { s with heap := h', toks := tk }) : wpAny (model prog w) A (call (.builtin "sum") [.ref l]) Q E s := by
  obtain ⟨xs, e⟩ := hi.allInts.items
  have hn : numsOf (intItems xs).toList = ns := by rw [← e]; exact hi.numsOf
  rw [nums_intItems] at hn
  rw [e] at hl
  refine call_sum_walkG (iter_tup hl fun s₂ e2 st hlI => ?_)
  subst e2
  have hlt : l < s.heap.objs.size := by obtain ⟨_, e, _⟩ := hl; exact Heap.lt_size e
  refine ⟨_, _, _, _, _, _, numAt xs, rfl, Walks.tuple (A := A.in1) hh _ l hlI (intItems xs), st, fun b hb => ?_, (fun _ _ => intItems_at), fun h' tk t' hk => ?_⟩
  · have hsz : ∀ o : Obj, (s.heap.push o).objs.size = s.heap.objs.size + 1 := fun o => Heap.size_push ..
    show b < (s.heap.push _).objs.size
    rw [hsz]
    simp only [List.mem_cons, List.mem_nil_iff, or_false] at hb
    rcases hb with e | e
    · rw [e]; exact Nat.lt_succ_self _
    · rw [e]; exact Nat.lt_succ_of_lt hlt
  · have h2 := h h' tk t' (fun b o' e => hk b o' (fun hm => by
      have : b = s.heap.objs.size := by simpa using hm
      subst this
      exact absurd (Heap.lt_size e) (Nat.lt_irrefl _)) (Heap.get?_push_of_some _ e))
    have e3 : preSum (numAt xs) (intItems xs).size = ns.sum := by
      have : (intItems xs).size = xs.size := by simp [intItems]
      rw [this, preSum_eq, List.take_of_length_le (by simp), hn]
    rw [e3]; exact h2
end
theorem call_b1 (hc : X.calm = true) (f : B1) : CallR X (b1V f) (rB1 X.K f) := by
  intro pins s σ H vs us Q I rv ⟨x, r, z, F, e0, h, e, q⟩
  subst e0
  cases f with
  | len =>
    cases r with
    | g r =>
      cases r <;> simp only [b1op, reduceCtorEq] at e
      cases e
      obtain ⟨a, ws, rfl, s1, g1⟩ := rep_tup h.1
      have q1 := q.g (v := .int ws.length) (by rw [g1.len]; rfl)
      exact call_len_seq pins s σ H _ us Q I rv ⟨a, ws, rfl, .inr s1.t, q1⟩
    | lst xs =>
      simp only [b1op] at e
      cases e
      obtain ⟨a, ws, F', rfl, s1, g1, _⟩ := h
      have q1 := q.g (v := .int ws.length) (by rw [g1.len]; rfl)
      exact call_len_seq pins s σ H _ us Q I rv ⟨a, ws, rfl, .inl s1, q1⟩
  | tuple =>
    cases r with
    | g r =>
      cases r <;> simp only [b1op, reduceCtorEq] at e
      cases e
      obtain ⟨a, ws, rfl, s1, g1⟩ := rep_tup h.1
      exact call_tuple_of pins s σ H _ us Q I rv ⟨a, ws, rfl, .inr ⟨s1.t, q.g ⟨a, ws, rfl, s1, g1⟩⟩⟩
    | lst xs =>
      simp only [b1op] at e
      split at e
      · rename_i ys ey
        cases e
        obtain ⟨a, ws, F', rfl, s1, g1, _⟩ := h
        exact call_tupleD I rv s1 fun p o hp hd => q.tup (g1.gs ey).1 hp hd
      · cases e
  | list =>
    cases r with
    | g r =>
      cases r <;> simp only [b1op, reduceCtorEq] at e
      cases e
      obtain ⟨a, ws, rfl, s1, g1⟩ := rep_tup h.1
      exact call_list_of pins s σ H _ us Q I rv ⟨a, ws, rfl, .inr s1.t, fun p hp => q.lst g1.os hp⟩
    | lst xs =>
      simp only [b1op] at e
      split at e
      · rename_i ys ey
        cases e
        obtain ⟨a, ws, F', rfl, s1, g1, _⟩ := h
        exact call_list_of pins s σ H _ us Q I rv ⟨a, ws, rfl, .inl s1, fun p hp => q.lst (g1.gs ey).1.os hp⟩
      · cases e
  | int =>
    cases r with
    | lst r => simp only [b1op, reduceCtorEq] at e
    | g r =>
      cases r <;> simp only [b1op, reduceCtorEq] at e
      · cases e
        exact call_int1 pins s σ H _ us Q I rv (.inr ⟨_, by rw [show x = _ from h.1], q.g rfl⟩)
      · cases e
        exact call_int1 pins s σ H _ us Q I rv (.inl ⟨_, by rw [show x = _ from h.1], q.g rfl⟩)
  | abs =>
    cases r with
    | lst r => simp only [b1op, reduceCtorEq] at e
    | g r =>
      cases r <;> simp only [b1op, reduceCtorEq] at e
      cases e
      exact call_abs pins s σ H _ us Q I rv ⟨_, by rw [show x = _ from h.1], q.g rfl⟩
  | sum =>
    simp only [b1op] at e
    split at e
    · rename_i ns en
      cases e
      obtain ⟨ys, ey, en⟩ := Option.bind_eq_some_iff.mp en
      rcases items_dp h ey with ⟨a, ws, rfl, sl, g2⟩ | ⟨a, ws, rfl, sl, g2⟩
      · have ew := g2.ints en
        subst ew
        exact cr_sum hc pins s σ H _ us Q I rv ⟨a, ns, rfl, sl, q.g rfl⟩
      · have ew := g2.ints en
        subst ew
        obtain ⟨its, rv2, hl, _⟩ := I.tuple sl
        rw [Vals.ref1 rv]
        exact sum_tup (I.ok.hd hc) hl rv2.ints fun h' tk t' hk => ⟨.int _, H, I.kept hk, ⟨_, rfl⟩, q.g rfl⟩
    · cases e
  | all =>
    cases r with
    | g r => simp only [b1op, reduceCtorEq] at e
    | lst xs =>
      simp only [b1op] at e
      split at e
      · rename_i bs eb
        cases e
        obtain ⟨ys, ey, eb⟩ := Option.bind_eq_some_iff.mp eb
        obtain ⟨a, ws, F', rfl, s1, g1, _⟩ := h
        have ew := (g1.gs ey).1.bls eb
        subst ew
        exact cr_all hc pins s σ H _ us Q I rv ⟨a, bs, rfl, s1, q.g rfl⟩
      · cases e
  | any =>
    cases r with
    | g r => simp only [b1op, reduceCtorEq] at e
    | lst xs =>
      simp only [b1op] at e
      split at e
      · rename_i bs eb
        cases e
        obtain ⟨ys, ey, eb⟩ := Option.bind_eq_some_iff.mp eb
        obtain ⟨a, ws, F', rfl, s1, g1, _⟩ := h
        have ew := (g1.gs ey).1.bls eb
        subst ew
        exact cr_any hc pins s σ H _ us Q I rv ⟨a, bs, rfl, s1, q.g rfl⟩
      · cases e
  | sorted =>
    cases r with
    | g r => simp only [b1op, reduceCtorEq] at e
    | lst xs =>
      simp only [b1op] at e
      split at e
      · rename_i ns en
        cases e
        obtain ⟨ys, ey, en⟩ := Option.bind_eq_some_iff.mp en
        obtain ⟨a, ws, F', rfl, s1, g1, _⟩ := h
        have ew := (g1.gs ey).1.ints en
        subst ew
        refine cr_sortedI pins s σ H _ us Q I rv ⟨a, ns, rfl, s1, fun ns' p hp hs hn => ?_⟩
        rw [sortI_eq hp hs]
        exact q.lst (repgs_ints _ _ _).os hn
      · cases e
  | max =>
    cases r with
    | g r => simp only [b1op, reduceCtorEq] at e
    | lst xs =>
      simp only [b1op] at e
      split at e
      · rename_i n en
        cases e
        obtain ⟨ns, en, em⟩ := Option.bind_eq_some_iff.mp en
        obtain ⟨ys, ey, en⟩ := Option.bind_eq_some_iff.mp en
        obtain ⟨a, ws, F', rfl, s1, g1, _⟩ := h
        have ew := (g1.gs ey).1.ints en
        subst ew
        refine cr_max hc pins s σ H _ us Q I rv ⟨a, ns, rfl, s1, ?_, fun m hm hle => ?_⟩
        · cases ns with
          | nil => cases em
          | cons i r => simp
        · cases ns with
          | nil => cases em
          | cons i r =>
            cases em
            have h1 := foldl_max r i
            have e1 := hle _ h1.1
            have e2 := h1.2 m hm
            have : m = r.foldl (fun a b => if b > a then b else a) i := by omega
            rw [this]
            exact q.g rfl
      · cases e
  | min =>
    cases r with
    | g r => simp only [b1op, reduceCtorEq] at e
    | lst xs =>
      simp only [b1op] at e
      split at e
      · rename_i n en
        cases e
        obtain ⟨ns, en, em⟩ := Option.bind_eq_some_iff.mp en
        obtain ⟨ys, ey, en⟩ := Option.bind_eq_some_iff.mp en
        obtain ⟨a, ws, F', rfl, s1, g1, _⟩ := h
        have ew := (g1.gs ey).1.ints en
        subst ew
        refine cr_min hc pins s σ H _ us Q I rv ⟨a, ns, rfl, s1, ?_, fun m hm hle => ?_⟩
        · cases ns with
          | nil => cases em
          | cons i r => simp
        · cases ns with
          | nil => cases em
          | cons i r =>
            cases em
            have h1 := foldl_min r i
            have e1 := hle _ h1.1
            have e2 := h1.2 m hm
            have : m = r.foldl (fun a b => if b < a then b else a) i := by omega
            rw [this]
            exact q.g rfl
      · cases e
/-! ### two arguments, isinstance, methods -/
def b2V : B2 → Value
  | .max => .builtin "max" | .min => .builtin "min"
def rB2 (K : PySem.W.Frag) (f : B2) : List V → Hp → VK → Prop := fun vs H Q => ∃ x y r s z F1 F2, vs = [x, y] ∧ RepR K H x r F1 ∧ RepR K H y s F2 ∧ b2op f r s = .ok z ∧ Ans K H z Q
theorem call_b2 (hc : X.calm = true) (f : B2) : CallR X (b2V f) (rB2 X.K f) := by
  intro pins s σ H vs us Q I rv ⟨x, y, r, t, z, F1, F2, e0, h1, h2, e, q⟩
  subst e0
  cases f with
  | max =>
    cases r with
    | lst r => simp only [b2op, reduceCtorEq] at e
    | g r => cases t with
      | lst t => cases r <;> simp only [b2op, reduceCtorEq] at e
      | g t =>
        cases r <;> cases t <;> simp only [b2op, reduceCtorEq] at e
        cases e
        exact call_max2 hc pins s σ H _ us Q I rv ⟨_, _, by rw [show x = _ from h1.1, show y = _ from h2.1], q.g rfl⟩
  | min =>
    cases r with
    | lst r => simp only [b2op, reduceCtorEq] at e
    | g r => cases t with
      | lst t => cases r <;> simp only [b2op, reduceCtorEq] at e
      | g t =>
        cases r <;> cases t <;> simp only [b2op, reduceCtorEq] at e
        cases e
        exact call_min2 hc pins s σ H _ us Q I rv ⟨_, _, by rw [show x = _ from h1.1, show y = _ from h2.1], q.g rfl⟩
def tyN : Ty → String
  | .bool => "bool" | .int => "int" | .str => "str" | .tuple => "tuple" | .list => "list"
def rIs (K : PySem.W.Frag) (t : Ty) : List V → Hp → VK → Prop := fun vs H Q => ∃ x r F, vs = [x, .ty (tyN t)] ∧ RepR K H x r F ∧ Q (.bl (isiop r t)) H
theorem tyx_tup {K : PySem.W.Frag} {H : Hp} {a : Addr} {ws : List V} (h : SqT K H a ws) : TyX K H (.ref a) (.type "tuple") := by
  rcases h with (h | ⟨o, h⟩) | ⟨o, its, n, h1, h2, _⟩
  · exact .base (.tup h)
  · exact .fTuple h
  · exact .kTuple h1 h2
theorem tyx_lst {K : PySem.W.Frag} {H : Hp} {a : Addr} {ws : List V} (h : SqL K H a ws) : TyX K H (.ref a) (.type "list") := by
  rcases h with (h | ⟨o, h⟩) | ⟨o, its, n, h1, h2, _⟩
  · exact .base (.lst h)
  · exact .base (.frz h)
  · exact .kList h1 h2
theorem kb (t : Ty) : kitB "bool" (tyN t) = some (isiop (.g (.bl true)) t) := by cases t <;> decide +kernel
theorem ki (t : Ty) : kitB "int" (tyN t) = some (isiop (.g (.int 0)) t) := by cases t <;> decide +kernel
theorem ks (t : Ty) : kitB "str" (tyN t) = some (isiop (.g (.str "")) t) := by cases t <;> decide +kernel
theorem ktp (t : Ty) : kitB "tuple" (tyN t) = some (isiop (.g (.tup [])) t) := by cases t <;> decide +kernel
theorem kn (t : Ty) : kitB "NoneType" (tyN t) = some (isiop (.g .non) t) := by cases t <;> decide +kernel
theorem kl (t : Ty) : kitB "list" (tyN t) = some (isiop (.lst []) t) := by cases t <;> decide +kernel
theorem call_is (t : Ty) : CallR X (.builtin "isinstance") (rIs X.K t) := by
  intro pins s σ H vs us Q I rv ⟨x, r, F, e0, h, q⟩
  subst e0
  have go : ∀ (n : String) (b : Bool), TyX X.K H x (.type n) → PySem.W.kitOne X.K (.type n) (.type (tyN t)) = some b → Q (.bl b) H → wpAny (model X.prog X.w) X.A (call (.builtin "isinstance") us) (EP X pins σ Q) X.xe s := fun n b ty k q =>
    call_isi pins s σ H _ us Q I rv ⟨x, _, _, _, b, rfl, .ty _, ty, k, q⟩
  cases r with
  | g r =>
    cases r with
    | non => exact go "NoneType" _ (by rw [show x = _ from h.1]; exact .base .non) (kit_ty (r := isiop (.g .non) t) ((kn t))) q
    | bl b => exact go "bool" _ (by rw [show x = _ from h.1]; exact .base (.bl b)) (kit_ty (r := isiop (.g (.bl b)) t) (((kb t)).trans (by cases t <;> rfl))) q
    | int i => exact go "int" _ (by rw [show x = _ from h.1]; exact .base (.int i)) (kit_ty (r := isiop (.g (.int i)) t) (((ki t)).trans (by cases t <;> rfl))) q
    | str i => exact go "str" _ (by rw [show x = _ from h.1]; exact .base (.str i)) (kit_ty (r := isiop (.g (.str i)) t) (((ks t)).trans (by cases t <;> rfl))) q
    | tup ys =>
      obtain ⟨a, ws, rfl, s1, g1⟩ := rep_tup h.1
      exact go "tuple" _ (tyx_tup s1.t) (kit_ty (r := isiop (.g (.tup ys)) t) (((ktp t)).trans (by cases t <;> rfl))) q
  | lst ys =>
    obtain ⟨a, ws, F', rfl, s1, g1, _⟩ := h
    exact go "list" _ (tyx_lst s1) (kit_ty (r := isiop (.lst ys) t) (((kl t)).trans (by cases t <;> rfl))) q
/-! ### index, count -/
theorem firstAt_spec (x : G) : ∀ (ys : List G) (n m : Nat), firstAt x ys n = some m → ∃ j y, m = n + j ∧ ys[j]? = some y ∧ G.eqv y x = true ∧ ∀ (k : Nat) (z : G), k < j → ys[k]? = some z → G.eqv z x = false
  | [], _, _, h => by cases h
  | y :: r, n, m, h => by
    unfold firstAt at h
    cases e : G.eqv y x with
    | true =>
      rw [e] at h
      cases h
      exact ⟨0, y, rfl, rfl, e, fun k z hk => absurd hk (Nat.not_lt_zero _)⟩
    | false =>
      rw [e] at h
      obtain ⟨j, z, h1, h2, h3, h4⟩ := firstAt_spec x r (n + 1) m h
      refine ⟨j + 1, z, by omega, by simpa using h2, h3, fun k w hk hw => ?_⟩
      cases k with
      | zero =>
        have e1 : y = w := by simpa using hw
        rw [← e1]; exact e
      | succ k => exact h4 k w (by omega) (by simpa using hw)
/-- how the library compares the items with x -/
theorem items_eq {pins : List (Addr × Obj)} {s : Shared} {σ : L2.St} {H : Hp} (hu : X.A.units + 66 < cLine) (I : Inv X pins σ H s) {ys : List G} {ws : List V} {its : List Value} (g2 : RepGs X.K H ws ys) (rv : Vals ws its) {x : V} {v : Value} {g : G} (h1 : RepG X.K H x g) (rx : RelV x v)
    (f1 : fit g = true) (f2 : fits ys = true) : (∀ y, y ∈ its.toArray → SeqAt.EqAt X.A.in1 s y v (PyData.eqv (SeqAt.readOf s.heap y) (toD g))) ∧ its.map (SeqAt.readOf s.heap) = toD.toDs ys := by
  obtain ⟨bs, r1⟩ := Dp.reads I _ x v h1.dp rx
  obtain ⟨as, r2⟩ := Dp.readsAll I (toD.toDs ys) ws its g2.dp rv
  have hx := fits_lay f2
  have room : X.A.units + 1 + min (PyData.depthAll (toD.toDs ys)) (toD g).depth < cLine := by
    unfold fit at f1
    simp only [Bool.and_eq_true, decide_eq_true_eq] at f1
    rw [toD_depth]
    omega
  exact ⟨SeqAt.items_eqAt (vs := its.toArray) (show ReadsAll s.heap its.toArray.toList (toD.toDs ys) as from r2) r1 hx (fit_lay f1) room, SeqAt.readsAll_map (toD.toDs ys) its as hx r2⟩
theorem map_at {h : Heap} {its : List Value} {ys : List G} (e : its.map (SeqAt.readOf h) = toD.toDs ys) (m : Nat) (hm : m < its.length) : ∃ y, ys[m]? = some y ∧ SeqAt.readOf h its[m] = toD y := by
  rw [toDs_map] at e
  have h1 : (its.map (SeqAt.readOf h))[m]? = (ys.map toD)[m]? := by rw [e]
  rw [List.getElem?_map, List.getElem?_map, List.getElem?_eq_getElem hm] at h1
  cases q : ys[m]? with
  | none => rw [q] at h1; cases h1
  | some y => rw [q] at h1; exact ⟨y, rfl, Option.some.inj h1⟩
theorem countP_map {h : Heap} {its : List Value} {ys : List G} (e : its.map (SeqAt.readOf h) = toD.toDs ys) (g : G) : its.countP (fun y => PyData.eqv (SeqAt.readOf h y) (toD g)) = ys.countP fun y => G.eqv y g := by
  rw [toDs_map] at e
  have h1 : (its.map (SeqAt.readOf h)).countP (fun z => PyData.eqv z (toD g)) = (ys.map toD).countP (fun z => PyData.eqv z (toD g)) := by rw [e]
  rw [List.countP_map, List.countP_map] at h1
  have e2 : ((fun z => PyData.eqv z (toD g)) ∘ toD) = fun y => G.eqv y g := by
    funext y
    exact toD_eqv y g
  rw [e2] at h1
  exact h1
theorem tl_ne : ¬ Value.type "list" = Value.type "tuple" := by
  intro h
  injection h with h
  exact absurd h (by decide)
def mN : M1 → Str
  | .index => "index" | .count => "count"
def mId : M1 → Bool → String
  | .index, true => "list.index" | .index, false => "tuple.index" | .count, true => "list.count" | .count, false => "tuple.count"
def rM1 (K : PySem.W.Frag) (m : M1) (b : Bool) : V → List V → Hp → VK → Prop := fun x vs H Q => ∃ y r t z F1 F2, vs = [y] ∧ RepR K H x r F1 ∧ isL r = b ∧ RepR K H y t F2 ∧ mthop m r t = .ok z ∧ Ans K H z Q
theorem mt_m1 (hu : X.A.units + 66 < cLine) (m : M1) (b : Bool) : MtR X (mId m b) (rM1 X.K m b) := by
  intro pins s σ H x vs v us Q I rx rv ⟨y, r, t, z, F1, F2, e0, h1, hb, h2, e, q⟩
  subst e0
  obtain ⟨u, rfl, ry⟩ := vals1 rv
  cases t with
  | lst t => cases m <;> simp only [mthop, reduceCtorEq] at e
  | g g =>
    have hs63 : (sizeLine : Nat) < 2 ^ 63 - 1 := by rw [sizeLine_eq]; decide
    cases m with
    | index =>
      simp only [mthop] at e
      split at e
      · rename_i ys ey
        split at e
        · rename_i ff
          simp only [Bool.and_eq_true] at ff
          split at e
          · rename_i n en
            cases e
            obtain ⟨j, w0, hn, hj, hit, hno⟩ := firstAt_spec g ys 0 n en
            have hn : n = j := by omega
            subst hn
            rcases items_dp h1 ey with ⟨a, ws, rfl, sl, g2⟩ | ⟨a, ws, rfl, sl, g2⟩
            · have eb : b = true := by
                cases r with
                | lst _ => exact hb.symm
                | g r =>
                  cases r <;> simp only [items?, reduceCtorEq] at ey
                  obtain ⟨a', ws', e', s', _⟩ := rep_tup h1.1
                  cases e'
                  obtain ⟨_, _, ⟨o, n', e1, c1, _⟩, _⟩ := I.list sl
                  obtain ⟨_, _, ⟨o', e2, c2, _⟩, _⟩ := I.tuple s'.t
                  rw [e1] at e2; cases e2; exact absurd (c1.symm.trans c2) tl_ne
              subst eb
              obtain ⟨its, rv2, ⟨⟨cls, dd, data, sls⟩, k, ho, hc, _, hd⟩, hlen⟩ := I.list sl
              simp only at hc hd
              subst hc hd
              cases rx
              obtain ⟨he, hm⟩ := items_eq hu I g2 rv2 h2.1 ry ff.1 ff.2
              have hl : its.length = ys.length := by rw [← rv2.length, g2.len]
              have hjy : n < ys.length := (List.getElem?_eq_some_iff.mp hj).1
              have hl2 := rv2.length
              refine call_meets PySem.F.slot_list_index ⟨_, ho, rfl⟩ PySem.F.entry_list_index (PySem.F.args_list_index_2 _ _)
                (SeqAt.list_indexAt a its.toArray k dd sls u (fun y => PyData.eqv (SeqAt.readOf s.heap y) (toD g)) n (by simpa [hl] using hjy) (by omega) ?_ ?_) ⟨ho, he, ?_⟩
              · obtain ⟨y1, q1, q2⟩ := map_at hm n (by omega)
                rw [hj] at q1; cases q1
                simp only [List.getElem_toArray]
                rw [q2, toD_eqv]; exact hit
              · intro i hi hin
                have hi' : i < its.length := by simpa using hi
                obtain ⟨y1, q1, q2⟩ := map_at hm i hi'
                simp only [List.getElem_toArray]
                rw [q2, toD_eqv]; exact hno i y1 hin q1
              · exact ⟨.int (n : Nat), H, I.tok _, ⟨_, rfl⟩, q.g rfl⟩
            · have eb : b = false := by
                cases r with
                | lst _ =>
                  obtain ⟨a', ws', F', e', s', _⟩ := h1
                  cases e'
                  obtain ⟨_, _, ⟨o, n', e1, c1, _⟩, _⟩ := I.list s'
                  obtain ⟨_, _, ⟨o', e2, c2, _⟩, _⟩ := I.tuple sl
                  rw [e1] at e2; cases e2; exact absurd (c1.symm.trans c2) tl_ne
                | g r => exact hb.symm
              subst eb
              obtain ⟨its, rv2, ⟨⟨cls, dd, data, sls⟩, ho, hc, k, hd⟩, hlen⟩ := I.tuple sl
              simp only at hc hd
              subst hc hd
              cases rx
              obtain ⟨he, hm⟩ := items_eq hu I g2 rv2 h2.1 ry ff.1 ff.2
              have hl : its.length = ys.length := by rw [← rv2.length, g2.len]
              have hjy : n < ys.length := (List.getElem?_eq_some_iff.mp hj).1
              refine call_meets PySem.F.slot_tuple_index ⟨_, ho, rfl⟩ PySem.F.entry_tuple_index (PySem.F.args_tuple_index_2 _ _)
                (SeqAt.tuple_index2_found a its.toArray k dd sls u (fun i => match its.toArray[i]? with
                  | some y => PyData.eqv (SeqAt.readOf s.heap y) (toD g)
                  | none => false) n (by simpa [hl] using hjy) (Nat.zero_le _) (by simpa [hl] using hjy) ?_ ?_) ⟨ho, fun i hi => ?_, ?_⟩
              · obtain ⟨y1, q1, q2⟩ := map_at hm n (by omega)
                rw [hj] at q1; cases q1
                have e3 : its.toArray[n]? = some its[n] := by simp [List.getElem?_eq_getElem (show n < its.length by omega)]
                simp only [e3]
                rw [q2, toD_eqv]; exact hit
              · intro i hi _ hin
                have hi' : i < its.length := by simpa using hi
                obtain ⟨y1, q1, q2⟩ := map_at hm i hi'
                have e3 : its.toArray[i]? = some its[i] := by simp [List.getElem?_eq_getElem hi']
                simp only [e3]
                rw [q2, toD_eqv]; exact hno i y1 hin q1
              · have e3 : its.toArray[i]? = some its.toArray[i] := Array.getElem?_eq_getElem hi
                simp only [e3]
                exact he _ (Array.getElem_mem hi)
              · exact ⟨.int (n : Nat), H, I.tok _, ⟨_, rfl⟩, q.g rfl⟩
          · cases e
        · cases e
      · cases e
    | count =>
      simp only [mthop] at e
      split at e
      · rename_i ys ey
        split at e
        · rename_i ff
          simp only [Bool.and_eq_true] at ff
          cases e
          rcases items_dp h1 ey with ⟨a, ws, rfl, sl, g2⟩ | ⟨a, ws, rfl, sl, g2⟩
          · have eb : b = true := by
              cases r with
              | lst _ => exact hb.symm
              | g r =>
                cases r <;> simp only [items?, reduceCtorEq] at ey
                obtain ⟨a', ws', e', s', _⟩ := rep_tup h1.1
                cases e'
                obtain ⟨_, _, ⟨o, n', e1, c1, _⟩, _⟩ := I.list sl
                obtain ⟨_, _, ⟨o', e2, c2, _⟩, _⟩ := I.tuple s'.t
                rw [e1] at e2; cases e2; exact absurd (c1.symm.trans c2) tl_ne
            subst eb
            obtain ⟨its, rv2, ⟨⟨cls, dd, data, sls⟩, k, ho, hc, _, hd⟩, hlen⟩ := I.list sl
            simp only at hc hd
            subst hc hd
            cases rx
            obtain ⟨he, hm⟩ := items_eq hu I g2 rv2 h2.1 ry ff.1 ff.2
            refine call_meets PySem.F.slot_list_count ⟨_, ho, rfl⟩ PySem.F.entry_list_count (PySem.F.args_list_count_2 _ _) (SeqAt.list_countAt a its.toArray k dd sls u (fun y => PyData.eqv (SeqAt.readOf s.heap y) (toD g))) ⟨ho, he, ?_⟩
            have e1 := countP_map hm g
            refine ⟨.int (List.countP (fun y => G.eqv y g) ys : Nat), H, I.tok _, ⟨s.toks, ?_⟩, q.g rfl⟩
            rw [← e1]
          · have eb : b = false := by
              cases r with
              | lst _ =>
                obtain ⟨a', ws', F', e', s', _⟩ := h1
                cases e'
                obtain ⟨_, _, ⟨o, n', e1, c1, _⟩, _⟩ := I.list s'
                obtain ⟨_, _, ⟨o', e2, c2, _⟩, _⟩ := I.tuple sl
                rw [e1] at e2; cases e2; exact absurd (c1.symm.trans c2) tl_ne
              | g r => exact hb.symm
            subst eb
            obtain ⟨its, rv2, ⟨⟨cls, dd, data, sls⟩, ho, hc, k, hd⟩, hlen⟩ := I.tuple sl
            simp only at hc hd
            subst hc hd
            cases rx
            obtain ⟨he, hm⟩ := items_eq hu I g2 rv2 h2.1 ry ff.1 ff.2
            refine call_meets PySem.F.slot_tuple_count ⟨_, ho, rfl⟩ PySem.F.entry_tuple_count (PySem.F.args_tuple_count_2 _ _) (SeqAt.tuple_countAt a its.toArray k dd sls u (fun y => PyData.eqv (SeqAt.readOf s.heap y) (toD g))) ⟨ho, he, ?_⟩
            have e1 := countP_map hm g
            refine ⟨.int (List.countP (fun y => G.eqv y g) ys : Nat), H, I.tok _, ⟨s.toks, ?_⟩, q.g rfl⟩
            rw [← e1]
        · cases e
      · cases e
end
end Pv
/-! Pv5: frames: what the slots stand for; what an expression leaves. -/
namespace Pv
open PySem PySem.Spec PyProof.Rows L2
def Vat (σ : L2.St) (j : Nat) : Option V := (σ[j]?).bind id
def Mem (Fs : Nat → List Addr) (a : Addr) : Prop := ∃ j, a ∈ Fs j
def SlotOk (K : PySem.W.Frag) (H : Hp) (M : Addr → Prop) (w : Option V) (s : Slot) (F : List Addr) : Prop :=
  match s with
  | .no => F = []
  | .own r => ∃ v, w = some v ∧ RepO K H v r F
  | .arg r => ∃ v, w = some v ∧ RepO K H v r F
  | .bor r => F = [] ∧ ∃ v F', w = some v ∧ RepR K H v r F' ∧ ∀ a ∈ F', ¬ M a
structure Fr (K : PySem.W.Frag) (H : Hp) (σ : L2.St) (ρ : Env) (Fs : Nat → List Addr) : Prop where
  sl : ∀ j, SlotOk K H (Mem Fs) (Vat σ j) (slotAt ρ j) (Fs j)
  nd : ∀ j, (Fs j).Nodup
  dj : ∀ i j a, a ∈ Fs i → a ∈ Fs j → i = j
def QRep (K : PySem.W.Frag) (H : Hp) (σ : L2.St) (Fs : Nat → List Addr) (v : V) (q : Q) (F : List Addr) : Prop :=
  match q with
  | .v r => RepO K H v r F ∧ F.Nodup ∧ ∀ a ∈ F, ¬ Mem Fs a
  | .s j => F = [] ∧ Vat σ j = some v
  | .b r => F = [] ∧ ∃ F', RepR K H v r F'
/-- slots that may change keep their kind, the others stay -/
def Kd1 (s t : Slot) : Prop :=
  match s with
  | .own _ => ∃ r, t = .own r
  | .arg _ => ∃ r, t = .arg r
  | s => t = s
def Kd (ρ ρ' : Env) : Prop := ρ'.length = ρ.length ∧ ∀ j, Kd1 (slotAt ρ j) (slotAt ρ' j)
theorem Kd1.refl (s : Slot) : Kd1 s s := by cases s <;> simp [Kd1]
theorem Kd.refl (ρ : Env) : Kd ρ ρ := ⟨rfl, fun _ => Kd1.refl _⟩
theorem Kd1.trans {a b c : Slot} (h : Kd1 a b) (k : Kd1 b c) : Kd1 a c := by
  cases a with
  | no => cases h; exact k
  | own r => obtain ⟨r', rfl⟩ := h; exact k
  | arg r => obtain ⟨r', rfl⟩ := h; exact k
  | bor r => cases h; exact k
theorem Kd.trans {a b c : Env} (h : Kd a b) (k : Kd b c) : Kd a c := ⟨k.1.trans h.1, fun j => (h.2 j).trans (k.2 j)⟩
section
variable {K : PySem.W.Frag} {H H' H1 : Hp} {σ : L2.St} {ρ ρ' ρ1 : Env} {Fs Fs' Fs1 : Nat → List Addr} {v : V} {q : Q} {F F1 : List Addr}
theorem Fr.own (fr : Fr K H σ ρ Fs) : ∀ a, Mem Fs a → ∃ xs, H a = some (.lst xs) := fun a ⟨j, hj⟩ => by
  have h := fr.sl j
  cases e : slotAt ρ j with
  | no => rw [e] at h; rw [show Fs j = [] from h] at hj; cases hj
  | own r => rw [e] at h; obtain ⟨_, _, o⟩ := h; exact o.own a hj
  | arg r => rw [e] at h; obtain ⟨_, _, o⟩ := h; exact o.own a hj
  | bor r => rw [e] at h; rw [h.1] at hj; cases hj
theorem Fr.ext (fr : Fr K H σ ρ Fs) (x : Ext H H') : Fr K H' σ ρ Fs := by
  refine ⟨fun j => ?_, fr.nd, fr.dj⟩
  have h := fr.sl j
  cases e : slotAt ρ j with
  | no => rw [e] at h; exact h
  | own r => rw [e] at h; obtain ⟨v, e1, r1⟩ := h; exact ⟨v, e1, r1.ext x⟩
  | arg r => rw [e] at h; obtain ⟨v, e1, r1⟩ := h; exact ⟨v, e1, r1.ext x⟩
  | bor r => rw [e] at h; obtain ⟨e0, v, F', e1, r1, n⟩ := h; exact ⟨e0, v, F', e1, r1.ext x, n⟩
theorem slotAt_map (f : Slot → Slot) (hf : f .no = .no) (ρ : Env) (j : Nat) : slotAt (ρ.map f) j = f (slotAt ρ j) := by
  unfold slotAt
  rw [List.getD_eq_getElem?_getD, List.getD_eq_getElem?_getD, List.getElem?_map]
  cases ρ[j]? with
  | none => exact hf.symm
  | some s => rfl
theorem Fr.freeze (fr : Fr K H σ ρ Fs) : Fr K H σ (freeze ρ) (fun _ => []) := by
  refine ⟨fun j => ?_, fun _ => .nil, fun _ _ _ h => nomatch h⟩
  have h := fr.sl j
  have nm : ∀ a, ¬ Mem (fun _ => ([] : List Addr)) a := fun a ⟨_, z⟩ => nomatch z
  unfold Pv.freeze
  rw [slotAt_map frz rfl]
  cases e : slotAt ρ j with
  | no => exact rfl
  | own r => rw [e] at h; obtain ⟨v, e1, r1⟩ := h; exact ⟨rfl, v, _, e1, r1.rep, fun a _ => nm a⟩
  | arg r => rw [e] at h; obtain ⟨v, e1, r1⟩ := h; exact ⟨rfl, v, _, e1, r1.rep, fun a _ => nm a⟩
  | bor r => rw [e] at h; obtain ⟨e0, v, F', e1, r1, n⟩ := h; exact ⟨rfl, v, F', e1, r1, fun a _ => nm a⟩
theorem deref_rep (fr : Fr K H σ ρ Fs) (h : QRep K H σ Fs v q F) {r : R} (e : deref ρ q = .ok r) : ∃ F', RepR K H v r F' := by
  cases q with
  | v r' => cases e; exact ⟨F, h.1.rep⟩
  | b r' => cases e; exact h.2
  | s j =>
    obtain ⟨_, hv⟩ := h
    have hs := fr.sl j
    have e : ofOpt (slotAt ρ j).r? = .ok r := e
    cases es : slotAt ρ j with
    | no => rw [es] at e; cases e
    | own r' => rw [es] at e hs; cases e; obtain ⟨w, e1, r1⟩ := hs; rw [hv] at e1; cases e1; exact ⟨_, r1.rep⟩
    | arg r' => rw [es] at e hs; cases e; obtain ⟨w, e1, r1⟩ := hs; rw [hv] at e1; cases e1; exact ⟨_, r1.rep⟩
    | bor r' => rw [es] at e hs; cases e; obtain ⟨_, w, F', e1, r1, _⟩ := hs; rw [hv] at e1; cases e1; exact ⟨_, r1⟩
/-- a result, while other things happen -/
theorem QRep.step (h : QRep K H σ Fs v q F) (own : ∀ a, Mem Fs a → ∃ xs, H a = some (.lst xs)) (st : Stp (Mem Fs) (Mem Fs') H H') (nw : ∀ a ∈ F1, Mem Fs a ∨ a ∈ ([] : List Addr) ∨ H a = none) (hb : ∀ r, q = .b r → Ext H H') : QRep K H' σ Fs' v q F ∧ ∀ a ∈ F, a ∉ F1 := by
  cases q with
  | v r =>
    obtain ⟨h1, h3, h4⟩ := h
    have h2 := h1.own
    have hn : ∀ a ∈ F, ¬ (Mem Fs' a ∨ a ∈ F1) := fun a ha z => by
      have z : Mem Fs a ∨ H a = none := by
        rcases z with z | z
        · exact st.new a z
        · rcases nw a z with q | q | q
          · exact .inl q
          · cases q
          · exact .inr q
      rcases z with q | q
      · exact h4 a ha q
      · obtain ⟨xs, e⟩ := h2 a ha
        rw [q] at e; cases e
    exact ⟨⟨h1.keep own st.keep h4, h3, fun a ha z => hn a ha (.inl z)⟩, fun a ha z => hn a ha (.inr z)⟩
  | s j => exact ⟨h, fun a ha => by rw [h.1] at ha; cases ha⟩
  | b r =>
    obtain ⟨h1, F', h2⟩ := h
    exact ⟨⟨h1, F', h2.ext (hb r rfl)⟩, fun a ha => by rw [h1] at ha; cases ha⟩
end
/-- what stands for a result: of what kind -/
abbrev Rp (α β : Type) := Hp → (Nat → List Addr) → β → α → List Addr → Prop
def rpQ (K : PySem.W.Frag) (σ : L2.St) : Rp Q V := fun H Fs v q F => QRep K H σ Fs v q F
def rpB : Rp Bool Bool := fun _ _ b b' F => b = b' ∧ F = []
def rpI : Rp (Option Int) (Option Int) := fun _ _ b b' F => b = b' ∧ F = []
def QReps (K : PySem.W.Frag) (H : Hp) (σ : L2.St) (Fs : Nat → List Addr) : List V → List Q → List Addr → Prop
  | vs, [], F => vs = [] ∧ F = []
  | vs, q :: qs, F => ∃ v r F1 F2, vs = v :: r ∧ F = F1 ++ F2 ∧ QRep K H σ Fs v q F1 ∧ QReps K H σ Fs r qs F2 ∧ ∀ a ∈ F1, a ∉ F2
def rpA (K : PySem.W.Frag) (σ : L2.St) : Rp (List Q) (List V) := fun H Fs v q F => QReps K H σ Fs v q F
section
variable {α β γ δ : Type}
/-- what is wanted behind an expression (a test, arguments); T: what is held meanwhile -/
def Post (K : PySem.W.Frag) (xc : Nat → Value) (W : WX) (σ : L2.St) (rep : Rp α β) (ρ : Env) (Fs : Nat → List Addr) (T : List Addr) (H : Hp) (C : β → Hp → Prop) : Out (α × Env) → Prop
  | .ok x => ∀ v H' Fs' F, Fr K H' σ x.2 Fs' → Stp (Mem Fs) (Mem Fs') H H' → (∀ a ∈ F, Mem Fs a ∨ a ∈ T ∨ H a = none) → Kd ρ x.2 → rep H' Fs' v x.1 F → C v H'
  | .exc c => ∀ H', (∀ b o, ¬ Mem Fs b → H b = some o → H' b = some o) → W (xc c) none σ H'
  | .stuck => False
variable {K : PySem.W.Frag} {xc : Nat → Value} {W : WX} {H H' H1 : Hp} {σ : L2.St} {rep : Rp α β} {rep1 : Rp γ δ} {ρ ρ' ρ1 : Env} {Fs Fs' Fs1 : Nat → List Addr} {v : V} {q : Q} {T F F1 : List Addr} {C : β → Hp → Prop}
theorem keep_trans (s : Stp (Mem Fs) (Mem Fs1) H H1) {H2 : Hp} (t : ∀ b o, ¬ Mem Fs1 b → H1 b = some o → H2 b = some o) : ∀ b o, ¬ Mem Fs b → H b = some o → H2 b = some o := fun b o n e =>
  t b o (fun z => by
    rcases s.new b z with q | q
    · exact n q
    · rw [q] at e; cases e) (s.keep b o n e)
theorem back_none (s : Stp (Mem Fs) (Mem Fs1) H H1) {a : Addr} (h : H1 a = none) : Mem Fs a ∨ H a = none := by
  by_cases hm : Mem Fs a
  · exact .inl hm
  · cases e : H a with
    | none => exact .inr rfl
    | some o => rw [s.keep a o hm e] at h; cases h
theorem Post.rebase {o : Out (α × Env)} (h : Post K xc W σ rep ρ Fs T H C o) (s : Stp (Mem Fs) (Mem Fs1) H H1) (nw : ∀ a ∈ F1, Mem Fs a ∨ a ∈ T ∨ H a = none) (k : Kd ρ ρ1) : Post K xc W σ rep ρ1 Fs1 (T ++ F1) H1 C o := by
  cases o with
  | ok x =>
    refine fun v H' Fs' F fr st nf kd rep => h v H' Fs' F fr (s.trans st) (fun a ha => ?_) (k.trans kd) rep
    rcases nf a ha with z | z | z
    · rcases s.new a z with q | q
      · exact .inl q
      · exact .inr (.inr q)
    · rcases List.mem_append.mp z with z | z
      · exact .inr (.inl z)
      · exact nw a z
    · rcases back_none s z with q | q
      · exact .inl q
      · exact .inr (.inr q)
  | exc c => exact fun H' kp => h H' (keep_trans s kp)
  | stuck => exact h
theorem Post.bind {C1 : δ → Hp → Prop} {o : Out (γ × Env)} {f : γ × Env → Out (α × Env)} (p : Post K xc W σ rep ρ Fs T H C (o.bind f))
    (h : ∀ q1 ρ1, o = .ok (q1, ρ1) → ∀ v1 H1 Fs1 F1, Fr K H1 σ ρ1 Fs1 → rep1 H1 Fs1 v1 q1 F1 → Post K xc W σ rep ρ1 Fs1 (T ++ F1) H1 C (f (q1, ρ1)) → C1 v1 H1) : Post K xc W σ rep1 ρ Fs [] H C1 o := by
  cases o with
  | ok x =>
    obtain ⟨q1, ρ1⟩ := x
    intro v1 H1 Fs1 F1 fr1 st1 nf1 kd1 rep1
    exact h q1 ρ1 rfl v1 H1 Fs1 F1 fr1 rep1 (Post.rebase (show Post K xc W σ rep ρ Fs T H C (f (q1, ρ1)) from p) st1 (fun a ha => by
      rcases nf1 a ha with q | q | q
      · exact .inl q
      · cases q
      · exact .inr (.inr q)) kd1)
  | exc c => exact p
  | stuck => exact p
theorem Post.drop {o : Out (α × Env)} (p : Post K xc W σ rep ρ Fs T H C o) : Post K xc W σ rep ρ Fs [] H C o := by
  cases o with
  | ok x => exact fun v H' Fs' F fr st nf kd rep => p v H' Fs' F fr st (fun a ha => by
      rcases nf a ha with q | q | q
      · exact .inl q
      · cases q
      · exact .inr (.inr q)) kd rep
  | exc c => exact p
  | stuck => exact p
theorem Post.imp {C1 : β → Hp → Prop} {o : Out (α × Env)} (p : Post K xc W σ rep ρ Fs T H C o) (h : ∀ v H', C v H' → C1 v H') : Post K xc W σ rep ρ Fs T H C1 o := by
  cases o with
  | ok x => exact fun v H' Fs' F fr st nf kd rep => h v H' (p v H' Fs' F fr st nf kd rep)
  | exc c => exact p
  | stuck => exact p
/-- a step that only looks -/
theorem Post.look {ε : Type} {o : Out ε} {f : ε → Out (α × Env)} (p : Post K xc W σ rep ρ Fs T H C (o.bind f)) (nx : ∀ c, o ≠ .exc c) : ∃ z, o = .ok z ∧ Post K xc W σ rep ρ Fs T H C (f z) := by
  cases o with
  | ok z => exact ⟨z, rfl, p⟩
  | exc c => exact absurd rfl (nx c)
  | stuck => exact False.elim p
/-- .. at once -/
theorem Post.nowF {x : α} {v : β} (p : Post K xc W σ rep ρ Fs T H C (.ok (x, ρ))) (fr : Fr K H σ ρ Fs) (hF : ∀ a ∈ F, a ∈ T) (r : rep H Fs v x F) : C v H :=
  p v H Fs F fr ⟨fun b o _ e => e, fun a z => .inl z⟩ (fun a ha => .inr (.inl (hF a ha))) (Kd.refl ρ) r
theorem Post.now {x : α} {v : β} (p : Post K xc W σ rep ρ Fs T H C (.ok (x, ρ))) (fr : Fr K H σ ρ Fs) (r : rep H Fs v x []) : C v H := p.nowF (F := []) fr (fun a ha => nomatch ha) r
end
theorem deref_nx (ρ : Env) (q : Q) : ∀ c, deref ρ q ≠ .exc c := by
  intro c h
  cases q with
  | v r => cases h
  | b r => cases h
  | s j =>
    have h : ofOpt (slotAt ρ j).r? = .exc c := h
    cases e : (slotAt ρ j).r? with
    | none => rw [e] at h; cases h
    | some r => rw [e] at h; cases h
section
variable {K : PySem.W.Frag} {xc : Nat → Value} {W : WX} {H H' H1 : Hp} {σ : L2.St} {ρ ρ' ρ1 : Env} {Fs Fs' Fs1 : Nat → List Addr} {v : V} {q : Q} {F F1 : List Addr} {C : VK}
/-- an answer that is new, or ground -/
theorem Post.ans {T : List Addr} {z : R} (p : Post K xc W σ (rpQ K σ) ρ Fs T H C (.ok (.v z, ρ))) (fr : Fr K H σ ρ Fs) : Ans K H z C := fun v H' F x rep nd new => by
  have hn : ∀ a ∈ F, ¬ Mem Fs a := fun a ha z => by
    obtain ⟨xs, e⟩ := fr.own a z
    rw [new a ha] at e; cases e
  exact p v H' Fs F (fr.ext x) (Stp.ext x fun a z => .inl z) (fun a ha => .inr (.inr (new a ha))) (Kd.refl ρ) ⟨rep, nd, hn⟩
/-- .. ground -/
theorem Post.g {T : List Addr} {z : G} (p : Post K xc W σ (rpQ K σ) ρ Fs T H C (.ok (.v (.g z), ρ))) (fr : Fr K H σ ρ Fs) (h : RepG K H v z) : C v H := (p.ans fr).g h
end
/-- an expression's reading -/
def tE (K : PySem.W.Frag) (xc : Nat → Value) (cf : CallT) (W : WX) (e : E) : TE := fun σ H C => ∃ ρ Fs, Fr K H σ ρ Fs ∧ Post K xc W σ (rpQ K σ) ρ Fs [] H C (ev cf e ρ)
def tT (K : PySem.W.Frag) (xc : Nat → Value) (cf : CallT) (W : WX) (e : E) : TT := fun σ H C => ∃ ρ Fs, Fr K H σ ρ Fs ∧ Post K xc W σ rpB ρ Fs [] H C (evB cf e ρ)
def tA (K : PySem.W.Frag) (xc : Nat → Value) (cf : CallT) (W : WX) (es : E) : TA := fun σ H C => ∃ ρ Fs, Fr K H σ ρ Fs ∧ Post K xc W σ (rpA K σ) ρ Fs [] H C (evs cf es ρ)
section
variable {α β : Type} {K : PySem.W.Frag} {xc : Nat → Value} {cf : CallT} {W : WX} {H H' H1 : Hp} {σ : L2.St} {rep : Rp α β} {ρ ρ' ρ1 : Env} {Fs Fs' Fs1 : Nat → List Addr} {v v1 : V} {q q1 : Q} {T F F1 : List Addr} {C : β → Hp → Prop} {C1 : VK}
theorem nomem (a : Addr) : ¬ Mem (fun _ => ([] : List Addr)) a := fun ⟨_, z⟩ => nomatch z
/-- what a frozen expression has made is new for the frame -/
theorem QRep.thaw {Fz : Nat → List Addr} (fr1 : Fr K H1 σ ρ1 Fs1) (nw : ∀ a ∈ F, Mem (fun _ => ([] : List Addr)) a ∨ a ∈ ([] : List Addr) ∨ H1 a = none) (r : QRep K H' σ Fz v q F) : QRep K H' σ Fs1 v q F := by
  cases q with
  | v r' =>
    obtain ⟨q1, q3, q4⟩ := r
    refine ⟨q1, q3, fun a ha z => ?_⟩
    rcases nw a ha with q | q | q
    · exact nomem a q
    · cases q
    · obtain ⟨xs, e⟩ := fr1.own a z
      rw [q] at e; cases e
  | s j => exact r
  | b r' => exact r
theorem ext_thaw {Fz : Nat → List Addr} (st2 : Stp (Mem (fun _ => ([] : List Addr))) (Mem Fz) H1 H') : Ext H1 H' := fun b o e => st2.keep b o (nomem b) e
/-- the second of two expressions -/
theorem Post.behind {b : E} {g : Q × Env → Out (α × Env)} (p : Post K xc W σ rep ρ1 Fs1 T H1 C ((behind q1 ρ1 (ev cf b)).bind g)) (fr1 : Fr K H1 σ ρ1 Fs1) (rep1 : QRep K H1 σ Fs1 v1 q1 F1)
    (h : ∀ q2 ρ2 v2 H2 Fs2 F2, Fr K H2 σ ρ2 Fs2 → QRep K H2 σ Fs2 v1 q1 F1 → QRep K H2 σ Fs2 v2 q2 F2 → (∀ a ∈ F1, a ∉ F2) → Post K xc W σ rep ρ2 Fs2 (T ++ F2) H2 C (g (q2, ρ2)) → C1 v2 H2) : tE K xc cf W b σ H1 C1 := by
  have nb : ∀ {q1 : Q}, (∀ r, q1 ≠ .b r) → QRep K H1 σ Fs1 v1 q1 F1 → Post K xc W σ rep ρ1 Fs1 T H1 C ((ev cf b ρ1).bind g) →
      (∀ q2 ρ2 v2 H2 Fs2 F2, Fr K H2 σ ρ2 Fs2 → QRep K H2 σ Fs2 v1 q1 F1 → QRep K H2 σ Fs2 v2 q2 F2 → (∀ a ∈ F1, a ∉ F2) → Post K xc W σ rep ρ2 Fs2 (T ++ F2) H2 C (g (q2, ρ2)) → C1 v2 H2) → tE K xc cf W b σ H1 C1 := fun {q1} hq rep1 p h => by
    refine ⟨ρ1, Fs1, fr1, ?_⟩
    cases eo : ev cf b ρ1 with
    | ok x =>
      rw [eo] at p
      intro v2 H2 Fs2 F2 fr2 st2 nf2 kd2 rep2
      obtain ⟨r1, d⟩ := rep1.step fr1.own st2 nf2 (fun r e => absurd e (hq r))
      exact h x.1 x.2 v2 H2 Fs2 F2 fr2 r1 rep2 d (Post.rebase (show Post K xc W σ rep ρ1 Fs1 T H1 C (g x) from p) st2 (fun a ha => by
        rcases nf2 a ha with q | q | q
        · exact .inl q
        · cases q
        · exact .inr (.inr q)) kd2)
    | exc c => rw [eo] at p; exact p
    | stuck => rw [eo] at p; exact p
  cases q1 with
  | v r => exact nb (fun _ e => by cases e) rep1 p h
  | s j => exact nb (fun _ e => by cases e) rep1 p h
  | b r =>
    refine ⟨freeze ρ1, fun _ => [], fr1.freeze, ?_⟩
    have p : Post K xc W σ rep ρ1 Fs1 T H1 C (((ev cf b (freeze ρ1)).bind fun y => .ok (y.1, ρ1)).bind g) := p
    cases eo : ev cf b (freeze ρ1) with
    | ok x =>
      rw [eo] at p
      intro v2 H2 Fs2 F2 fr2 st2 nf2 kd2 rep2
      have x12 := ext_thaw st2
      have st : Stp (Mem Fs1) (Mem Fs1) H1 H2 := Stp.ext x12 fun a z => .inl z
      have nf : ∀ a ∈ F2, H1 a = none := fun a ha => by
        rcases nf2 a ha with q | q | q
        · exact absurd q (nomem a)
        · cases q
        · exact q
      obtain ⟨r1, d⟩ := rep1.step (F1 := F2) fr1.own st (fun a ha => .inr (.inr (nf a ha))) fun _ _ => x12
      exact h x.1 ρ1 v2 H2 Fs1 F2 (fr1.ext x12) r1 (QRep.thaw fr1 nf2 rep2) d (Post.rebase (show Post K xc W σ rep ρ1 Fs1 T H1 C (g (x.1, ρ1)) from p) st (fun a ha => .inr (.inr (nf a ha))) (Kd.refl _))
    | exc c =>
      rw [eo] at p
      exact fun H' kp => p H' fun b o n e => kp b o (nomem b) e
    | stuck => rw [eo] at p; exact p
/-- .. the rest of several -/
theorem Post.behinds {bs : E} {g : List Q × Env → Out (α × Env)} {C1 : List V → Hp → Prop} (p : Post K xc W σ rep ρ1 Fs1 T H1 C ((behinds q1 ρ1 (evs cf bs)).bind g)) (fr1 : Fr K H1 σ ρ1 Fs1) (rep1 : QRep K H1 σ Fs1 v1 q1 F1)
    (h : ∀ q2 ρ2 v2 H2 Fs2 F2, Fr K H2 σ ρ2 Fs2 → QRep K H2 σ Fs2 v1 q1 F1 → QReps K H2 σ Fs2 v2 q2 F2 → (∀ a ∈ F1, a ∉ F2) → Post K xc W σ rep ρ2 Fs2 (T ++ F2) H2 C (g (q2, ρ2)) → C1 v2 H2) : tA K xc cf W bs σ H1 C1 := by
  have nb : ∀ {q1 : Q}, (∀ r, q1 ≠ .b r) → QRep K H1 σ Fs1 v1 q1 F1 → Post K xc W σ rep ρ1 Fs1 T H1 C ((evs cf bs ρ1).bind g) →
      (∀ q2 ρ2 v2 H2 Fs2 F2, Fr K H2 σ ρ2 Fs2 → QRep K H2 σ Fs2 v1 q1 F1 → QReps K H2 σ Fs2 v2 q2 F2 → (∀ a ∈ F1, a ∉ F2) → Post K xc W σ rep ρ2 Fs2 (T ++ F2) H2 C (g (q2, ρ2)) → C1 v2 H2) → tA K xc cf W bs σ H1 C1 := fun {q1} hq rep1 p h => by
    refine ⟨ρ1, Fs1, fr1, ?_⟩
    cases eo : evs cf bs ρ1 with
    | ok x =>
      rw [eo] at p
      intro v2 H2 Fs2 F2 fr2 st2 nf2 kd2 rep2
      obtain ⟨r1, d⟩ := rep1.step fr1.own st2 nf2 (fun r e => absurd e (hq r))
      exact h x.1 x.2 v2 H2 Fs2 F2 fr2 r1 rep2 d (Post.rebase (show Post K xc W σ rep ρ1 Fs1 T H1 C (g x) from p) st2 (fun a ha => by
        rcases nf2 a ha with q | q | q
        · exact .inl q
        · cases q
        · exact .inr (.inr q)) kd2)
    | exc c => rw [eo] at p; exact p
    | stuck => rw [eo] at p; exact p
  cases q1 with
  | v r => exact nb (fun _ e => by cases e) rep1 p h
  | s j => exact nb (fun _ e => by cases e) rep1 p h
  | b r =>
    refine ⟨freeze ρ1, fun _ => [], fr1.freeze, ?_⟩
    have p : Post K xc W σ rep ρ1 Fs1 T H1 C (((evs cf bs (freeze ρ1)).bind fun y => .ok (y.1, ρ1)).bind g) := p
    cases eo : evs cf bs (freeze ρ1) with
    | ok x =>
      rw [eo] at p
      intro v2 H2 Fs2 F2 fr2 st2 nf2 kd2 rep2
      have x12 := ext_thaw st2
      have st : Stp (Mem Fs1) (Mem Fs1) H1 H2 := Stp.ext x12 fun a z => .inl z
      have nf : ∀ a ∈ F2, H1 a = none := fun a ha => by
        rcases nf2 a ha with q | q | q
        · exact absurd q (nomem a)
        · cases q
        · exact q
      obtain ⟨r1, d⟩ := rep1.step (F1 := F2) fr1.own st (fun a ha => .inr (.inr (nf a ha))) fun _ _ => x12
      have thaws : ∀ (qs : List Q) (vs : List V) (F : List Addr), (∀ a ∈ F, a ∈ F2) → QReps K H2 σ Fs2 vs qs F → QReps K H2 σ Fs1 vs qs F := by
        intro qs
        induction qs with
        | nil => intro vs F _ h; exact h
        | cons q qs ih =>
          intro vs F hF h
          obtain ⟨v, r, Fa, Fb, e1, e2, ra, rb, d⟩ := h
          subst e2
          exact ⟨v, r, Fa, Fb, e1, rfl, QRep.thaw fr1 (fun a ha => nf2 a (hF a (List.mem_append_left _ ha))) ra, ih r Fb (fun a ha => hF a (List.mem_append_right _ ha)) rb, d⟩
      exact h x.1 ρ1 v2 H2 Fs1 F2 (fr1.ext x12) r1 (thaws _ _ _ (fun _ z => z) rep2) d (Post.rebase (show Post K xc W σ rep ρ1 Fs1 T H1 C (g (x.1, ρ1)) from p) st (fun a ha => .inr (.inr (nf a ha))) (Kd.refl _))
    | exc c =>
      rw [eo] at p
      exact fun H' kp => p H' fun b o n e => kp b o (nomem b) e
    | stuck => rw [eo] at p; exact p
end
end Pv
/-! Pv6: expressions without calls of defs. -/
namespace Pv
open PySem PySem.Spec PyProof.Rows L2
theorem PE.imp {X : Cx} {e : Expr} {t t' : TE} (h : PE X e t) (i : ∀ σ H C, t' σ H C → t σ H C) : PE X e t' := ⟨fun pins s σ H C I q => h.run pins s σ H C I (i σ H C q)⟩
theorem PT.imp {X : Cx} {e : Expr} {t t' : TT} (h : PT X e t) (i : ∀ σ H C, t' σ H C → t σ H C) : PT X e t' := ⟨fun pins s σ H C I q => h.run pins s σ H C I (i σ H C q)⟩
theorem PW.imp {X : Cx} {e : Expr} {t t' : TT} (h : PW X e t) (i : ∀ σ H C, t' σ H C → t σ H C) : PW X e t' := ⟨fun w pins s σ H C I q => h.run w pins s σ H C I (i σ H C q)⟩
theorem PA.imp {X : Cx} {e : List Expr} {t t' : TA} (h : PA X e t) (i : ∀ σ H C, t' σ H C → t σ H C) : PA X e t' := ⟨fun w pins s σ H C I q => h.run w pins s σ H C I (i σ H C q)⟩
theorem b1op_nx (f : B1) (r : R) : ∀ c, b1op f r ≠ .exc c := by
  intro c h
  unfold b1op at h
  split at h <;> first | cases h | (split at h <;> cases h)
theorem binop_nx (op : BOp) (r s : R) : ∀ c, binop op r s ≠ .exc c := by
  intro c h
  unfold binop at h
  split at h <;> first | cases h | (split at h <;> first | cases h | (split at h <;> cases h))
theorem pyEq_nx (x y : G) : ∀ c, pyEq x y ≠ .exc c := by
  intro c h; unfold pyEq at h; split at h <;> cases h
theorem pyIn_nx (x : G) (y : List G) : ∀ c, pyIn x y ≠ .exc c := by
  intro c h; unfold pyIn at h; split at h <;> cases h
theorem bind_nx {α β : Type} {o : Out α} {f : α → Out β} (h : ∀ c, o ≠ .exc c) (k : ∀ a c, f a ≠ .exc c) : ∀ c, o.bind f ≠ .exc c := by
  intro c e
  cases o with
  | ok a => exact k a c e
  | exc d => exact h d rfl
  | stuck => cases e
theorem cmpop_nx (op : COp) (r s : R) : ∀ c, cmpop op r s ≠ .exc c := by
  intro c h
  unfold cmpop at h
  split at h <;> first
    | cases h
    | exact pyEq_nx _ _ c h
    | exact bind_nx (pyEq_nx _ _) (fun _ _ e => by cases e) c h
    | (split at h <;> first
        | cases h
        | exact pyEq_nx _ _ c h
        | exact pyIn_nx _ _ c h
        | exact bind_nx (pyEq_nx _ _) (fun _ _ e => by cases e) c h
        | exact bind_nx (pyIn_nx _ _) (fun _ _ e => by cases e) c h)
theorem truth_nx (r : R) : ∀ c, truth r ≠ .exc c := by
  intro c h; unfold truth at h; split at h <;> cases h
theorem asB_nx (r : R) : ∀ c, asB r ≠ .exc c := by
  intro c h; unfold asB at h; split at h <;> cases h
theorem ixop_nx (b : Bool) (r s : R) : ∀ c, ixop b r s ≠ .exc c := by
  intro c h; unfold ixop at h; split at h <;> first | cases h | (split at h <;> cases h)
theorem slop2_nx (r : R) (l h : Option Int) : ∀ c, slop2 r l h ≠ .exc c := by
  intro c e; unfold slop2 at e; split at e <;> first | cases e | (split at e <;> cases e)
theorem backop_nx (r : R) : ∀ c, backop r ≠ .exc c := by
  intro c e; unfold backop at e; split at e <;> first | cases e | (split at e <;> cases e)
theorem b2op_nx (f : B2) (r s : R) : ∀ c, b2op f r s ≠ .exc c := by
  intro c h; unfold b2op at h; split at h <;> cases h
theorem mthop_nx (f : M1) (r s : R) : ∀ c, mthop f r s ≠ .exc c := by
  intro c h; unfold mthop at h
  split at h <;> first
    | cases h
    | (split at h <;> first
        | cases h
        | (split at h <;> first | cases h | (split at h <;> cases h)))
section
variable {X : Cx} {xc : Nat → Value} {cf : CallT} {W : WX} {a b : Expr} {ea eb : E} {pos : Pos}
/-! ### constants, names -/
theorem s_non {k : Nat} : PE X (.Constant .none k pos) (tE X.K xc cf W (.k .non)) :=
  PE.imp pe_non fun σ H C ⟨ρ, Fs, fr, p⟩ => Post.g (ρ := ρ) p fr rfl
theorem s_bl {b : Bool} {k : Nat} : PE X (.Constant (.bool b) k pos) (tE X.K xc cf W (.k (.bl b))) :=
  PE.imp pe_bl fun σ H C ⟨ρ, Fs, fr, p⟩ => Post.g (ρ := ρ) p fr rfl
theorem s_int {i : Int} {k : Nat} : PE X (.Constant (.int i) k pos) (tE X.K xc cf W (.k (.int i))) :=
  PE.imp pe_int fun σ H C ⟨ρ, Fs, fr, p⟩ => Post.g (ρ := ρ) p fr rfl
theorem s_str {i : Str} {k : Nat} : PE X (.Constant (.str i) k pos) (tE X.K xc cf W (.k (.str i))) :=
  PE.imp pe_str fun σ H C ⟨ρ, Fs, fr, p⟩ => Post.g (ρ := ρ) p fr rfl
theorem s_glob {x : Str} {g : G} {v : V} {u : Value} (hg : Gl X x) (hm : X.mg x = some u) (r : RelV v u) (hr : ∀ H, RepG X.K H v g) (hd : (x == ("__debug__" : Str)) = false) : PE X (.Name x pos) (tE X.K xc cf W (.k g)) :=
  PE.imp (pe_glob hg hm r hd) fun σ H C ⟨ρ, Fs, fr, p⟩ => Post.g (ρ := ρ) p fr (hr H)
theorem vat_some {σ : L2.St} {j : Nat} {v : V} (h : Vat σ j = some v) : σ[j]? = some (some v) := by
  unfold Vat at h
  cases e : σ[j]? with
  | none => rw [e] at h; cases h
  | some o => rw [e] at h; exact congrArg some h
theorem s_var {j : Nat} {x : Str} (hN : X.N[j]? = some x) (hv : Vis X.env.scope x) (hd : (x == ("__debug__" : Str)) = false) (hcd : (x == ("__classdict__" : Str)) = false) : PE X (.Name x pos) (tE X.K xc cf W (.var j)) := by
  refine PE.imp (pe_var hN hv hd hcd) fun σ H C ⟨ρ, Fs, fr, p⟩ => ?_
  have p : Post X.K xc W σ (rpQ X.K σ) ρ Fs [] H C (evVar ρ j) := p
  have hs := fr.sl j
  unfold evVar at p
  split at p <;> rename_i es <;> (try rw [es] at hs)
  · obtain ⟨v, e1, r1⟩ := hs
    exact ⟨v, vat_some e1, Post.g p fr r1.1⟩
  · obtain ⟨_, v, F', e1, r1, _⟩ := hs
    exact ⟨v, vat_some e1, Post.g p fr r1.1⟩
  · obtain ⟨v, e1, r1⟩ := hs
    exact ⟨v, vat_some e1, Post.now p fr ⟨rfl, e1⟩⟩
  · obtain ⟨v, e1, r1⟩ := hs
    exact ⟨v, vat_some e1, Post.now p fr ⟨rfl, e1⟩⟩
  · obtain ⟨_, v, F', e1, r1, _⟩ := hs
    exact ⟨v, vat_some e1, Post.now p fr ⟨rfl, e1⟩⟩
  · exact False.elim p
/-! ### operators -/
/-- the two operands have come -/
theorem two {σ : L2.St} {H : Hp} {α β : Type} {rep : Rp α β} {C : β → Hp → Prop} {ρ : Env} {Fs : Nat → List Addr} {q1 q2 : Q} {v1 v2 : V} {F1 F2 : List Addr} {T : List Addr} {g : R → R → Out (α × Env)} (fr : Fr X.K H σ ρ Fs) (r1 : QRep X.K H σ Fs v1 q1 F1) (r2 : QRep X.K H σ Fs v2 q2 F2)
    (p : Post X.K xc W σ rep ρ Fs T H C ((deref ρ q1).bind fun r => (deref ρ q2).bind fun s => g r s)) : ∃ r s F F', deref ρ q1 = .ok r ∧ RepR X.K H v1 r F ∧ RepR X.K H v2 s F' ∧ Post X.K xc W σ rep ρ Fs T H C (g r s) := by
  obtain ⟨r, er, p⟩ := p.look (deref_nx ρ q1)
  obtain ⟨s, es, p⟩ := p.look (deref_nx ρ q2)
  obtain ⟨F, h1⟩ := deref_rep fr r1 er
  obtain ⟨F', h2⟩ := deref_rep fr r2 es
  exact ⟨r, s, F, F', er, h1, h2, p⟩
theorem s_bin (op : BOp) (ha : PE X a (tE X.K xc cf W (ea))) (hb : PE X b (tE X.K xc cf W (eb))) : PE X (.BinOp a (toOp op) b pos) (tE X.K xc cf W (.bin op ea eb)) := by
  by_cases hop : op = .mul
  · subst hop
    -- a list that is multiplied is a new one
    let rM : R2 := fun x y H C => ∃ r s z F1 F2, RepR X.K H x r F1 ∧ RepR X.K H y s F2 ∧ (∀ xs, r = .lst xs → RepO X.K H x r F1) ∧ binop .mul r s = .ok z ∧ Ans X.K H z C
    have ho : OpR X (binaryOp .Mult) rM := by
      intro pins s σ H x y v u C I rx ry ⟨r, t, z, F1, F2, h1, h2, hn, e, q⟩
      cases r with
      | g r => cases t with
        | lst t => cases r <;> simp only [binop, reduceCtorEq] at e
        | g t =>
          cases r <;> cases t <;> simp only [binop, reduceCtorEq] at e
          · split at e
            · rename_i hj
              cases e
              exact op_mul pins s σ H x y v u C I rx ry ⟨_, _, h1.1, h2.1, i64_ok hj, q.g rfl⟩
            · cases e
          · split at e
            · rename_i xs k hj
              cases e
              obtain ⟨l, ws, rfl, s1, g1⟩ := rep_tup h1.1
              rw [show y = .int k from h2.1] at ry
              cases rx
              obtain ⟨t, rfl⟩ := ry
              refine op_mulT I s1.t hj.2.1 hj.1 (by rw [g1.len]; exact hj.2.2) (fun e0 => ?_) fun p o hp hd => q.tup (g1.rep _) hp hd
              refine q.g ⟨l, ws, rfl, s1, ?_⟩
              have := g1.rep k.toNat
              rw [e0] at this
              exact this
            · cases e
      | lst xs => cases t with
        | lst t => simp only [binop, reduceCtorEq] at e
        | g t =>
          cases t <;> simp only [binop, reduceCtorEq] at e
          rename_i k
          split at e
          · rename_i gs eg
            split at e
            · rename_i hj
              cases e
              have h1' := h1
              obtain ⟨l, ws, F', rfl, s1, g1, eF⟩ := h1
              obtain ⟨g2, _⟩ := g1.gs eg
              obtain ⟨l', ys, _, e0, el, _⟩ := hn xs rfl
              cases e0
              have ey : ys = ws := I.list_inj (SqL.of el) s1
              subst ey
              rw [show y = .int k from h2.1] at ry
              cases rx
              obtain ⟨t, rfl⟩ := ry
              exact op_mulL I el hj.2.1 hj.1 (by rw [g2.len]; exact hj.2.2) fun p hp => q.lst (g2.rep _).os hp
            · cases e
          · cases e
    refine PE.imp (pe_op ho ha hb) fun σ H C ⟨ρ, Fs, fr, p⟩ => ⟨ρ, Fs, fr, Post.bind p fun q1 ρ1 _ v1 H1 Fs1 F1 fr1 r1 p1 => ?_⟩
    refine Post.behind p1 fr1 r1 fun q2 ρ2 v2 H2 Fs2 F2 fr2 r1 r2 _ p2 => ?_
    obtain ⟨r, er, p2⟩ := p2.look (deref_nx ρ2 q1)
    obtain ⟨s, es, p2⟩ := p2.look (deref_nx ρ2 q2)
    obtain ⟨F', h2⟩ := deref_rep fr2 r2 es
    obtain ⟨z, ez, p3⟩ := p2.look (by intro c h; split at h; cases h; exact binop_nx _ _ _ c h)
    have hnb : mulBad .mul q1 r = false := by
      cases e : mulBad .mul q1 r with
      | false => rfl
      | true => simp only [e, if_true] at ez; cases ez
    simp only [hnb] at ez
    have p3 := p3.ans fr2
    clear p1 p2
    cases q1 with
    | v r' => cases er; exact ⟨_, _, _, _, _, r1.1.rep, h2, fun _ _ => r1.1, ez, p3⟩
    | s j =>
      obtain ⟨F, h1⟩ := deref_rep fr2 r1 er
      exact ⟨_, _, _, _, _, h1, h2, fun xs e => (by subst e; cases hnb), ez, p3⟩
    | b r' =>
      obtain ⟨F, h1⟩ := deref_rep fr2 r1 er
      exact ⟨_, _, _, _, _, h1, h2, fun xs e => (by subst e; cases hnb), ez, p3⟩
  · refine PE.imp (pe_op (op_bin op hop) ha hb) fun σ H C ⟨ρ, Fs, fr, p⟩ => ⟨ρ, Fs, fr, Post.bind p fun q1 ρ1 _ v1 H1 Fs1 F1 fr1 r1 p1 => ?_⟩
    refine Post.behind p1 fr1 r1 fun q2 ρ2 v2 H2 Fs2 F2 fr2 r1 r2 _ p2 => ?_
    obtain ⟨r, s, F, F', er, h1, h2, p2⟩ := two fr2 r1 r2 p2
    have hnb : mulBad op q1 r = false := by
      cases op <;> first | rfl | exact absurd rfl hop
    simp only [hnb] at p2
    obtain ⟨z, ez, p2⟩ := p2.look (binop_nx op r s)
    exact ⟨_, _, _, _, _, h1, h2, ez, p2.ans fr2⟩
theorem s_neg (ha : PE X a (tE X.K xc cf W (ea))) : PE X (.UnaryOp .USub a pos) (tE X.K xc cf W (.neg ea)) := by
  refine PE.imp (pe_un un_neg ha) fun σ H C ⟨ρ, Fs, fr, p⟩ => ⟨ρ, Fs, fr, Post.bind p fun q1 ρ1 _ v1 H1 Fs1 F1 fr1 r1 p1 => ?_⟩
  split at p1
  · rename_i i e
    have e : q1 = .v (.g (.int i)) := e
    subst e
    exact ⟨i, r1.1.1, p1.g fr1 rfl⟩
  · exact p1.elim
/-- truth -/
theorem truth_rep {K : PySem.W.Frag} {H : Hp} {v : V} {r : R} {F : List Addr} {t : Bool} (h : RepR K H v r F) (e : truth r = .ok t) : TruV K v H t := by
  cases r with
  | g r =>
    cases r with
    | non => cases e; rw [show v = .non from h.1]; exact rfl
    | bl b => cases e; rw [show v = .bl _ from h.1]; exact rfl
    | int i => cases e; rw [show v = .int _ from h.1]; exact rfl
    | str s => cases e
    | tup xs =>
      cases e
      obtain ⟨a, ws, rfl, s1, g1⟩ := rep_tup h.1
      refine .inr (.inl ⟨ws, s1.t, ?_⟩)
      cases xs with
      | nil => cases g1; rfl
      | cons x xs => obtain ⟨w, r, e, _⟩ := g1; subst e; rfl
  | lst xs =>
    cases e
    obtain ⟨a, ws, F', rfl, s1, g1, _⟩ := h
    refine .inl ⟨ws, s1, ?_⟩
    cases xs with
    | nil => cases g1.1; rfl
    | cons x xs => obtain ⟨w, r, _, _, e, _⟩ := g1; subst e; rfl
theorem asB_rep {K : PySem.W.Frag} {H : Hp} {v : V} {r : R} {F : List Addr} {t : Bool} (h : RepR K H v r F) (e : asB r = .ok t) : v = .bl t ∧ truth r = .ok t := by
  unfold asB at e
  split at e
  · cases e; exact ⟨h.1, rfl⟩
  · cases e
theorem s_not (ha : PE X a (tE X.K xc cf W (ea))) : PE X (.UnaryOp .Not a pos) (tE X.K xc cf W (.not ea)) := by
  refine PE.imp (pe_notT ha) fun σ H C ⟨ρ, Fs, fr, p⟩ => ⟨ρ, Fs, fr, Post.bind p fun q1 ρ1 _ v1 H1 Fs1 F1 fr1 r1 p1 => ?_⟩
  obtain ⟨r, er, p1⟩ := p1.look (deref_nx _ _)
  obtain ⟨t, et, p1⟩ := p1.look (truth_nx _)
  obtain ⟨F, h1⟩ := deref_rep fr1 r1 er
  exact ⟨t, truth_rep h1 et, p1.g fr1 rfl⟩
theorem s_and {rest : List Expr} (ha : PE X a (tE X.K xc cf W (ea))) (hb : PE X (.BoolOp .And (b :: rest) pos) (tE X.K xc cf W (eb))) : PE X (.BoolOp .And (a :: b :: rest) pos) (tE X.K xc cf W (.and ea eb)) := by
  refine PE.imp (pe_and ha hb) fun σ H C ⟨ρ, Fs, fr, p⟩ => ⟨ρ, Fs, fr, Post.bind p fun q1 ρ1 _ v1 H1 Fs1 F1 fr1 r1 p1 => ?_⟩
  obtain ⟨r, er, p1⟩ := p1.look (deref_nx _ _)
  obtain ⟨t, et, p1⟩ := p1.look (asB_nx _)
  obtain ⟨F, h1⟩ := deref_rep fr1 r1 er
  refine ⟨t, (asB_rep h1 et).1, ?_⟩
  cases t with
  | true => exact ⟨ρ1, Fs1, fr1, p1.drop⟩
  | false => exact p1.g fr1 rfl
theorem s_or {rest : List Expr} (ha : PE X a (tE X.K xc cf W (ea))) (hb : PE X (.BoolOp .Or (b :: rest) pos) (tE X.K xc cf W (eb))) : PE X (.BoolOp .Or (a :: b :: rest) pos) (tE X.K xc cf W (.or ea eb)) := by
  refine PE.imp (pe_or ha hb) fun σ H C ⟨ρ, Fs, fr, p⟩ => ⟨ρ, Fs, fr, Post.bind p fun q1 ρ1 _ v1 H1 Fs1 F1 fr1 r1 p1 => ?_⟩
  obtain ⟨r, er, p1⟩ := p1.look (deref_nx _ _)
  obtain ⟨t, et, p1⟩ := p1.look (asB_nx _)
  obtain ⟨F, h1⟩ := deref_rep fr1 r1 er
  refine ⟨t, (asB_rep h1 et).1, ?_⟩
  cases t with
  | true => exact p1.g fr1 rfl
  | false => exact ⟨ρ1, Fs1, fr1, p1.drop⟩
theorem s_one {op : BoolOp} (ha : PE X a (tE X.K xc cf W (ea))) : PE X (.BoolOp op [a] pos) (tE X.K xc cf W (ea)) := pe_one ha
/-! ### tests -/
theorem t_val (ha : PE X a (tE X.K xc cf W (ea))) (he : ∀ whole, isTrue a X.env whole = (do let v ← whole; standAt a.pos; holding [v] (truthy v))) : PT X a (tT X.K xc cf W (ea)) := by
  refine PT.imp (pt_truth ha he) fun σ H C ⟨ρ, Fs, fr, p⟩ => ⟨ρ, Fs, fr, Post.bind p fun q1 ρ1 _ v1 H1 Fs1 F1 fr1 r1 p1 => ?_⟩
  obtain ⟨r, er, p1⟩ := p1.look (deref_nx _ _)
  obtain ⟨t, et, p1⟩ := p1.look (truth_nx _)
  obtain ⟨F, h1⟩ := deref_rep fr1 r1 er
  exact ⟨t, truth_rep h1 et, p1.now fr1 ⟨rfl, rfl⟩⟩
theorem bind_assoc {α β γ : Type} (o : Out α) (f : α → Out β) (g : β → Out γ) : (o.bind f).bind g = o.bind fun a => (f a).bind g := by cases o <;> rfl
theorem t_not (ha : PT X a (tT X.K xc cf W (ea))) : PT X (.UnaryOp .Not a pos) (tT X.K xc cf W (.not ea)) := by
  refine PT.imp (pt_not ha) fun σ H C ⟨ρ, Fs, fr, p⟩ => ⟨ρ, Fs, fr, ?_⟩
  have e : evB cf (.not ea) ρ = (evB cf ea ρ).bind fun x => .ok (!x.1, x.2) := by
    unfold evB testE
    rw [ev]
    simp only [bind_assoc]
    congr 1
  rw [e] at p
  refine Post.bind (rep1 := rpB) p fun q1 ρ1 _ v1 H1 Fs1 F1 fr1 r1 p1 => ?_
  cases r1.1
  exact p1.now fr1 ⟨rfl, rfl⟩
theorem t_ite {c : Expr} {ec : E} (hc : PT X c (tT X.K xc cf W (ec))) (ha : PE X a (tE X.K xc cf W (ea))) (hb : PE X b (tE X.K xc cf W (eb))) : PE X (.IfExp c a b pos) (tE X.K xc cf W (.ite ec ea eb)) := by
  refine PE.imp (pe_ifExp hc ha hb) fun σ H C ⟨ρ, Fs, fr, p⟩ => ⟨ρ, Fs, fr, ?_⟩
  have e : ev cf (.ite ec ea eb) ρ = (evB cf ec ρ).bind fun x => if x.1 then ev cf ea x.2 else ev cf eb x.2 := by
    unfold evB testE
    rw [ev]
    simp only [bind_assoc]
    congr 1
  rw [e] at p
  refine Post.bind (rep1 := rpB) p fun q1 ρ1 _ v1 H1 Fs1 F1 fr1 r1 p1 => ?_
  cases r1.1
  cases q1 with
  | true => exact ⟨ρ1, Fs1, fr1, p1.drop⟩
  | false => exact ⟨ρ1, Fs1, fr1, p1.drop⟩
end
end Pv
/-! Pv7: tests, comparisons, items, built-in calls. -/
namespace Pv
open PySem PySem.Spec PyProof.Rows L2
section
variable {X : Cx} {xc : Nat → Value} {cf : CallT} {W : WX} {a b : Expr} {ea eb : E} {pos : Pos}
/-! ### and, or as tests -/
theorem evB_of {ρ : Env} {x : Q × Env} {r : R} {t : Bool} (h : ev cf ea ρ = .ok x) (h1 : deref x.2 x.1 = .ok r) (h2 : truth r = .ok t) : evB cf ea ρ = .ok (t, x.2) := by
  unfold evB testE
  rw [h]
  show ((deref x.2 x.1).bind fun r => (truth r).bind fun t => .ok (t, x.2)) = _
  rw [h1]
  show ((truth r).bind fun t => .ok (t, x.2)) = _
  rw [h2]
  rfl
theorem asB_truth {r : R} {t : Bool} (e : asB r = .ok t) : truth r = .ok t := by
  unfold asB at e
  split at e
  · cases e; rfl
  · cases e
theorem evB_exc {ρ : Env} {c : Nat} (h : ev cf ea ρ = .exc c) : evB cf ea ρ = .exc c := by
  unfold evB testE; rw [h]; rfl
/-- the first test of and, or -/
theorem Post.asB {σ : L2.St} {H : Hp} {ρ : Env} {Fs : Nat → List Addr} {α β : Type} {rep : Rp α β} {C : β → Hp → Prop} {g : Bool → Env → Out (α × Env)} {C1 : Bool → Hp → Prop} {T : List Addr} (fr : Fr X.K H σ ρ Fs)
    (p : Post X.K xc W σ rep ρ Fs T H C ((ev cf ea ρ).bind fun x => (deref x.2 x.1).bind fun r => (Pv.asB r).bind fun t => g t x.2))
    (h : ∀ t ρ1 H1 Fs1 T1, Fr X.K H1 σ ρ1 Fs1 → Post X.K xc W σ rep ρ1 Fs1 T1 H1 C (g t ρ1) → C1 t H1) : tT X.K xc cf W ea σ H C1 := by
  refine ⟨ρ, Fs, fr, ?_⟩
  cases eo : ev cf ea ρ with
  | ok x =>
    rw [eo] at p
    have p : Post X.K xc W σ rep ρ Fs T H C ((deref x.2 x.1).bind fun r => (Pv.asB r).bind fun t => g t x.2) := p
    obtain ⟨r, er, p⟩ := p.look (deref_nx _ _)
    obtain ⟨t, et, p⟩ := p.look (asB_nx _)
    rw [evB_of eo er (asB_truth et)]
    intro v H' Fs' F fr' st nf kd re
    cases re.1
    exact h t x.2 H' Fs' _ fr' (p.rebase (F1 := []) st (fun a ha => nomatch ha) kd)
  | exc c =>
    rw [eo] at p
    rw [evB_exc eo]
    exact p
  | stuck => rw [eo] at p; exact p.elim
theorem t_and {rest : List Expr} (ha : PT X a (tT X.K xc cf W ea)) (hb : PW X (.BoolOp .And (b :: rest) pos) (tT X.K xc cf W eb)) : PW X (.BoolOp .And (a :: b :: rest) pos) (tT X.K xc cf W (.and ea eb)) := by
  refine PW.imp (pw_and ha hb) fun σ H C ⟨ρ, Fs, fr, p⟩ => ?_
  have e : evB cf (.and ea eb) ρ = (ev cf ea ρ).bind fun x => (deref x.2 x.1).bind fun r => (Pv.asB r).bind fun t => if t then evB cf eb x.2 else .ok (false, x.2) := by
    unfold evB testE
    rw [ev]
    simp only [bind_assoc]
    congr 1
    funext x
    congr 1
    funext r
    congr 1
    funext t
    cases t <;> rfl
  rw [e] at p
  refine Post.asB (g := fun t ρ => if t then evB cf eb ρ else .ok (false, ρ)) fr p fun t ρ1 H1 Fs1 T1 fr1 p1 => ?_
  cases t with
  | true => exact ⟨ρ1, Fs1, fr1, p1.drop⟩
  | false => exact p1.now fr1 ⟨rfl, rfl⟩
theorem t_or {rest : List Expr} (ha : PT X a (tT X.K xc cf W ea)) (hb : PW X (.BoolOp .Or (b :: rest) pos) (tT X.K xc cf W eb)) : PW X (.BoolOp .Or (a :: b :: rest) pos) (tT X.K xc cf W (.or ea eb)) := by
  refine PW.imp (pw_or ha hb) fun σ H C ⟨ρ, Fs, fr, p⟩ => ?_
  have e : evB cf (.or ea eb) ρ = (ev cf ea ρ).bind fun x => (deref x.2 x.1).bind fun r => (Pv.asB r).bind fun t => if t then .ok (true, x.2) else evB cf eb x.2 := by
    unfold evB testE
    rw [ev]
    simp only [bind_assoc]
    congr 1
    funext x
    congr 1
    funext r
    congr 1
    funext t
    cases t <;> rfl
  rw [e] at p
  refine Post.asB (g := fun t ρ => if t then .ok (true, ρ) else evB cf eb ρ) fr p fun t ρ1 H1 Fs1 T1 fr1 p1 => ?_
  cases t with
  | true => exact p1.now fr1 ⟨rfl, rfl⟩
  | false => exact ⟨ρ1, Fs1, fr1, p1.drop⟩
theorem t_and1 (ha : PT X a (tT X.K xc cf W ea)) : PW X (.BoolOp .And [a] pos) (tT X.K xc cf W ea) := pw_and1 ha
theorem t_or1 (ha : PT X a (tT X.K xc cf W ea)) : PW X (.BoolOp .Or [a] pos) (tT X.K xc cf W ea) := pw_or1 ha
theorem isTrue_if {c : Expr} {M : Model} {A : Around} {env : PySem.Env} {E : Value → Shared → Prop} {Q : Bool → Shared → Prop} {s : Shared} {whole : Sem Value} {pos : Pos}
    (h : wpAny M A (isTrue c env (eval c env)) (fun t s1 => if t then wpAny M A (isTrue a env (eval a env)) Q E s1 else wpAny M A (isTrue b env (eval b env)) Q E s1) E s) : wpAny M A (isTrue (.IfExp c a b pos) env whole) Q E s := by
  show wpAny M A (do if ← isTrue c env (eval c env) then isTrue a env (eval a env) else isTrue b env (eval b env)) Q E s
  refine wpAny_bind (wpAny_mono h (fun t s1 h1 => ?_) fun _ _ x => x)
  cases t with
  | true => exact h1
  | false => exact h1
theorem tt_ite {c : Expr} {ec : E} (hc : PT X c (tT X.K xc cf W ec)) (ha : PT X a (tT X.K xc cf W ea)) (hb : PT X b (tT X.K xc cf W eb)) : PT X (.IfExp c a b pos) (tT X.K xc cf W (.ite ec ea eb)) := by
  refine ⟨fun pins s σ H C I ⟨ρ, Fs, fr, p⟩ => ?_⟩
  have e : evB cf (.ite ec ea eb) ρ = (evB cf ec ρ).bind fun x => if x.1 then evB cf ea x.2 else evB cf eb x.2 := by
    unfold evB testE
    rw [ev]
    simp only [bind_assoc]
    congr 1
    funext x
    congr 1
    funext r
    congr 1
    funext t
    cases t <;> rfl
  rw [e] at p
  have q : tT X.K xc cf W ec σ H (fun t H1 => if t then tT X.K xc cf W ea σ H1 C else tT X.K xc cf W eb σ H1 C) := by
    refine ⟨ρ, Fs, fr, Post.bind (rep1 := rpB) p fun q1 ρ1 _ v1 H1 Fs1 F1 fr1 r1 p1 => ?_⟩
    cases r1.1
    cases q1 with
    | true => exact ⟨ρ1, Fs1, fr1, p1.drop⟩
    | false => exact ⟨ρ1, Fs1, fr1, p1.drop⟩
  refine isTrue_if (thn (hc.run pins s σ H _ I q) fun t s1 ⟨H1, I1, q1⟩ => ?_)
  cases t with
  | true => exact ha.run pins s1 σ H1 C I1 q1
  | false => exact hb.run pins s1 σ H1 C I1 q1
/-! ### comparisons -/
def tCh (K : PySem.W.Frag) (xc : Nat → Value) (cf : CallT) (W : WX) (e : E) (x : V) : TT := fun σ H C => ∃ ρ Fs q F, Fr K H σ ρ Fs ∧ QRep K H σ Fs x q F ∧ Post K xc W σ rpB ρ Fs [] H C (evc cf e q ρ)
def ChE (X : Cx) (pos : Pos) (ops : List CmpOp) (cs : List Expr) (t : V → TT) : Prop := ∀ (pins : List (Addr × Obj)) (s : Shared) (σ : L2.St) (H : Hp) (C : VK) (v : Value) (x : V), Inv X pins σ H s → RelV x v → t x σ H (fun c H1 => C (.bl c) H1) →
  wpAny (model X.prog X.w) X.A (compareChain pos v ops (evalEach cs X.env)) (EP X pins σ C) X.xe s
def ChT (X : Cx) (pos : Pos) (ops : List CmpOp) (cs : List Expr) (t : V → TT) : Prop := ∀ (pins : List (Addr × Obj)) (s : Shared) (σ : L2.St) (H : Hp) (C : Bool → Hp → Prop) (v : Value) (x : V), Inv X pins σ H s → RelV x v → t x σ H C →
  wpAny (model X.prog X.w) X.A (testChain pos v ops (evalEach cs X.env)) (TP X pins σ C) X.xe s
/-- the right operand of a link -/
theorem link {op : COp} {t : E} {σ : L2.St} {H : Hp} {C : Bool → Hp → Prop} {x : V} (h : tCh X.K xc cf W (.cc op eb t) x σ H C) : tE X.K xc cf W eb σ H fun y H1 => rCmp X.K op x y H1 fun z H2 => ∃ k, z = .bl k ∧
    (if k && !t.isNil then tCh X.K xc cf W t y σ H2 C else C k H2) := by
  obtain ⟨ρ, Fs, q, F, fr, r1, p⟩ := h
  have p : Post X.K xc W σ rpB ρ Fs [] H C ((behind q ρ (ev cf eb)).bind fun y => (deref y.2 q).bind fun r => (deref y.2 y.1).bind fun s => (cmpop op r s).bind fun c => if c && !t.isNil then evc cf t y.1 y.2 else .ok (c, y.2)) := p
  refine Post.behind p fr r1 fun q2 ρ2 v2 H2 Fs2 F2 fr2 r1 r2 _ p2 => ?_
  obtain ⟨r, s, F, F', er, h1, h2, p2⟩ := two fr2 r1 r2 p2
  obtain ⟨c, ec, p2⟩ := p2.look (cmpop_nx op r s)
  refine ⟨_, _, c, _, _, h1, h2, ec, c, rfl, ?_⟩
  cases hk : (c && !t.isNil) with
  | true => rw [hk] at p2; exact ⟨ρ2, Fs2, q2, F2, fr2, r2, p2.drop⟩
  | false => rw [hk] at p2; exact p2.now fr2 ⟨rfl, rfl⟩
theorem che_last (hu : X.A.units + 66 < cLine) (op : COp) (hb : PE X b (tE X.K xc cf W eb)) : ChE X pos [toC op] [b] (tCh X.K xc cf W (.cc op eb .nil)) := by
  intro pins s σ H C v x I rx h
  refine chain_last (thn (hb.run pins s σ H _ I (link h)) fun u s1 ⟨y, H1, I1, r1, q1⟩ => ?_)
  refine thn (op_cmp hu op pins s1 σ H1 x y v u _ I1 rx r1 q1) fun d s2 ⟨z, H2, I2, r2, k, e, q2⟩ => ?_
  subst e
  have e0 : (k && !E.nil.isNil) = false := by cases k <;> rfl
  rw [e0] at q2
  exact ⟨.bl k, H2, I2, r2, q2⟩
theorem cht_last (hu : X.A.units + 66 < cLine) (op : COp) (hb : PE X b (tE X.K xc cf W eb)) : ChT X pos [toC op] [b] (tCh X.K xc cf W (.cc op eb .nil)) := by
  intro pins s σ H C v x I rx h
  refine test_last (thn (hb.run pins s σ H _ I (link h)) fun u s1 ⟨y, H1, I1, r1, q1⟩ => ?_)
  refine thn (op_cmp hu op pins s1 σ H1 x y v u _ I1 rx r1 q1) fun d s2 ⟨z, H2, I2, r2, k, e, q2⟩ => ?_
  subst e
  cases r2
  have e0 : (k && !E.nil.isNil) = false := by cases k <;> rfl
  rw [e0] at q2
  exact wpAny_truthy_bool ⟨H2, I2, q2⟩
theorem che_link {op' : CmpOp} {ops : List CmpOp} {b' : Expr} {bs : List Expr} {t : E} (hu : X.A.units + 66 < cLine) (op : COp) (hb : PE X b (tE X.K xc cf W eb)) (ht : t.isNil = false) (hc : ChE X pos (op' :: ops) (b' :: bs) (tCh X.K xc cf W t)) : ChE X pos (toC op :: op' :: ops) (b :: b' :: bs) (tCh X.K xc cf W (.cc op eb t)) := by
  intro pins s σ H C v x I rx h
  refine chain_link (thn (hb.run pins s σ H _ I (link h)) fun u s1 ⟨y, H1, I1, r1, q1⟩ => ?_)
  refine thn (op_cmp hu op pins s1 σ H1 x y v u _ I1 rx r1 q1) fun d s2 ⟨z, H2, I2, r2, k, e, q2⟩ => ?_
  subst e
  cases r2
  refine wpAny_truthy_bool ?_
  rw [ht] at q2
  cases k with
  | false => exact ite_ff ⟨.bl false, H2, I2, rfl, q2⟩
  | true => exact ite_tt (hc pins s2 σ H2 C u y I2 r1 q2)
theorem cht_link {op' : CmpOp} {ops : List CmpOp} {b' : Expr} {bs : List Expr} {t : E} (hu : X.A.units + 66 < cLine) (op : COp) (hb : PE X b (tE X.K xc cf W eb)) (ht : t.isNil = false) (hc : ChT X pos (op' :: ops) (b' :: bs) (tCh X.K xc cf W t)) : ChT X pos (toC op :: op' :: ops) (b :: b' :: bs) (tCh X.K xc cf W (.cc op eb t)) := by
  intro pins s σ H C v x I rx h
  refine test_link (thn (hb.run pins s σ H _ I (link h)) fun u s1 ⟨y, H1, I1, r1, q1⟩ => ?_)
  refine thn (op_cmp hu op pins s1 σ H1 x y v u _ I1 rx r1 q1) fun d s2 ⟨z, H2, I2, r2, k, e, q2⟩ => ?_
  subst e
  cases r2
  refine wpAny_truthy_bool ?_
  rw [ht] at q2
  cases k with
  | false => exact ite_ff ⟨H2, I2, q2⟩
  | true => exact ite_tt (hc pins s2 σ H2 C u y I2 r1 q2)
theorem start_ch {t : E} {σ : L2.St} {H : Hp} {C : Bool → Hp → Prop} (h : tT X.K xc cf W (.cmp ea t) σ H C) : tE X.K xc cf W ea σ H fun x H1 => tCh X.K xc cf W t x σ H1 C := by
  obtain ⟨ρ, Fs, fr, p⟩ := h
  refine ⟨ρ, Fs, fr, ?_⟩
  have e : evB cf (.cmp ea t) ρ = (ev cf ea ρ).bind fun x => evc cf t x.1 x.2 := by
    unfold evB testE
    rw [ev]
    simp only [bind_assoc]
    congr 1
    funext x
    cases evc cf t x.1 x.2 <;> rfl
  rw [e] at p
  exact Post.bind p fun q1 ρ1 _ v1 H1 Fs1 F1 fr1 r1 p1 => ⟨ρ1, Fs1, q1, F1, fr1, r1, p1.drop⟩
theorem start_cv {t : E} {σ : L2.St} {H : Hp} {C : VK} (h : tE X.K xc cf W (.cmp ea t) σ H C) : tE X.K xc cf W ea σ H fun x H1 => tCh X.K xc cf W t x σ H1 fun c H2 => C (.bl c) H2 := by
  obtain ⟨ρ, Fs, fr, p⟩ := h
  refine ⟨ρ, Fs, fr, Post.bind p fun q1 ρ1 _ v1 H1 Fs1 F1 fr1 r1 p1 => ⟨ρ1, Fs1, q1, F1, fr1, r1, ?_⟩⟩
  refine Post.bind (rep1 := rpB) p1 fun c ρ2 _ v2 H2 Fs2 F2 fr2 r2 p2 => ?_
  cases r2.1
  exact p2.g fr2 rfl
theorem s_cmp1 (hu : X.A.units + 66 < cLine) (op : COp) (ha : PE X a (tE X.K xc cf W ea)) (hb : PE X b (tE X.K xc cf W eb)) (hm : behindInMarks (toC op) b = false) : PE X (.Compare a [toC op] [b] pos) (tE X.K xc cf W (.cmp ea (.cc op eb .nil))) :=
  PE.imp (pe_cmpR (op_cmp hu op) ha hb hm) fun σ H C h => by
    obtain ⟨ρ, Fs, fr, p⟩ := start_cv h
    refine ⟨ρ, Fs, fr, p.imp fun x H1 h1 => ?_⟩
    obtain ⟨ρ, Fs, fr, p⟩ := link h1
    refine ⟨ρ, Fs, fr, p.imp fun y H2 ⟨r, s, b, F1, F2, h1, h2, e, k, ek, q⟩ => ⟨r, s, b, F1, F2, h1, h2, e, ?_⟩⟩
    cases ek
    have e0 : (b && !E.nil.isNil) = false := by cases b <;> rfl
    rw [e0] at q
    exact q
theorem t_cmp1 (hu : X.A.units + 66 < cLine) (op : COp) (ha : PE X a (tE X.K xc cf W ea)) (hb : PE X b (tE X.K xc cf W eb)) (hm : behindInMarks (toC op) b = false) : PT X (.Compare a [toC op] [b] pos) (tT X.K xc cf W (.cmp ea (.cc op eb .nil))) :=
  PT.imp (pt_cmpR (op_cmp hu op) ha hb hm) fun σ H C h => by
    obtain ⟨ρ, Fs, fr, p⟩ := start_ch h
    refine ⟨ρ, Fs, fr, p.imp fun x H1 h1 => ?_⟩
    obtain ⟨ρ, Fs, fr, p⟩ := link h1
    refine ⟨ρ, Fs, fr, p.imp fun y H2 ⟨r, s, b, F1, F2, h1, h2, e, k, ek, q⟩ => ⟨r, s, b, F1, F2, h1, h2, e, b, rfl, ?_⟩⟩
    cases ek
    have e0 : (b && !E.nil.isNil) = false := by cases b <;> rfl
    rw [e0] at q
    exact q
theorem s_cmpN {op1 op2 : CmpOp} {ops : List CmpOp} {b2 : Expr} {bs : List Expr} {t : E} (ha : PE X a (tE X.K xc cf W ea)) (hc : ChE X pos (op1 :: op2 :: ops) (b :: b2 :: bs) (tCh X.K xc cf W t)) (hm : lastMarks (op1 :: op2 :: ops) (b :: b2 :: bs) = false) :
    PE X (.Compare a (op1 :: op2 :: ops) (b :: b2 :: bs) pos) (tE X.K xc cf W (.cmp ea t)) := by
  refine ⟨fun pins s σ H C I h => ?_⟩
  exact Compare_chain (thn (ha.run pins s σ H _ I (start_cv h)) fun v s1 ⟨x, H1, I1, r1, q1⟩ => hc pins s1 σ H1 C v x I1 r1 q1) hm
theorem t_cmpN {op1 op2 : CmpOp} {ops : List CmpOp} {b2 : Expr} {bs : List Expr} {t : E} (ha : PE X a (tE X.K xc cf W ea)) (hc : ChT X pos (op1 :: op2 :: ops) (b :: b2 :: bs) (tCh X.K xc cf W t)) (hm : lastMarks (op1 :: op2 :: ops) (b :: b2 :: bs) = false) :
    PT X (.Compare a (op1 :: op2 :: ops) (b :: b2 :: bs) pos) (tT X.K xc cf W (.cmp ea t)) := by
  refine ⟨fun pins s σ H C I h => ?_⟩
  exact isTrue_chain (thn (ha.run pins s σ H _ I (start_ch h)) fun v s1 ⟨x, H1, I1, r1, q1⟩ => hc pins s1 σ H1 C v x I1 r1 q1) hm
end
end Pv
/-! Pv8: items, slices, built-in calls, methods, displays. -/
namespace Pv
open PySem PySem.Spec PyProof.Rows L2
section
variable {X : Cx} {xc : Nat → Value} {cf : CallT} {W : WX} {a b : Expr} {ea eb : E} {pos : Pos}
/-! ### items -/
theorem atI_len {α β : Type} {xs : List α} {ys : List β} {i : Int} {x : α} (hl : ys.length = xs.length) (h : Pv.atI xs i = some x) : ∃ j : Nat, xs[j]? = some x ∧ ∀ y, ys[j]? = some y → L2.atI ys i = some y := by
  obtain ⟨j, hj, hx⟩ := Option.bind_eq_some_iff.mp h
  refine ⟨j, hx, fun y hy => ?_⟩
  unfold L2.atI
  rw [hl, hj]
  exact hy
def rIxQ (K : PySem.W.Frag) : R2 := fun x y H C => ∃ r s z F1 F2, RepR K H x r F1 ∧ RepR K H y s F2 ∧ ixop true r s = .ok z ∧ ∀ v, (match z with
  | .v (.g g) => RepG K H v g
  | .b r' => ∃ F', RepR K H v r' F'
  | _ => False) → C v H
theorem ix_q : IxR X (rIxQ X.K) := by
  intro value slice pins s σ H x y v u C I rx ry ⟨r, t, z, F1, F2, h1, h2, e, q⟩ hs
  unfold ixop at e
  split at e
  · rename_i xs i
    split at e
    · rename_i g eg
      cases e
      obtain ⟨p, ws, rfl, s1, g1⟩ := rep_tup h1.1
      obtain ⟨j, hj, hk⟩ := atI_len g1.len eg
      obtain ⟨w, hw, gw⟩ := g1.at hj
      exact ix_tup value slice pins s σ H _ y v u C I rx ry ⟨p, ws, i, w, rfl, h2.1, s1.t, hk w hw, q w gw⟩ hs
    · cases e
  · rename_i xs i
    obtain ⟨p, ws, F', rfl, s1, g1, _⟩ := h1
    split at e
    · rename_i g eg
      cases e
      obtain ⟨j, hj, hk⟩ := atI_len g1.len eg
      obtain ⟨w, Fw, hw, gw, _⟩ := g1.at hj
      exact ix_list value slice pins s σ H _ y v u C I rx ry ⟨p, ws, i, w, rfl, h2.1, s1, hk w hw, q w gw.1⟩ hs
    · rename_i r' _ eg
      cases e
      obtain ⟨j, hj, hk⟩ := atI_len g1.len eg
      obtain ⟨w, Fw, hw, gw, _⟩ := g1.at hj
      exact ix_list value slice pins s σ H _ y v u C I rx ry ⟨p, ws, i, w, rfl, h2.1, s1, hk w hw, q w ⟨Fw, gw⟩⟩ hs
    · cases e
  · cases e
theorem ixop_shape {r s : R} {z : Q} (e : ixop true r s = .ok z) : (∃ g, z = .v (.g g)) ∨ ∃ r', z = .b r' := by
  unfold ixop at e
  split at e
  · split at e <;> cases e
    exact .inl ⟨_, rfl⟩
  · split at e <;> cases e
    · exact .inl ⟨_, rfl⟩
    · exact .inr ⟨_, rfl⟩
  · cases e
theorem s_ix (ha : PE X a (tE X.K xc cf W ea)) (hb : PE X b (tE X.K xc cf W eb)) (hs : PlainIx b) : PE X (.Subscript a b pos) (tE X.K xc cf W (.ix ea eb)) := by
  refine PE.imp (pe_ix ix_q ha hb hs) fun σ H C ⟨ρ, Fs, fr, p⟩ => ⟨ρ, Fs, fr, Post.bind p fun q1 ρ1 _ v1 H1 Fs1 F1 fr1 r1 p1 => ?_⟩
  refine Post.behind p1 fr1 r1 fun q2 ρ2 v2 H2 Fs2 F2 fr2 r1 r2 _ p2 => ?_
  obtain ⟨r, s, F, F', er, h1, h2, p2⟩ := two fr2 r1 r2 p2
  obtain ⟨z, ez, p2⟩ := p2.look (ixop_nx _ r s)
  refine ⟨_, _, z, _, _, h1, h2, ez, fun v hv => ?_⟩
  rcases ixop_shape ez with ⟨g, rfl⟩ | ⟨r', rfl⟩
  · exact p2.g fr2 hv
  · exact p2.now fr2 ⟨rfl, hv⟩
/-! ### slices -/
def tOpt (K : PySem.W.Frag) (xc : Nat → Value) (cf : CallT) (W : WX) (e : E) : TO := fun σ H C => if e.isNil then C none H else tPart (tE K xc cf W e) σ H C
theorem po_nil : PO X none (tOpt X.K xc cf W .nil) := po_none
theorem po_e {l : Expr} {el : E} (h : PE X l (tE X.K xc cf W el)) (hn : el.isNil = false) : PO X (some l) (tOpt X.K xc cf W el) := by
  have e : tOpt X.K xc cf W el = tPart (tE X.K xc cf W el) := by
    funext σ H C
    unfold tOpt
    rw [hn]
    rfl
  rw [e]
  exact po_some h
theorem Post.opt {σ : L2.St} {α β : Type} {rep : Rp α β} {C : β → Hp → Prop} {C1 : Option Int → Hp → Prop} {ρ1 : Env} {Fs1 : Nat → List Addr} {H1 : Hp} {q1 : Q} {v1 : V} {F1 : List Addr} {T : List Addr} {g : Option Int × Env → Out (α × Env)} (p : Post X.K xc W σ rep ρ1 Fs1 T H1 C ((optE q1 ρ1 ea (ev cf ea)).bind g)) (fr1 : Fr X.K H1 σ ρ1 Fs1) (rep1 : QRep X.K H1 σ Fs1 v1 q1 F1)
    (h : ∀ o ρ2 H2 Fs2 T2, Fr X.K H2 σ ρ2 Fs2 → QRep X.K H2 σ Fs2 v1 q1 F1 → Post X.K xc W σ rep ρ2 Fs2 T2 H2 C (g (o, ρ2)) → C1 o H2) : tOpt X.K xc cf W ea σ H1 C1 := by
  unfold tOpt
  unfold optE at p
  cases hn : ea.isNil with
  | true =>
    rw [hn] at p
    exact h none ρ1 H1 Fs1 _ fr1 rep1 p
  | false =>
    rw [hn] at p
    simp only [Bool.false_eq_true, if_false, bind_assoc] at p ⊢
    refine Post.behind p fr1 rep1 fun q2 ρ2 v2 H2 Fs2 F2 fr2 r1 r2 _ p2 => ?_
    obtain ⟨r, er, p2⟩ := p2.look (deref_nx _ _)
    obtain ⟨F, h2⟩ := deref_rep fr2 r2 er
    split at p2
    · exact ⟨_, h2.1, h _ ρ2 H2 Fs2 _ fr2 r1 p2⟩
    · exact p2.elim
def rSlG (K : PySem.W.Frag) : V → Option Int → Option Int → Hp → VK → Prop := fun x lo hi H C => ∃ r z F1, RepR K H x r F1 ∧ slop2 r lo hi = .ok z ∧ Ans K H z C
theorem cut_rep {K : PySem.W.Frag} {H : Hp} {ws : List V} {xs : List G} (h : RepGs K H ws xs) (lo hi : Option Int) : RepGs K H (cutV ws lo hi) (cutL xs lo hi) := by
  unfold cutV cutL
  rw [h.len]
  exact (h.drop _).take _
theorem sl_g : SlR X (rSlG X.K) := by
  intro pins s σ H x v vl vu lo hi sl C I rx hs pl pu ⟨r, z, F1, h1, e, q⟩
  unfold slop2 at e
  split at e
  · rename_i xs
    cases e
    obtain ⟨p, ws, rfl, s1, g1⟩ := rep_tup h1.1
    cases rx
    refine sl_tupD I hs pl pu s1.t (fun hw => ?_) fun p' o hp hd => q.tup (cut_rep g1 lo hi) hp hd
    refine q.g ⟨p, ws, rfl, s1, ?_⟩
    have e1 : cutL xs lo hi = xs := by
      unfold cutL
      rw [g1.len] at hw
      rw [show cutI xs.length 0 lo = 0 from hw.1, show cutI xs.length xs.length hi = xs.length from hw.2]
      simp
    rw [e1]; exact g1
  · rename_i xs
    split at e
    · rename_i ys ey
      cases e
      obtain ⟨p, ws, F', rfl, s1, g1, _⟩ := h1
      exact sl_list pins s σ H _ v vl vu lo hi sl C I rx hs pl pu ⟨p, ws, rfl, s1, fun p' hp => q.lst (cut_rep (g1.gs ey).1 lo hi).os hp⟩
    · cases e
  · cases e
theorem s_sl {lo hi : Option Expr} {el eh : E} {p2 : Pos} (ha : PE X a (tE X.K xc cf W ea)) (hl : PO X lo (tOpt X.K xc cf W el)) (hh : PO X hi (tOpt X.K xc cf W eh)) : PE X (.Subscript a (.Slice lo hi none p2) pos) (tE X.K xc cf W (.sl ea el eh)) := by
  refine PE.imp (pe_slice sl_g ha hl hh) fun σ H C ⟨ρ, Fs, fr, p⟩ => ⟨ρ, Fs, fr, Post.bind p fun q1 ρ1 _ v1 H1 Fs1 F1 fr1 r1 p1 => ?_⟩
  refine Post.opt p1 fr1 r1 fun o ρ2 H2 Fs2 T2 fr2 r1 p2 => ?_
  refine Post.opt p2 fr2 r1 fun o' ρ3 H3 Fs3 T3 fr3 r1 p3 => ?_
  obtain ⟨r, er, p3⟩ := p3.look (deref_nx _ _)
  obtain ⟨F, h1⟩ := deref_rep fr3 r1 er
  obtain ⟨z, ez, p3⟩ := p3.look (slop2_nx _ _ _)
  exact ⟨r, z, F, h1, ez, p3.ans fr3⟩
theorem s_back {k : Nat} {p1 p2 p3 : Pos} (ha : PE X a (tE X.K xc cf W ea)) : PE X (.Subscript a (.Slice none none (some (.UnaryOp .USub (.Constant (.int 1) k p1) p2)) p3) pos) (tE X.K xc cf W (.back ea)) := by
  refine PE.imp (pe_revL ha) fun σ H C ⟨ρ, Fs, fr, p⟩ => ⟨ρ, Fs, fr, Post.bind p fun q1 ρ1 _ v1 H1 Fs1 F1 fr1 r1 p1 => ?_⟩
  obtain ⟨r, er, p1⟩ := p1.look (deref_nx _ _)
  obtain ⟨F, h1⟩ := deref_rep fr1 r1 er
  obtain ⟨z, ez, p1⟩ := p1.look (backop_nx _)
  unfold backop at ez
  split at ez
  · rename_i xs
    split at ez
    · rename_i ys ey
      cases ez
      obtain ⟨p, ws, F', rfl, s1, g1, _⟩ := h1
      exact ⟨p, ws, rfl, s1, fun p' hp => (p1.ans fr1).lst (g1.gs ey).1.reverse.os hp⟩
    · cases ez
  · cases ez
/-! ### arguments -/
theorem plain_star {e : Expr} {es : List Expr} {env : PySem.Env} (h : ∀ x p, e ≠ .Starred x p) : starEach (e :: es) env = (false, eval e env) :: starEach es env := by
  cases e <;> first | rfl | exact absurd rfl (h _ _)
theorem s_nil : PA X [] (tA X.K xc cf W .nil) := PA.imp pa_nil fun σ H C ⟨ρ, Fs, fr, p⟩ => p.now fr ⟨rfl, rfl⟩
theorem s_cons {es : List Expr} {ees : E} (ha : PE X a (tE X.K xc cf W ea)) (hr : PA X es (tA X.K xc cf W ees)) (hn : ∀ x p, a ≠ .Starred x p) : PA X (a :: es) (tA X.K xc cf W (.cons ea ees)) := by
  refine PA.imp (pa_cons ha hr (plain_star hn)) fun σ H C ⟨ρ, Fs, fr, p⟩ => ⟨ρ, Fs, fr, Post.bind p fun q1 ρ1 _ v1 H1 Fs1 F1 fr1 r1 p1 => ?_⟩
  refine Post.behinds p1 fr1 r1 fun q2 ρ2 v2 H2 Fs2 F2 fr2 r1 r2 d p2 => ?_
  exact p2.nowF (F := F1 ++ F2) fr2 (fun a ha => by
    rcases List.mem_append.mp ha with z | z
    · exact List.mem_append_left _ (List.mem_append_right _ z)
    · exact List.mem_append_right _ z) ⟨v1, v2, F1, F2, rfl, rfl, r1, r2, d⟩
end
end Pv
/-! Pv9: built-in calls, methods, displays, pop. -/
namespace Pv
open PySem PySem.Spec PyProof.Rows L2
section
variable {X : Cx} {xc : Nat → Value} {cf : CallT} {W : WX} {a b : Expr} {ea eb : E} {pos : Pos}
theorem dropV {σ : L2.St} {H : Hp} {x : V} {r : R} {F : List Addr} (h : RepR X.K H x r F) : True := trivial
/-- one argument -/
theorem one_arg {σ : L2.St} {H : Hp} {C : VK} {f : B1} (h : tE X.K xc cf W (.b1 f ea) σ H C) : tCB (rB1 X.K f) (tCons (tE X.K xc cf W ea) tNil) σ H C := by
  obtain ⟨ρ, Fs, fr, p⟩ := h
  refine ⟨ρ, Fs, fr, Post.bind p fun q1 ρ1 _ v1 H1 Fs1 F1 fr1 r1 p1 => ?_⟩
  obtain ⟨r, er, p1⟩ := p1.look (deref_nx _ _)
  obtain ⟨F, h1⟩ := deref_rep fr1 r1 er
  obtain ⟨z, ez, p1⟩ := p1.look (b1op_nx _ _)
  exact ⟨v1, r, z, F, rfl, h1, ez, p1.ans fr1⟩
theorem nilstar (p : Pos) (env : PySem.Env) : (backTo p (starEach [] env)).any (·.1) = false := rfl
theorem s_b1 {x : Str} {p : Pos} (f : B1) (hc : X.calm = true) (hg : Gl X x) (hm : X.mg x = none) (hv : bootBuiltins x = some (b1V f)) (ha : PE X a (tE X.K xc cf W ea)) (hn : x ≠ "__name__") (hdb : (x == ("__debug__" : Str)) = false) (hs : ∀ y p, a ≠ .Starred y p) :
    PE X (.Call (.Name x p) [a] [] pos) (tE X.K xc cf W (.b1 f ea)) := by
  have pa := pa_cons ha pa_nil (plain_star hs)
  refine PE.imp ?_ fun σ H C h => one_arg h
  have k := call_b1 hc f
  cases f with
  | len => exact pe_callB k hg hm hv pa hn hdb (plain_star hs) rfl
  | tuple => exact pe_callTy k hg hm hv pa hn hdb (plain_star hs) rfl
  | list => exact pe_callTy k hg hm hv pa hn hdb (plain_star hs) rfl
  | int => exact pe_callTy k hg hm hv pa hn hdb (plain_star hs) rfl
  | abs => exact pe_callB k hg hm hv pa hn hdb (plain_star hs) rfl
  | sum => exact pe_callB k hg hm hv pa hn hdb (plain_star hs) rfl
  | all => exact pe_callB k hg hm hv pa hn hdb (plain_star hs) rfl
  | any => exact pe_callB k hg hm hv pa hn hdb (plain_star hs) rfl
  | sorted => exact pe_callB k hg hm hv pa hn hdb (plain_star hs) rfl
  | max => exact pe_callB k hg hm hv pa hn hdb (plain_star hs) rfl
  | min => exact pe_callB k hg hm hv pa hn hdb (plain_star hs) rfl
theorem two_args {σ : L2.St} {H : Hp} {C : VK} {f : B2} (h : tE X.K xc cf W (.b2 f ea eb) σ H C) : tCB (rB2 X.K f) (tCons (tE X.K xc cf W ea) (tCons (tE X.K xc cf W eb) tNil)) σ H C := by
  obtain ⟨ρ, Fs, fr, p⟩ := h
  refine ⟨ρ, Fs, fr, Post.bind p fun q1 ρ1 _ v1 H1 Fs1 F1 fr1 r1 p1 => ?_⟩
  refine Post.behind p1 fr1 r1 fun q2 ρ2 v2 H2 Fs2 F2 fr2 r1 r2 _ p2 => ?_
  obtain ⟨r, s, F, F', er, h1, h2, p2⟩ := two fr2 r1 r2 p2
  obtain ⟨z, ez, p2⟩ := p2.look (b2op_nx _ _ _)
  exact ⟨v1, v2, r, s, z, F, F', rfl, h1, h2, ez, p2.ans fr2⟩
theorem s_b2 {x : Str} {p : Pos} (f : B2) (hc : X.calm = true) (hg : Gl X x) (hm : X.mg x = none) (hv : bootBuiltins x = some (b2V f)) (ha : PE X a (tE X.K xc cf W ea)) (hb : PE X b (tE X.K xc cf W eb)) (hn : x ≠ "__name__") (hdb : (x == ("__debug__" : Str)) = false)
    (hs : ∀ y p, a ≠ .Starred y p) (hs2 : ∀ y p, b ≠ .Starred y p) : PE X (.Call (.Name x p) [a, b] [] pos) (tE X.K xc cf W (.b2 f ea eb)) := by
  have pb := pa_cons hb pa_nil (plain_star hs2)
  have pa := pa_cons ha pb (plain_star hs)
  refine PE.imp ?_ fun σ H C h => two_args h
  have k := call_b2 hc f
  have hp : (backTo pos (starEach [b] X.env)).any (·.1) = false := by rw [plain_star hs2]; rfl
  cases f with
  | max => exact pe_callB k hg hm hv pa hn hdb (plain_star hs) hp
  | min => exact pe_callB k hg hm hv pa hn hdb (plain_star hs) hp
theorem s_isi {t : Ty} {tn : Str} {p p2 : Pos} (hg : Gl X "isinstance") (hm : X.mg "isinstance" = none) (hv : bootBuiltins "isinstance" = some (.builtin "isinstance")) (hgt : Gl X tn) (hmt : X.mg tn = none) (hvt : bootBuiltins tn = some (.type (tyN t))) (hnt : tn ≠ "__name__") (hdt : (tn == ("__debug__" : Str)) = false)
    (ha : PE X a (tE X.K xc cf W ea)) (hs : ∀ y p, a ≠ .Starred y p) : PE X (.Call (.Name "isinstance" p) [a, .Name tn p2] [] pos) (tE X.K xc cf W (.isi ea t)) := by
  have hb : PE X (.Name tn p2) (tC (.ty (tyN t))) := pe_bltn hgt hmt hvt (show RelV (.ty (tyN t)) (.type (tyN t)) from rfl) hnt hdt
  have pb := pa_cons hb pa_nil rfl
  have pa := pa_cons ha pb (plain_star hs)
  refine PE.imp (pe_callB (call_is t) hg hm hv pa (by decide) (by decide) (plain_star hs) rfl) fun σ H C ⟨ρ, Fs, fr, p⟩ => ?_
  refine ⟨ρ, Fs, fr, Post.bind p fun q1 ρ1 _ v1 H1 Fs1 F1 fr1 r1 p1 => ?_⟩
  obtain ⟨r, er, p1⟩ := p1.look (deref_nx _ _)
  obtain ⟨F, h1⟩ := deref_rep fr1 r1 er
  exact ⟨v1, r, F, rfl, h1, p1.g fr1 rfl⟩
/-! ### methods that only look -/
theorem recv_nx (r : R) : ∀ c, recv r ≠ .exc c := by
  intro c h
  unfold recv at h
  split at h <;> cases h
theorem mthop2_nx (l : Bool) (m : M1) (r s : R) : ∀ c, mthop2 l m r s ≠ .exc c := by
  intro c h
  unfold mthop2 at h
  split at h
  · exact mthop_nx _ _ _ c h
  · cases h
theorem SqD.ob {K : PySem.W.Frag} {H : Hp} {a : Addr} {ws : List V} {pins : List (Addr × Obj)} {s : Shared} {σ : L2.St} (hK : X.K = K) (I : Inv X pins σ H s) (h : SqD K H a ws) : ∃ ob, s.heap.get? a = some ob ∧ ob.dict = none := by
  subst hK
  rcases h with ⟨o, h, d⟩ | ⟨o, its, n, h1, h2, d, h3⟩
  · have := I.hok a _ h
    exact ⟨o, this.1, d⟩
  · exact ⟨o, I.kIn a o h1, d⟩
theorem tyv_of {H : Hp} {x : V} {r : R} {F : List Addr} {u : Value} {pins : List (Addr × Obj)} {s : Shared} {σ : L2.St} (I : Inv X pins σ H s) (h : RepR X.K H x r F) (rx : RelV x u) (hr : items? r ≠ none) :
    s.TypeIs u (if isL r then "list" else "tuple") ∧ ∀ a, u = .ref a → ∃ ob, s.heap.get? a = some ob ∧ ob.dict = none := by
  cases r with
  | lst xs =>
    obtain ⟨a, ws, F', rfl, s1, g1, _⟩ := h
    cases rx
    obtain ⟨its, rv, hl, _⟩ := I.list s1
    refine ⟨hl.isList.typeIs, fun a e => ?_⟩
    cases e
    obtain ⟨o, n, e, c, hd, _⟩ := hl
    exact ⟨o, e, hd⟩
  | g r =>
    cases r <;> simp only [items?, ne_eq, not_true_eq_false] at hr
    obtain ⟨a, ws, rfl, s1, g1⟩ := rep_tup h.1
    cases rx
    obtain ⟨its, rv, hl, _⟩ := I.tuple s1.t
    refine ⟨hl.typeIs, fun a e => ?_⟩
    cases e
    exact s1.ob rfl I
theorem s_mth {apos cpos : Pos} (hu : X.A.units + 66 < cLine) (m : M1) (ha : PE X a (tE X.K xc cf W ea)) (hb : PE X b (tE X.K xc cf W eb)) (hs : ∀ y p, b ≠ .Starred y p) (hbase : attributeBase a (mN m) X.env (eval a X.env) = eval a X.env) (hline : (apos.endLine == cpos.line) = true) :
    PE X (.Call (.Attribute a (mN m) apos) [b] [] cpos) (tE X.K xc cf W (.mth m ea eb)) := by
  refine ⟨fun pins s σ H C I ⟨ρ, Fs, fr, p⟩ => ?_⟩
  have hst := plain_star (es := []) (env := X.env) hs
  have hfew : ((backTo cpos (starEach [b] X.env)).all (fun x => !x.1) && (backToKw cpos (keywordEach [] X.env)).all (fun x => x.1.isSome)
      && decide (([b] : List Expr).length + ([] : List Keyword).length + (if ([] : List Keyword).isEmpty then 0 else 1) < 30)) = true := by rw [hst]; rfl
  let C1 : VK := fun x H1 => ∃ r F1, RepR X.K H1 x r F1 ∧ items? r ≠ none ∧ tE X.K xc cf W eb σ H1 fun y H2 => rM1 X.K m (isL r) x [y] H2 C
  have h1 : tE X.K xc cf W ea σ H C1 := by
    refine ⟨ρ, Fs, fr, Post.bind p fun q1 ρ1 _ v1 H1 Fs1 F1 fr1 r1 p1 => ?_⟩
    obtain ⟨r0, e0, p1⟩ := p1.look (deref_nx _ _)
    obtain ⟨l0, el, p1⟩ := p1.look (recv_nx _)
    obtain ⟨F0, h0⟩ := deref_rep fr1 r1 e0
    have hl : items? r0 ≠ none ∧ l0 = isL r0 := by
      unfold recv at el
      split at el
      · rename_i e; cases el; exact ⟨by rw [e]; simp, rfl⟩
      · cases el
    refine ⟨r0, F0, h0, hl.1, ?_⟩
    refine Post.behind p1 fr1 r1 fun q2 ρ2 v2 H2 Fs2 F2 fr2 r1 r2 _ p2 => ?_
    obtain ⟨r, s, F, F', er, h1, h2, p2⟩ := two fr2 r1 r2 p2
    obtain ⟨z, ez, p2⟩ := p2.look (mthop2_nx _ _ _ _)
    have hz : isL r = l0 ∧ mthop m r s = .ok z := by
      unfold mthop2 at ez
      split at ez
      · exact ⟨‹_›, ez⟩
      · cases ez
    exact ⟨v2, r, s, z, F, F', rfl, h1, hl.2 ▸ hz.1, h2, hz.2, p2.ans fr2⟩
  refine wpAny_Call_method_late hbase hfew hline rfl (thn (ha.run pins s σ H _ I h1) fun v s1 ⟨x, H1, I1, r1, r, F1, hr, hi, q1⟩ => ?_)
  have ty := tyv_of I1 hr r1 hi
  have hA := pa_cons hb pa_nil (plain_star hs)
  have hA := hA.run cpos pins s1 σ H1 (fun vs H2 => rM1 X.K m (isL r) x vs H2 C) I1 q1
  rw [hst] at hA ⊢
  have fin : ∀ (bb : Bool), isL r = bb → wpAny (model X.prog X.w) X.A (callWith cpos (.builtin (mId m bb)) [v] (backTo cpos [(false, eval b X.env)]) []) (EP X pins σ C) X.xe s1 := fun bb eb =>
    Calls.callWith_builtin rfl (Calls.evalArgs_plain (thn hA fun us s2 ⟨vs, H2, I2, r2, q2⟩ => mt_m1 hu m bb pins s2 σ H2 x vs v us C I2 r1 r2 (eb ▸ q2)))
  cases e : isL r with
  | true =>
    rw [e] at ty
    cases m with
    | index => exact ⟨"list", _, PySem.F.plainAttrs_list, PySem.F.slot_list_index, PySem.F.type_list_index, ty.1, ty.2, fin true e⟩
    | count => exact ⟨"list", _, PySem.F.plainAttrs_list, PySem.F.slot_list_count, PySem.F.type_list_count, ty.1, ty.2, fin true e⟩
  | false =>
    rw [e] at ty
    cases m with
    | index => exact ⟨"tuple", _, PySem.F.plainAttrs_tuple, PySem.F.slot_tuple_index, PySem.F.type_tuple_index, ty.1, ty.2, fin false e⟩
    | count => exact ⟨"tuple", _, PySem.F.plainAttrs_tuple, PySem.F.slot_tuple_count, PySem.F.type_tuple_count, ty.1, ty.2, fin false e⟩
end
end Pv
/-! Pv10: frames taken apart; displays, pop. -/
namespace Pv
open PySem PySem.Spec PyProof.Rows L2
structure FrM (K : PySem.W.Frag) (H : Hp) (σ : L2.St) (ρ : Env) (Fs : Nat → List Addr) (M : Addr → Prop) : Prop where
  sl : ∀ j, SlotOk K H M (Vat σ j) (slotAt ρ j) (Fs j)
  nd : ∀ j, (Fs j).Nodup
  dj : ∀ i j a, a ∈ Fs i → a ∈ Fs j → i = j
def updF (Fs : Nat → List Addr) (j : Nat) (F : List Addr) : Nat → List Addr := fun i => if i = j then F else Fs i
theorem updF_mem {Fs : Nat → List Addr} {j : Nat} {F : List Addr} {a : Addr} (h : Mem (updF Fs j F) a) : Mem Fs a ∨ a ∈ F := by
  obtain ⟨i, hi⟩ := h
  unfold updF at hi
  split at hi
  · exact .inr hi
  · exact .inl ⟨i, hi⟩
section
variable {K : PySem.W.Frag} {H H' H0 H1 : Hp} {σ : L2.St} {ρ ρ' ρ0 ρ1 : Env} {Fs Fs' Fs0 Fs1 : Nat → List Addr} {M M' D : Addr → Prop} {v : V} {q : Q} {F F1 : List Addr} {w : Option V} {s : Slot}
theorem SlotOk.imp (h : SlotOk K H M w s F) (hM : ∀ a, M' a → M a) : SlotOk K H M' w s F := by
  cases s with
  | bor r => obtain ⟨e, v, F', e1, r1, n⟩ := h; exact ⟨e, v, F', e1, r1, fun a ha z => n a ha (hM a z)⟩
  | _ => exact h
theorem FrM.imp (h : FrM K H σ ρ Fs M) (hM : ∀ a, M' a → M a) : FrM K H σ ρ Fs M' := ⟨fun j => (h.sl j).imp hM, h.nd, h.dj⟩
theorem FrM.fr (h : FrM K H σ ρ Fs M) (hM : ∀ a, Mem Fs a → M a) : Fr K H σ ρ Fs := ⟨fun j => (h.sl j).imp hM, h.nd, h.dj⟩
theorem Fr.m (h : Fr K H σ ρ Fs) : FrM K H σ ρ Fs (Mem Fs) := ⟨h.sl, h.nd, h.dj⟩
theorem SlotOk.keep (h : SlotOk K H M w s F) (hl : ∀ b, D b → ∃ xs, H b = some (.lst xs)) (k : ∀ b o, ¬ D b → H b = some o → H' b = some o) (n : ∀ a ∈ F, ¬ D a) (hD : ∀ a, D a → M a) : SlotOk K H' M w s F := by
  cases s with
  | no => exact h
  | own r => obtain ⟨v, e, r1⟩ := h; exact ⟨v, e, r1.keep hl k n⟩
  | arg r => obtain ⟨v, e, r1⟩ := h; exact ⟨v, e, r1.keep hl k n⟩
  | bor r => obtain ⟨e, v, F', e1, r1, n'⟩ := h; exact ⟨e, v, F', e1, r1.keep hl k fun a ha z => n' a ha (hD a z), n'⟩
theorem FrM.keep (h : FrM K H σ ρ Fs M) (hl : ∀ b, D b → ∃ xs, H b = some (.lst xs)) (k : ∀ b o, ¬ D b → H b = some o → H' b = some o) (n : ∀ a, Mem Fs a → ¬ D a) (hD : ∀ a, D a → M a) : FrM K H' σ ρ Fs M :=
  ⟨fun j => (h.sl j).keep hl k (fun a ha => n a ⟨j, ha⟩) hD, h.nd, h.dj⟩
theorem SlotOk.own (h : SlotOk K H M w s F) : ∀ a ∈ F, ∃ xs, H a = some (.lst xs) := by
  cases s with
  | no => rw [show F = [] from h]; exact fun a ha => nomatch ha
  | own r => obtain ⟨v, e, r1⟩ := h; exact r1.own
  | arg r => obtain ⟨v, e, r1⟩ := h; exact r1.own
  | bor r => rw [h.1]; exact fun a ha => nomatch ha
theorem FrM.own (h : FrM K H σ ρ Fs M) : ∀ a, Mem Fs a → ∃ xs, H a = some (.lst xs) := fun a ⟨j, hj⟩ => (h.sl j).own a hj
/-- slots that are lent stay clear of all that is new -/
theorem Fr.strong (fr0 : Fr K H0 σ ρ0 Fs0) (fr1 : Fr K H1 σ ρ1 Fs1) (st : Stp (Mem Fs0) (Mem Fs1) H0 H1) (kd : Kd ρ0 ρ1) : FrM K H1 σ ρ1 Fs1 (fun a => Mem Fs0 a ∨ H0 a = none) := by
  refine ⟨fun j => ?_, fr1.nd, fr1.dj⟩
  have k := kd.2 j
  have h := fr1.sl j
  have h0 := fr0.sl j
  cases e : slotAt ρ0 j with
  | no => rw [e] at k; rw [show slotAt ρ1 j = .no from k] at h ⊢; exact h
  | own r => rw [e] at k; obtain ⟨r', k⟩ := k; rw [k] at h ⊢; exact h
  | arg r => rw [e] at k; obtain ⟨r', k⟩ := k; rw [k] at h ⊢; exact h
  | bor r =>
    rw [e] at k h0
    rw [show slotAt ρ1 j = .bor r from k] at h ⊢
    obtain ⟨_, v, F', e1, r1, n⟩ := h0
    exact ⟨h.1, v, F', e1, r1.keep fr0.own st.keep n, fun a ha z => z.elim (n a ha) (r1.live a ha)⟩
theorem slotAt_set (ρ : Env) (j i : Nat) (s : Slot) : slotAt (ρ.set j s) i = if i = j ∧ j < ρ.length then s else slotAt ρ i := by
  unfold slotAt
  rw [List.getD_eq_getElem?_getD, List.getD_eq_getElem?_getD, List.getElem?_set]
  by_cases h : j = i
  · subst h
    by_cases hl : j < ρ.length
    · simp [hl]
    · simp [hl, List.getElem?_eq_none (Nat.le_of_not_lt hl)]
  · rw [if_neg h, if_neg (fun z => h z.1.symm)]
theorem slotAt_lt {j : Nat} (h : slotAt ρ j ≠ .no) : j < ρ.length := by
  rcases Nat.lt_or_ge j ρ.length with q | q
  · exact q
  · refine absurd ?_ h
    unfold slotAt
    rw [List.getD_eq_getElem?_getD, List.getElem?_eq_none q]; rfl
theorem SlotOk.nil (hs : s = .no) : SlotOk K H M w s [] := by subst hs; exact rfl
/-- a slot is set -/
theorem FrM.put (h : FrM K H σ ρ Fs M) {j : Nat} (hs : SlotOk K H M (Vat σ j) s F) (nd : F.Nodup) (hd : ∀ i, i ≠ j → ∀ a ∈ Fs i, a ∉ F) : ∃ Fs', FrM K H σ (ρ.set j s) Fs' M ∧ (∀ a, Mem Fs' a → (∃ i, i ≠ j ∧ a ∈ Fs i) ∨ a ∈ F) ∧ (j < ρ.length → Fs' = updF Fs j F) := by
  by_cases hl : j < ρ.length
  · refine ⟨updF Fs j F, ⟨fun i => ?_, fun i => ?_, fun i k a hi hk => ?_⟩, fun a ⟨i, hi⟩ => ?_, fun _ => rfl⟩
    · rw [slotAt_set]
      unfold updF
      by_cases e : i = j
      · subst e; rw [if_pos ⟨rfl, hl⟩, if_pos rfl]; exact hs
      · rw [if_neg (fun z => e z.1), if_neg e]; exact h.sl i
    · unfold updF; split
      · exact nd
      · exact h.nd i
    · unfold updF at hi hk
      split at hi <;> split at hk
      · subst_vars; rfl
      · exact absurd hi (hd k ‹_› a hk)
      · exact absurd hk (hd i ‹_› a hi)
      · exact h.dj i k a hi hk
    · unfold updF at hi
      split at hi
      · exact .inr hi
      · exact .inl ⟨i, ‹_›, hi⟩
  · refine ⟨Fs, ?_, fun a ⟨i, hi⟩ => ?_, fun z => absurd z hl⟩
    · rw [List.set_eq_of_length_le (Nat.le_of_not_lt hl)]; exact h
    · by_cases e : i = j
      · subst e
        have z := h.sl i
        have : slotAt ρ i = .no := by
          unfold slotAt
          rw [List.getD_eq_getElem?_getD, List.getElem?_eq_none (Nat.le_of_not_lt hl)]; rfl
        rw [this] at z
        rw [show Fs i = [] from z] at hi; cases hi
      · exact .inl ⟨i, e, hi⟩
/-- .. a slot that is there -/
theorem FrM.put1 (h : FrM K H σ ρ Fs M) {j : Nat} (hl : j < ρ.length) (hs : SlotOk K H M (Vat σ j) s F) (nd : F.Nodup) (hd : ∀ i, i ≠ j → ∀ a ∈ Fs i, a ∉ F) : FrM K H σ (ρ.set j s) (updF Fs j F) M := by
  obtain ⟨Fs', h1, _, h2⟩ := h.put hs nd hd
  rw [← h2 hl]; exact h1
/-- the list in a slot -/
theorem mutL_some {j : Nat} {xs : List R} (hm : mutL ρ j = some xs) : slotAt ρ j = .own (.lst xs) ∨ slotAt ρ j = .arg (.lst xs) := by
  unfold mutL at hm
  split at hm
  · rename_i e; cases hm; exact .inl e
  · rename_i e; cases hm; exact .inr e
  · cases hm
theorem FrM.mut (h : FrM K H σ ρ Fs M) {j : Nat} {xs : List R} (hm : mutL ρ j = some xs) : ∃ a ws F', Vat σ j = some (.ref a) ∧ H a = some (.lst ws) ∧ RepOs K H ws xs F' ∧ Fs j = a :: F' := by
  have z := h.sl j
  rcases mutL_some hm with e | e <;> rw [e] at z
  · obtain ⟨v, e1, a, ws, F', rfl, h1, h2, h3⟩ := z; exact ⟨a, ws, F', e1, h1, h2, h3⟩
  · obtain ⟨v, e1, a, ws, F', rfl, h1, h2, h3⟩ := z; exact ⟨a, ws, F', e1, h1, h2, h3⟩
/-- .. has been changed -/
theorem FrM.putd (h : FrM K H σ ρ Fs M) (hM : ∀ a, Mem Fs a → M a) {j : Nat} {xs ys : List R} {a : Addr} {ws' : List V} (hm : mutL ρ j = some xs) (ha : Vat σ j = some (.ref a)) (hj : a ∈ Fs j) (hr : RepOs K (upd H a (.lst ws')) ws' ys F1) (nd : (a :: F1).Nodup)
    (hd : ∀ i, i ≠ j → ∀ b ∈ F1, b ∉ Fs i) : FrM K (upd H a (.lst ws')) σ (putL ρ j ys) (updF Fs j (a :: F1)) M := by
  have hlt : j < ρ.length := slotAt_lt (fun e => by rcases mutL_some hm with z | z <;> rw [z] at e <;> cases e)
  obtain ⟨zs, hz⟩ := h.own a ⟨j, hj⟩
  have hl : ∀ b, b = a → ∃ xs, H b = some (.lst xs) := fun b e => ⟨zs, by rw [e]; exact hz⟩
  have k : ∀ b o, ¬ b = a → H b = some o → upd H a (.lst ws') b = some o := fun b o n e => by rw [upd_ne n]; exact e
  have hD : ∀ b, b = a → M b := fun b e => by subst e; exact hM _ ⟨j, hj⟩
  have hs : SlotOk K (upd H a (.lst ws')) M (Vat σ j) (slotAt (putL ρ j ys) j) (a :: F1) := by
    have o : RepO K (upd H a (.lst ws')) (.ref a) (.lst ys) (a :: F1) := ⟨a, ws', F1, rfl, upd_same, hr, rfl⟩
    rcases mutL_some hm with e | e
    · unfold putL; rw [e]; rw [slotAt_set, if_pos ⟨rfl, hlt⟩]; exact ⟨_, ha, o⟩
    · unfold putL; rw [e]; rw [slotAt_set, if_pos ⟨rfl, hlt⟩]; exact ⟨_, ha, o⟩
  have hne : ∀ i, i ≠ j → slotAt (putL ρ j ys) i = slotAt ρ i := fun i n => by
    unfold putL; split <;> rw [slotAt_set, if_neg (fun z => n z.1)]
  refine ⟨fun i => ?_, fun i => ?_, fun i k b hi hk => ?_⟩
  · unfold updF
    by_cases e : i = j
    · subst e; rw [if_pos rfl]; exact hs
    · rw [if_neg e, hne i e]
      exact (h.sl i).keep (D := (· = a)) hl k (fun b hb e' => by subst e'; exact e (h.dj _ _ _ hb hj)) hD
  · unfold updF; split
    · exact nd
    · exact h.nd i
  · have hd' : ∀ i, i ≠ j → ∀ b ∈ Fs i, b ∉ a :: F1 := fun i n b hb z => by
      rcases List.mem_cons.mp z with q | q
      · subst q; exact n (h.dj _ _ _ hb hj)
      · exact hd i n b q hb
    unfold updF at hi hk
    split at hi <;> split at hk
    · subst_vars; rfl
    · exact absurd hi (hd' k ‹_› b hk)
    · exact absurd hk (hd' i ‹_› b hi)
    · exact h.dj i k b hi hk
theorem putL_kd (ρ : Env) (j : Nat) {xs : List R} (hm : mutL ρ j = some xs) (ys : List R) : Kd ρ (putL ρ j ys) := by
  refine ⟨by unfold putL; split <;> simp, fun i => ?_⟩
  unfold putL
  rcases mutL_some hm with e | e <;> rw [e] <;> simp only [slotAt_set]
  · split
    · rename_i z; rw [z.1, e]; exact ⟨_, rfl⟩
    · exact Kd1.refl _
  · split
    · rename_i z; rw [z.1, e]; exact ⟨_, rfl⟩
    · exact Kd1.refl _
/-! ### parts of a list -/
theorem dropLast_erase {α : Type} : ∀ {xs : List α} {i : Nat}, xs.length = i + 1 → xs.dropLast = xs.eraseIdx i
  | [_], 0, _ => rfl
  | a :: b :: r, 0, h => by simp at h
  | [_], i + 1, h => by simp at h
  | a :: b :: r, i + 1, h => by
    have := dropLast_erase (xs := b :: r) (i := i) (by simpa using h)
    rw [List.eraseIdx_cons_succ, ← this]; rfl
theorem RepOs.erase : ∀ {xs : List R} {ws : List V} {F : List Addr} {m : Nat} {x : R}, RepOs K H ws xs F → xs[m]? = some x → ∃ w Fx F1, ws[m]? = some w ∧ RepO K H w x Fx ∧ RepOs K H (ws.eraseIdx m) (xs.eraseIdx m) F1 ∧ F.Perm (Fx ++ F1)
  | [], _, _, _, _, _, e => by simp at e
  | y :: xs, _, _, 0, x, h, e => by
    obtain ⟨w, r, F1, F2, rfl, h1, h2, rfl⟩ := h
    simp at e; subst e
    exact ⟨w, F1, F2, rfl, h1, h2, .refl _⟩
  | y :: xs, _, _, m + 1, x, h, e => by
    obtain ⟨w, r, F1, F2, rfl, h1, h2, rfl⟩ := h
    obtain ⟨u, Fx, F3, e1, q1, q2, q3⟩ := RepOs.erase h2 (by simpa using e)
    exact ⟨u, Fx, F1 ++ F3, by simpa using e1, q1, ⟨w, _, F1, F3, rfl, h1, q2, rfl⟩, (q3.append_left F1).trans (by
      rw [← List.append_assoc, ← List.append_assoc]; exact (List.perm_append_comm).append_right F3)⟩
theorem RepOs.len : ∀ {xs : List R} {ws : List V} {F : List Addr}, RepOs K H ws xs F → ws.length = xs.length
  | [], _, _, h => by rw [h.1]; rfl
  | _ :: xs, _, _, h => by
    obtain ⟨w, r, F1, F2, e, _, h2, _⟩ := h
    subst e
    simp [RepOs.len h2]
theorem last_get {α : Type} (xs : List α) {x : α} (h : xs.getLast? = some x) : xs[xs.length - 1]? = some x ∧ xs.dropLast = xs.eraseIdx (xs.length - 1) := by
  refine ⟨by rw [← List.getLast?_eq_getElem?]; exact h, ?_⟩
  cases xs with
  | nil => cases h
  | cons a l => exact dropLast_erase (by simp)
end
section
variable {X : Cx} {xc : Nat → Value} {cf : CallT} {W : WX} {a b : Expr} {ea eb : E} {pos : Pos}
theorem QReps.gs {K : PySem.W.Frag} {H : Hp} {σ : L2.St} {Fs : Nat → List Addr} : ∀ {qs : List Q} {vs : List V} {F : List Addr} {gs : List G}, QReps K H σ Fs vs qs F → gsOf qs = some gs → RepGs K H vs gs ∧ F = []
  | [], _, _, _, h, e => by cases e; exact h
  | .v (.g x) :: qs, _, _, _, h, e => by
    obtain ⟨v, r, F1, F2, rfl, rfl, h1, h2, _⟩ := h
    simp only [gsOf, Option.map_eq_some_iff] at e
    obtain ⟨zs, ez, rfl⟩ := e
    obtain ⟨q1, q2⟩ := QReps.gs h2 ez
    exact ⟨⟨v, r, rfl, h1.1.1, q1⟩, by rw [q2, h1.1.2]; rfl⟩
  | .v (.lst _) :: _, _, _, _, _, e => by cases e
  | .s _ :: _, _, _, _, _, e => by cases e
  | .b _ :: _, _, _, _, _, e => by cases e
theorem QReps.rs {K : PySem.W.Frag} {H : Hp} {σ : L2.St} {Fs : Nat → List Addr} : ∀ {qs : List Q} {vs : List V} {F : List Addr} {gs : List R}, QReps K H σ Fs vs qs F → rsOf qs = some gs → RepOs K H vs gs F ∧ F.Nodup ∧ ∀ a ∈ F, ¬ Mem Fs a
  | [], _, _, _, h, e => by cases e; exact ⟨h, by rw [h.2]; exact .nil, by rw [h.2]; exact fun a ha => nomatch ha⟩
  | .v x :: qs, _, _, _, h, e => by
    obtain ⟨v, r, F1, F2, rfl, rfl, h1, h2, d⟩ := h
    simp only [rsOf, Option.map_eq_some_iff] at e
    obtain ⟨zs, ez, rfl⟩ := e
    obtain ⟨q1, q2, q3⟩ := QReps.rs h2 ez
    refine ⟨⟨v, r, F1, F2, rfl, h1.1, q1, rfl⟩, List.nodup_append.mpr ⟨h1.2.1, q2, fun a ha b hb e => by subst e; exact d a ha hb⟩, fun a ha => ?_⟩
    rcases List.mem_append.mp ha with z | z
    · exact h1.2.2 a z
    · exact q3 a z
  | .s _ :: _, _, _, _, _, e => by cases e
  | .b _ :: _, _, _, _, _, e => by cases e
/-! ### displays -/
theorem s_tup {es : List Expr} {ees : E} {x1} (ha : PA X es (tA X.K xc cf W ees)) : PE X (.Tuple es x1 pos) (tE X.K xc cf W (.tup ees)) := by
  refine PE.imp (pe_tupD ha) fun σ H C ⟨ρ, Fs, fr, p⟩ => ?_
  refine ⟨ρ, Fs, fr, Post.bind p fun qs ρ1 _ vs H1 Fs1 F1 fr1 r1 p1 => ?_⟩
  have r1 : QReps X.K H1 σ Fs1 vs qs F1 := r1
  cases e : gsOf qs with
  | none => simp only [e] at p1; exact False.elim p1
  | some gs =>
    simp only [e] at p1
    split at p1
    · rename_i hz
      obtain ⟨g1, _⟩ := r1.gs e
      refine ⟨by rw [g1.len, ← line_eq]; exact hz, fun p o hp hd => ?_⟩
      have x := Ext.new (o := .frz o (.tup vs)) hp
      exact p1.ans fr1 (.ref p) _ [] x ⟨⟨p, vs, rfl, .inl ⟨o, upd_same, hd⟩, g1.ext x⟩, rfl⟩ .nil (fun a ha => nomatch ha)
    · exact False.elim p1
theorem s_lst {es : List Expr} {ees : E} (ha : PA X es (tA X.K xc cf W ees)) : PE X (.List es pos) (tE X.K xc cf W (.lst ees)) := by
  refine PE.imp (pe_lst ha) fun σ H C ⟨ρ, Fs, fr, p⟩ => ?_
  refine ⟨ρ, Fs, fr, Post.bind p fun qs ρ1 _ vs H1 Fs1 F1 fr1 r1 p1 => ?_⟩
  have r1 : QReps X.K H1 σ Fs1 vs qs F1 := r1
  cases e : rsOf qs with
  | none => simp only [e] at p1; exact False.elim p1
  | some rs =>
    simp only [e] at p1
    split at p1
    · rename_i hz
      obtain ⟨o1, nd, nm⟩ := r1.rs e
      refine ⟨by rw [o1.len, ← line_eq]; exact hz, fun p hp => ?_⟩
      have x := Ext.new (o := .lst vs) hp
      have hpF : p ∉ F1 := fun z => by obtain ⟨xs, e⟩ := o1.own p z; rw [hp] at e; cases e
      refine p1 (.ref p) _ Fs1 (p :: F1) (fr1.ext x) (Stp.ext x fun a z => .inl z) (fun a ha => ?_) (Kd.refl ρ1) ⟨⟨p, vs, F1, rfl, upd_same, o1.ext x, rfl⟩, List.nodup_cons.mpr ⟨hpF, nd⟩, fun a ha z => ?_⟩
      · rcases List.mem_cons.mp ha with q | q
        · subst q; exact .inr (.inr hp)
        · exact .inr (.inl q)
      · rcases List.mem_cons.mp ha with q | q
        · subst q
          obtain ⟨xs, e⟩ := fr1.own _ z
          rw [hp] at e; cases e
        · exact nm a q z
    · exact False.elim p1
/-! ### pop -/
theorem Post.popped {α : Type} {K : PySem.W.Frag} {H : Hp} {σ : L2.St} {ρ : Env} {Fs : Nat → List Addr} {T : List Addr} {C : VK} {j m : Nat} {xs : List R} {x : R} (p : Post K xc W σ (rpQ K σ) ρ Fs T H C (.ok (.v x, putL ρ j (xs.eraseIdx m)))) (fr : Fr K H σ ρ Fs) (hm : mutL ρ j = some xs) (hx : xs[m]? = some x) :
    ∃ a ws w, Vat σ j = some (.ref a) ∧ H a = some (.lst ws) ∧ ws.length = xs.length ∧ ws[m]? = some w ∧ C w (upd H a (.lst (ws.eraseIdx m))) := by
  obtain ⟨a, ws, F', hv, hH, ho, hF⟩ := fr.m.mut hm
  obtain ⟨w, Fx, F1, hw, hx1, ho1, pm⟩ := ho.erase hx
  refine ⟨a, ws, w, hv, hH, ho.len, hw, ?_⟩
  have nd := fr.nd j
  rw [hF] at nd
  have nd' := (List.nodup_cons.mp nd)
  have nd2 := pm.nodup_iff.mp nd'.2
  have nd3 := List.nodup_append.mp nd2
  have inF : ∀ b, b ∈ Fx ++ F1 → b ∈ F' := fun b hb => pm.mem_iff.mpr hb
  have hl : ∀ b, b = a → ∃ xs, H b = some (.lst xs) := fun b e => ⟨ws, by rw [e]; exact hH⟩
  have k : ∀ b o, ¬ b = a → H b = some o → upd H a (.lst (ws.eraseIdx m)) b = some o := fun b o n e => by rw [upd_ne n]; exact e
  have hnF : ∀ b ∈ Fx ++ F1, ¬ b = a := fun b hb e => by subst e; exact nd'.1 (inF b hb)
  have aj : a ∈ Fs j := by rw [hF]; exact List.mem_cons_self
  have fj : ∀ b ∈ F', b ∈ Fs j := fun b hb => by rw [hF]; exact List.mem_cons_of_mem _ hb
  have ho2 := ho1.keep (M := (· = a)) hl k fun b hb => hnF b (List.mem_append_right _ hb)
  have hx2 := hx1.keep (M := (· = a)) hl k fun b hb => hnF b (List.mem_append_left _ hb)
  have fr2 := fr.m.putd (ys := xs.eraseIdx m) (fun _ h => h) hm hv aj ho2 (List.nodup_cons.mpr ⟨fun z => hnF a (List.mem_append_right _ z) rfl, nd3.2.1⟩) fun i n b hb z => n (fr.dj _ _ _ z (fj b (inF b (List.mem_append_right _ hb))))
  have sub : ∀ b, Mem (updF Fs j (a :: F1)) b → Mem Fs b := fun b z => by
    rcases updF_mem z with z | z
    · exact z
    · rcases List.mem_cons.mp z with q | q
      · subst q; exact ⟨j, aj⟩
      · exact ⟨j, fj b (inF b (List.mem_append_right _ q))⟩
  refine p w _ _ Fx (fr2.fr sub) ⟨fun b o n e => ?_, fun b z => .inl (sub b z)⟩ (fun b hb => .inl ⟨j, fj b (inF b (List.mem_append_left _ hb))⟩) (putL_kd ρ j hm _) ⟨hx2, nd3.1, fun b hb ⟨i, hi⟩ => ?_⟩
  · exact k b o (fun e => by subst e; exact n ⟨j, aj⟩) e
  · have bj := fj b (inF b (List.mem_append_left _ hb))
    unfold updF at hi
    split at hi
    · rcases List.mem_cons.mp hi with q | q
      · exact hnF b (List.mem_append_left _ hb) q
      · exact nd3.2.2 b hb b q rfl
    · exact absurd (fr.dj _ _ _ hi bj) ‹_›
theorem s_pop {j : Nat} {x : Str} {p apos cpos : Pos} (hN : X.N[j]? = some x) (hv : Vis X.env.scope x) (hd : (x == ("__debug__" : Str)) = false) (hcd : (x == ("__classdict__" : Str)) = false)
    (hbase : attributeBase (.Name x p) "pop" X.env (eval (.Name x p) X.env) = eval (.Name x p) X.env) (hline : (apos.endLine == cpos.line) = true) : PE X (.Call (.Attribute (.Name x p) "pop" apos) [] [] cpos) (tE X.K xc cf W (.pop j)) := by
  refine PE.imp (pe_bm0 PySem.F.plainAttrs_list PySem.F.slot_list_pop PySem.F.type_list_pop mt_pop (pe_var hN hv hd hcd) hbase hline) fun σ H C ⟨ρ, Fs, fr, q⟩ => ?_
  have q : Post X.K xc W σ (rpQ X.K σ) ρ Fs [] H C (match mutL ρ j with
    | some xs => (match xs.getLast? with
      | some x => .ok (.v x, putL ρ j xs.dropLast)
      | none => .stuck)
    | none => .stuck) := q
  cases em : mutL ρ j with
  | none => rw [em] at q; exact False.elim q
  | some xs =>
    simp only [em] at q
    cases el : xs.getLast? with
    | none => rw [el] at q; exact False.elim q
    | some y =>
      simp only [el] at q
      obtain ⟨l1, l2⟩ := last_get xs el
      rw [l2] at q
      obtain ⟨a, ws, w, hV, hH, hl, hw, c⟩ := Post.popped (α := Unit) q fr em l1
      have hne : ws ≠ [] := fun e => by subst e; simp at hw
      refine ⟨_, vat_some hV, .inl ⟨rfl, ws, .inl (.inl hH)⟩, a, ws, w, rfl, rfl, hH, by rw [hl]; exact hw, ?_⟩
      rw [dropLast_erase (xs := ws) (i := xs.length - 1) (by rw [← hl]; have := List.length_pos_iff.mpr hne; omega)]
      exact c
end
end Pv
/-! Pv11: calls. -/
namespace Pv
open PySem PySem.Spec PyProof.Rows L2
/-- what is left of the arguments -/
def finS : List Slot → List R → List Slot
  | .arg _ :: as, r :: rs => .arg r :: finS as rs
  | _ :: as, rs => .no :: finS as rs
  | [], _ => []
def consF (F : List Addr) (Fa : Nat → List Addr) : Nat → List Addr
  | 0 => F
  | i + 1 => Fa i
/-- what a call leaves -/
def PostF (K : PySem.W.Frag) (xc : Nat → Value) (vs : List V) (as : List Slot) (Fa : Nat → List Addr) (H : Hp) (Q : VK) (E : XK) : Out (R × List R) → Prop
  | .ok x => ∀ v H' Fs' F, Fr K H' (vs.map some) (finS as x.2) Fs' → RepO K H' v x.1 F → F.Nodup → (∀ a ∈ F, ¬ Mem Fs' a) → Stp (Mem Fa) (Mem Fs') H H' → (∀ a ∈ F, Mem Fa a ∨ H a = none) → Q v H'
  | .exc c => ∀ H', (∀ b o, ¬ Mem Fa b → H b = some o → H' b = some o) → E (xc c) none H'
  | .stuck => False
def spF (K : PySem.W.Frag) (xc : Nat → Value) (cf : CallT) (f np : Nat) : Sp := fun vs H Q E => vs.length = np ∧ ∃ as Fa, as.length = np ∧ Fr K H (vs.map some) as Fa ∧ PostF K xc vs as Fa H Q E (cf f as)
section
variable {K : PySem.W.Frag} {H H' H0 H1 H2 : Hp} {σ : L2.St} {ρ ρ' ρ0 ρ1 : Env} {Fs Fs' Fs0 Fs1 Fa Fb : Nat → List Addr} {M M' D : Addr → Prop} {v : V} {q : Q} {F F1 : List Addr} {w : Option V} {s : Slot}
theorem consF_mem {a : Addr} : Mem (consF F Fa) a ↔ a ∈ F ∨ Mem Fa a := by
  constructor
  · rintro ⟨i, hi⟩
    cases i with
    | zero => exact .inl hi
    | succ i => exact .inr ⟨i, hi⟩
  · rintro (h | ⟨i, h⟩)
    · exact ⟨0, h⟩
    · exact ⟨i + 1, h⟩
theorem FrM.nil : FrM K H [] [] (fun _ => []) M := ⟨fun j => rfl, fun _ => .nil, fun _ _ _ h => nomatch h⟩
theorem FrM.cons (h : FrM K H σ ρ Fa M) (hs : SlotOk K H M w s F) (nd : F.Nodup) (d : ∀ a ∈ F, ¬ Mem Fa a) : FrM K H (w :: σ) (s :: ρ) (consF F Fa) M := by
  refine ⟨fun j => ?_, fun j => ?_, fun i j a hi hj => ?_⟩
  · cases j with
    | zero => exact hs
    | succ j => exact h.sl j
  · cases j with
    | zero => exact nd
    | succ j => exact h.nd j
  · cases i with
    | zero => cases j with
      | zero => rfl
      | succ j => exact absurd ⟨j, hj⟩ (d a hi)
    | succ i => cases j with
      | zero => exact absurd ⟨i, hi⟩ (d a hj)
      | succ j => exact congrArg _ (h.dj i j a hi hj)
theorem FrM.tail (h : FrM K H (w :: σ) (s :: ρ) Fa M) : SlotOk K H M w s (Fa 0) ∧ FrM K H σ ρ (fun i => Fa (i + 1)) M ∧ (Fa 0).Nodup ∧ ∀ a ∈ Fa 0, ¬ Mem (fun i => Fa (i + 1)) a :=
  ⟨h.sl 0, ⟨fun j => h.sl (j + 1), fun j => h.nd (j + 1), fun i j a hi hj => Nat.succ.inj (h.dj _ _ a hi hj)⟩, h.nd 0, fun a ha ⟨i, hi⟩ => by cases h.dj 0 (i + 1) a ha hi⟩
theorem QRep.mono (h : QRep K H σ Fs v q F) (hs : ∀ a, Mem Fs' a → Mem Fs a) : QRep K H σ Fs' v q F := by
  cases q with
  | v r => exact ⟨h.1, h.2.1, fun a ha z => h.2.2 a ha (hs a z)⟩
  | s j => exact h
  | b r => exact h
theorem QReps.mono : ∀ {qs : List Q} {vs : List V} {F : List Addr}, QReps K H σ Fs vs qs F → (∀ a, Mem Fs' a → Mem Fs a) → QReps K H σ Fs' vs qs F
  | [], _, _, h, _ => h
  | _ :: _, _, _, h, hs => by
    obtain ⟨v, r, F1, F2, e1, e2, h1, h2, d⟩ := h
    exact ⟨v, r, F1, F2, e1, e2, h1.mono hs, h2.mono hs, d⟩
theorem QRep.out (h : QRep K H σ Fs v q F) : ∀ a ∈ F, ¬ Mem Fs a := by
  cases q with
  | v r => exact h.2.2
  | s j => rw [h.1]; exact fun a ha => nomatch ha
  | b r => rw [h.1]; exact fun a ha => nomatch ha
theorem QReps.out : ∀ {qs : List Q} {vs : List V} {F : List Addr}, QReps K H σ Fs vs qs F → ∀ a ∈ F, ¬ Mem Fs a
  | [], _, _, h => by rw [h.2]; exact fun a ha => nomatch ha
  | _ :: _, _, _, h => by
    obtain ⟨v, r, F1, F2, rfl, rfl, h1, h2, d⟩ := h
    intro a ha
    rcases List.mem_append.mp ha with z | z
    · exact h1.out a z
    · exact h2.out a z
theorem Out.bind_ok {α β : Type} {o : Out α} {f : α → Out β} {z : β} (h : o.bind f = .ok z) : ∃ x, o = .ok x ∧ f x = .ok z := by
  cases o with
  | ok x => exact ⟨x, rfl, h⟩
  | exc c => cases h
  | stuck => cases h
/-- the slots that are handed in and out -/
def tkS : List Q → List Slot → List Nat
  | .s j :: qs, .arg _ :: as => j :: tkS qs as
  | _ :: qs, _ :: as => tkS qs as
  | _, _ => []
theorem toArgs_ok : ∀ (qs : List Q) {vs : List V} {F : List Addr} {ρ : Env} {Fs : Nat → List Addr} {as : List Slot} {ρ' : Env}, FrM K H σ ρ Fs M → QReps K H σ Fs vs qs F → (∀ a, Mem Fs a → M a) → toArgs false qs ρ = .ok (as, ρ') →
    ∃ Fa Fs', FrM K H (vs.map some) as Fa M ∧ FrM K H σ ρ' Fs' M ∧ (∀ a, Mem Fa a → a ∈ F ∨ Mem Fs a) ∧ (∀ a, Mem Fs' a → Mem Fs a) ∧ (∀ a, Mem Fa a → ¬ Mem Fs' a) ∧ as.length = vs.length
  | [], _, _, ρ, Fs, _, _, fr, rq, hM, e => by
    cases e
    obtain ⟨rfl, rfl⟩ := rq
    exact ⟨fun _ => [], Fs, .nil, fr, fun a z => absurd z (nomem a), fun a z => z, fun a z => absurd z (nomem a), rfl⟩
  | .v (.g x) :: qs, _, _, ρ, Fs, _, _, fr, rq, hM, e => by
    obtain ⟨v, r, F1, F2, rfl, rfl, h1, h2, d⟩ := rq
    obtain ⟨y, ey, e⟩ := Out.bind_ok (show ((toArgs false qs ρ).bind fun y => .ok (Slot.own (.g x) :: y.1, y.2)) = .ok _ from e)
    cases e
    obtain ⟨Fa, Fs', a1, a2, a3, a4, a5, a6⟩ := toArgs_ok qs fr h2 hM (show _ = Out.ok (y.1, y.2) from ey)
    refine ⟨consF F1 Fa, Fs', a1.cons ⟨v, rfl, h1.1⟩ h1.2.1 fun a ha z => ?_, a2, fun a z => ?_, a4, fun a z => ?_, by simp [a6]⟩
    · rcases a3 a z with q | q
      · exact d a ha q
      · exact h1.2.2 a ha q
    · rcases consF_mem.mp z with q | q
      · exact .inl (List.mem_append_left _ q)
      · rcases a3 a q with q | q
        · exact .inl (List.mem_append_right _ q)
        · exact .inr q
    · rcases consF_mem.mp z with q | q
      · exact fun z => h1.2.2 a q (a4 a z)
      · exact a5 a q
  | .v (.lst xs) :: qs, _, _, ρ, Fs, _, _, fr, rq, hM, e => by
    obtain ⟨v, r, F1, F2, rfl, rfl, h1, h2, d⟩ := rq
    obtain ⟨y, ey, e⟩ := Out.bind_ok (show ((toArgs false qs ρ).bind fun y => .ok (Slot.own (.lst xs) :: y.1, y.2)) = .ok _ from e)
    cases e
    obtain ⟨Fa, Fs', a1, a2, a3, a4, a5, a6⟩ := toArgs_ok qs fr h2 hM (show _ = Out.ok (y.1, y.2) from ey)
    refine ⟨consF F1 Fa, Fs', a1.cons ⟨v, rfl, h1.1⟩ h1.2.1 fun a ha z => ?_, a2, fun a z => ?_, a4, fun a z => ?_, by simp [a6]⟩
    · rcases a3 a z with q | q
      · exact d a ha q
      · exact h1.2.2 a ha q
    · rcases consF_mem.mp z with q | q
      · exact .inl (List.mem_append_left _ q)
      · rcases a3 a q with q | q
        · exact .inl (List.mem_append_right _ q)
        · exact .inr q
    · rcases consF_mem.mp z with q | q
      · exact fun z => h1.2.2 a q (a4 a z)
      · exact a5 a q
  | .b r :: qs, _, _, ρ, Fs, _, _, fr, rq, hM, e => by cases e
  | .s j :: qs, _, _, ρ, Fs, _, _, fr, rq, hM, e => by
    obtain ⟨v, r, F1, F2, rfl, rfl, h1, h2, d⟩ := rq
    obtain ⟨hF, hv⟩ := h1
    subst hF
    have hs := fr.sl j
    have mv : ∀ {x : R} {as : List Slot} {ρ' : Env}, slotAt ρ j ≠ .no → (RepO K H v x (Fs j)) → ((toArgs false qs (ρ.set j .no)).bind fun y => .ok (Slot.arg x :: y.1, y.2)) = .ok (as, ρ') →
        ∃ Fa Fs', FrM K H ((v :: r).map some) as Fa M ∧ FrM K H σ ρ' Fs' M ∧ (∀ a, Mem Fa a → a ∈ ([] : List Addr) ++ F2 ∨ Mem Fs a) ∧ (∀ a, Mem Fs' a → Mem Fs a) ∧ (∀ a, Mem Fa a → ¬ Mem Fs' a) ∧ as.length = (v :: r).length := fun {x as ρ'} hn ho e => by
      obtain ⟨y, ey, e⟩ := Out.bind_ok e
      cases e
      have fr2 : FrM K H σ (ρ.set j .no) (updF Fs j []) M := fr.put1 (slotAt_lt hn) rfl .nil fun _ _ _ _ z => nomatch z
      have sub : ∀ a, Mem (updF Fs j []) a → Mem Fs a := fun a z => by
        rcases updF_mem z with q | q
        · exact q
        · cases q
      have nj : ∀ a, Mem (updF Fs j []) a → a ∉ Fs j := fun a ⟨i, hi⟩ z => by
        unfold updF at hi
        split at hi
        · cases hi
        · exact absurd (fr.dj _ _ _ hi z) ‹_›
      obtain ⟨Fa, Fs', a1, a2, a3, a4, a5, a6⟩ := toArgs_ok qs fr2 (h2.mono sub) (fun a z => hM a (sub a z)) (show _ = Out.ok (y.1, y.2) from ey)
      refine ⟨consF (Fs j) Fa, Fs', a1.cons ⟨v, rfl, ho⟩ (fr.nd j) fun a ha z => ?_, a2, fun a z => ?_, fun a z => sub a (a4 a z), fun a z => ?_, by simp [a6]⟩
      · rcases a3 a z with q | q
        · exact h2.out a q ⟨j, ha⟩
        · exact nj a q ha
      · rcases consF_mem.mp z with q | q
        · exact .inr ⟨j, q⟩
        · rcases a3 a q with q | q
          · exact .inl q
          · exact .inr (sub a q)
      · rcases consF_mem.mp z with q | q
        · exact fun z => nj a (a4 a z) q
        · exact a5 a q
    cases es : slotAt ρ j with
    | no => simp only [toArgs, es] at e; cases e
    | own x =>
      rw [es] at hs
      obtain ⟨v', ev, ho⟩ := hs
      rw [hv] at ev; cases ev
      simp only [toArgs, es] at e
      exact mv (by rw [es]; exact fun z => nomatch z) ho e
    | arg x =>
      rw [es] at hs
      obtain ⟨v', ev, ho⟩ := hs
      rw [hv] at ev; cases ev
      simp only [toArgs, es] at e
      exact mv (by rw [es]; exact fun z => nomatch z) ho e
    | bor x =>
      rw [es] at hs
      simp only [toArgs, es] at e
      obtain ⟨y, ey, e⟩ := Out.bind_ok e
      cases e
      obtain ⟨Fa, Fs', a1, a2, a3, a4, a5, a6⟩ := toArgs_ok qs fr h2 hM (show _ = Out.ok (y.1, y.2) from ey)
      obtain ⟨h0, v', F', ev, hr, hn⟩ := hs
      rw [hv] at ev; cases ev
      refine ⟨consF [] Fa, Fs', a1.cons ⟨rfl, v, F', rfl, hr, hn⟩ .nil (fun a z => nomatch z), a2, fun a z => ?_, a4, fun a z => ?_, by simp [a6]⟩
      · rcases consF_mem.mp z with q | q
        · cases q
        · exact a3 a q
      · rcases consF_mem.mp z with q | q
        · cases q
        · exact a5 a q
theorem give_ok {old : Env} : ∀ (qs : List Q) {vs : List V} {F : List Addr} {as : List Slot} {rs : List R} {ρc ρ' : Env} {Fs' Fb : Nat → List Addr}, QReps K H0 σ Fs0 vs qs F → FrM K H2 σ ρc Fs' M → FrM K H2 (vs.map some) (finS as rs) Fb M → (∀ a, Mem Fb a → ¬ Mem Fs' a) → giveBack old qs as rs ρc = .ok ρ' →
    ∃ Fs'', FrM K H2 σ ρ' Fs'' M ∧ ∀ a, Mem Fs'' a → Mem Fs' a ∨ Mem Fb a := by
  intro qs
  induction qs with
  | nil =>
    intro vs F as rs ρc ρ' Fs' Fb rq fr fb d e
    cases as with
    | nil => cases rs with
      | nil => cases e; exact ⟨Fs', fr, fun a z => .inl z⟩
      | cons r rs => cases e
    | cons s as => cases e
  | cons q qs ih =>
    intro vs F as rs ρc ρ' Fs' Fb rq fr fb d e
    obtain ⟨v, r, F1, F2, rfl, rfl, h1, h2, _⟩ := rq
    -- a slot that nothing comes back of
    have skip : ∀ {s : Slot} {as' : List Slot}, as = s :: as' → finS (s :: as') rs = .no :: finS as' rs → giveBack old qs as' rs ρc = .ok ρ' → ∃ Fs'', FrM K H2 σ ρ' Fs'' M ∧ ∀ a, Mem Fs'' a → Mem Fs' a ∨ Mem Fb a := fun {s as'} ea ef eg => by
      subst ea
      rw [ef] at fb
      obtain ⟨f1, f2, f3, f4⟩ := fb.tail
      have sub : ∀ a, Mem (fun i => Fb (i + 1)) a → Mem Fb a := fun a ⟨i, hi⟩ => ⟨i + 1, hi⟩
      obtain ⟨Fs'', g1, g2⟩ := ih h2 fr f2 (fun a z => d a (sub a z)) eg
      exact ⟨Fs'', g1, fun a z => (g2 a z).imp_right (sub a)⟩
    cases as with
    | nil => cases q <;> cases e
    | cons s as =>
      have back : ∀ {j : Nat} {x : R}, q = .s j → s = .arg x → ∃ Fs'', FrM K H2 σ ρ' Fs'' M ∧ ∀ a, Mem Fs'' a → Mem Fs' a ∨ Mem Fb a := fun {j x} eq es => by
        subst eq es
        cases rs with
        | nil => cases e
        | cons y rs =>
          have e : giveBack old qs as rs (ρc.set j (likeS (slotAt old j) y)) = .ok ρ' := e
          have fb : FrM K H2 (some v :: r.map some) (.arg y :: finS as rs) Fb M := fb
          obtain ⟨f1, f2, f3, f4⟩ := fb.tail
          obtain ⟨v', ev, ho⟩ := f1
          cases ev
          have hv : Vat σ j = some v := h1.2
          have hs : SlotOk K H2 M (Vat σ j) (likeS (slotAt old j) y) (Fb 0) := by
            unfold likeS
            split
            · exact ⟨v, hv, ho⟩
            · exact ⟨v, hv, ho⟩
          obtain ⟨Fc, c1, c2, _⟩ := fr.put hs f3 fun i n a ha z => d a ⟨0, z⟩ ⟨i, ha⟩
          have sub : ∀ a, Mem (fun i => Fb (i + 1)) a → Mem Fb a := fun a ⟨i, hi⟩ => ⟨i + 1, hi⟩
          obtain ⟨Fs'', g1, g2⟩ := ih h2 c1 f2 (fun a z zz => by
            rcases c2 a zz with ⟨i, _, q⟩ | q
            · exact d a (sub a z) ⟨i, q⟩
            · exact f4 a q z) e
          refine ⟨Fs'', g1, fun a z => ?_⟩
          rcases g2 a z with q | q
          · rcases c2 a q with ⟨i, _, q⟩ | q
            · exact .inl ⟨i, q⟩
            · exact .inr ⟨0, q⟩
          · exact .inr (sub a q)
      cases q with
      | s j => cases s with
        | arg x => exact back rfl rfl
        | bor x => exact skip rfl (by cases rs <;> rfl) (by simpa [giveBack] using e)
        | own x => simp [giveBack] at e
        | no => simp [giveBack] at e
      | v x => cases s with
        | arg x => simp [giveBack] at e
        | bor x => exact skip rfl (by cases rs <;> rfl) (by simpa [giveBack] using e)
        | own x => exact skip rfl (by cases rs <;> rfl) (by simpa [giveBack] using e)
        | no => simp [giveBack] at e
      | b x => cases s with
        | arg x => simp [giveBack] at e
        | bor x => exact skip rfl (by cases rs <;> rfl) (by simpa [giveBack] using e)
        | own x => simp [giveBack] at e
        | no => simp [giveBack] at e
theorem set_kd {old ρc : Env} {j : Nat} {s : Slot} {L L' : List Nat} (hj : Kd1 (slotAt old j) s) (hl : j < ρc.length) (h : ∀ i, Kd1 (slotAt old i) (slotAt ρc i) ∨ i ∈ L) (hL : ∀ i ∈ L, i = j ∨ i ∈ L') : ∀ i, Kd1 (slotAt old i) (slotAt (ρc.set j s) i) ∨ i ∈ L' := fun i => by
  rw [slotAt_set]
  by_cases e : i = j
  · subst e; rw [if_pos ⟨rfl, hl⟩]; exact .inl hj
  · rw [if_neg fun z => e z.1]
    rcases h i with q | q
    · exact .inl q
    · exact .inr ((hL i q).resolve_left e)
theorem give_kd {old : Env} : ∀ (qs : List Q) {as : List Slot} {rs : List R} {ρc ρ' : Env}, giveBack old qs as rs ρc = .ok ρ' → ρc.length = old.length → (∀ j, Kd1 (slotAt old j) (slotAt ρc j) ∨ j ∈ tkS qs as) → (∀ j ∈ tkS qs as, (∃ r, slotAt old j = .own r) ∨ ∃ r, slotAt old j = .arg r) → Kd old ρ' := by
  intro qs
  induction qs with
  | nil =>
    intro as rs ρc ρ' e hl hk ht
    cases as with
    | nil => cases rs with
      | nil => cases e; exact ⟨hl, fun j => (hk j).resolve_right (fun z => by simp [tkS] at z)⟩
      | cons r rs => cases e
    | cons s as => cases e
  | cons q qs ih =>
    intro as rs ρc ρ' e hl hk ht
    cases as with
    | nil => cases q <;> cases e
    | cons s as => cases q with
      | v x => cases s with
        | arg x => simp [giveBack] at e
        | bor x => exact ih (by simpa [giveBack] using e) hl hk ht
        | own x => exact ih (by simpa [giveBack] using e) hl hk ht
        | no => simp [giveBack] at e
      | b x => cases s with
        | arg x => simp [giveBack] at e
        | bor x => exact ih (by simpa [giveBack] using e) hl hk ht
        | own x => simp [giveBack] at e
        | no => simp [giveBack] at e
      | s j => cases s with
        | bor x => exact ih (by simpa [giveBack] using e) hl hk ht
        | own x => simp [giveBack] at e
        | no => simp [giveBack] at e
        | arg x => cases rs with
          | nil => cases e
          | cons y rs =>
            have e : giveBack old qs as rs (ρc.set j (likeS (slotAt old j) y)) = .ok ρ' := e
            have hj := ht j List.mem_cons_self
            refine ih e (by rw [List.length_set]; exact hl) (set_kd ?_ ?_ hk fun i hi => List.mem_cons.mp hi) fun i hi => ht i (List.mem_cons_of_mem _ hi)
            · rcases hj with ⟨r, e⟩ | ⟨r, e⟩ <;> rw [e] <;> exact ⟨_, rfl⟩
            · rw [hl]
              exact slotAt_lt fun z => by rcases hj with ⟨r, e⟩ | ⟨r, e⟩ <;> rw [e] at z <;> cases z
theorem toArgs_kd : ∀ (qs : List Q) {ρ ρ' : Env} {as : List Slot}, toArgs false qs ρ = .ok (as, ρ') → ρ'.length = ρ.length ∧ (∀ j, slotAt ρ' j = slotAt ρ j ∨ j ∈ tkS qs as) ∧ (∀ j ∈ tkS qs as, (∃ r, slotAt ρ j = .own r) ∨ ∃ r, slotAt ρ j = .arg r) := by
  intro qs
  induction qs with
  | nil => intro ρ ρ' as e; cases e; exact ⟨rfl, fun j => .inl rfl, fun j z => by simp [tkS] at z⟩
  | cons q qs ih =>
    intro ρ ρ' as e
    have mv : ∀ {j : Nat} {x : R}, ((∃ r, slotAt ρ j = .own r) ∨ ∃ r, slotAt ρ j = .arg r) → ((toArgs false qs (ρ.set j .no)).bind fun y => .ok (Slot.arg x :: y.1, y.2)) = .ok (as, ρ') →
        ρ'.length = ρ.length ∧ (∀ i, slotAt ρ' i = slotAt ρ i ∨ i ∈ tkS (.s j :: qs) as) ∧ (∀ i ∈ tkS (.s j :: qs) as, (∃ r, slotAt ρ i = .own r) ∨ ∃ r, slotAt ρ i = .arg r) := fun {j x} hj e => by
      obtain ⟨y, ey, e⟩ := Out.bind_ok e
      cases e
      obtain ⟨h1, h2, h3⟩ := ih (show _ = Out.ok (y.1, y.2) from ey)
      refine ⟨by rw [h1, List.length_set], fun i => ?_, fun i hi => ?_⟩
      · by_cases e : i = j
        · subst e; exact .inr List.mem_cons_self
        · rcases h2 i with q | q
          · left; rw [q, slotAt_set, if_neg fun z => e z.1]
          · exact .inr (List.mem_cons_of_mem _ q)
      · rcases List.mem_cons.mp hi with q | q
        · subst q; exact hj
        · have h4 := h3 i q
          rw [slotAt_set] at h4
          split at h4
          · rcases h4 with ⟨r, z⟩ | ⟨r, z⟩ <;> cases z
          · exact h4
    cases q with
    | v r =>
      cases r with
      | g x =>
        obtain ⟨y, ey, e⟩ := Out.bind_ok (show ((toArgs false qs ρ).bind fun y => .ok (Slot.own (.g x) :: y.1, y.2)) = .ok _ from e)
        cases e
        exact ih (show _ = Out.ok (y.1, y.2) from ey)
      | lst xs =>
        obtain ⟨y, ey, e⟩ := Out.bind_ok (show ((toArgs false qs ρ).bind fun y => .ok (Slot.own (.lst xs) :: y.1, y.2)) = .ok _ from e)
        cases e
        exact ih (show _ = Out.ok (y.1, y.2) from ey)
    | b r => cases e
    | s j =>
      cases es : slotAt ρ j with
      | no => simp only [toArgs, es] at e; cases e
      | own x => simp only [toArgs, es] at e; exact mv (.inl ⟨_, es⟩) e
      | arg x => simp only [toArgs, es] at e; exact mv (.inr ⟨_, es⟩) e
      | bor x =>
        simp only [toArgs, es] at e
        obtain ⟨y, ey, e⟩ := Out.bind_ok e
        cases e
        exact ih (show _ = Out.ok (y.1, y.2) from ey)
/-- .. all is lent -/
theorem toArgs_fz : ∀ (qs : List Q) {vs : List V} {F : List Addr} {ρ ρ' : Env} {as : List Slot}, Fr K H σ ρ Fs → QReps K H σ Fs vs qs F → toArgs true qs ρ = .ok (as, ρ') →
    FrM K H (vs.map some) as (fun _ => []) (fun _ => False) ∧ ρ' = ρ ∧ as.length = vs.length ∧ ∀ rs ρ'' old, giveBack old qs as rs ρ = .ok ρ'' → ρ'' = ρ := by
  intro qs
  induction qs with
  | nil =>
    intro vs F ρ ρ' as fr rq e
    cases e
    obtain ⟨rfl, rfl⟩ := rq
    refine ⟨.nil, rfl, rfl, fun rs ρ'' old e => ?_⟩
    cases rs with
    | nil => cases e; rfl
    | cons r rs => cases e
  | cons q qs ih =>
    intro vs F ρ ρ' as fr rq e
    obtain ⟨v, r, F1, F2, rfl, rfl, h1, h2, _⟩ := rq
    have go : ∀ {s : Slot}, SlotOk K H (fun _ => False) (some v) s [] → (∀ rs ρ'' old as', giveBack old (q :: qs) (s :: as') rs ρ = .ok ρ'' → giveBack old qs as' rs ρ = .ok ρ'') → ((toArgs true qs ρ).bind fun y => .ok (s :: y.1, y.2)) = .ok (as, ρ') →
        FrM K H ((v :: r).map some) as (fun _ => []) (fun _ => False) ∧ ρ' = ρ ∧ as.length = (v :: r).length ∧ ∀ rs ρ'' old, giveBack old (q :: qs) as rs ρ = .ok ρ'' → ρ'' = ρ := fun {s} hs hg e => by
      obtain ⟨y, ey, e⟩ := Out.bind_ok e
      cases e
      obtain ⟨a1, a2, a3, a4⟩ := ih fr h2 (show _ = Out.ok (y.1, y.2) from ey)
      have := a1.cons hs .nil fun a z => nomatch z
      refine ⟨⟨fun j => ?_, fun _ => .nil, fun _ _ _ z => nomatch z⟩, a2, by simp [a3], fun rs ρ'' old e => a4 rs ρ'' old (hg _ _ _ _ e)⟩
      have z := this.sl j
      cases j with
      | zero => exact z
      | succ j => exact z
    have no : ∀ a : Addr, a ∈ ([] : List Addr) → ¬ False := fun _ _ z => z
    cases q with
    | v x => cases x with
      | g x => exact go (s := .own (.g x)) ⟨v, rfl, by have := h1.1; exact ⟨this.1, rfl⟩⟩ (fun _ _ _ _ e => by simpa [giveBack] using e) e
      | lst xs => exact go (s := .bor (.lst xs)) ⟨rfl, v, _, rfl, h1.1.rep, fun _ _ z => z⟩ (fun _ _ _ _ e => by simpa [giveBack] using e) e
    | b x =>
      obtain ⟨_, F', hr⟩ := h1
      exact go (s := .bor x) ⟨rfl, v, _, rfl, hr, fun _ _ z => z⟩ (fun _ _ _ _ e => by simpa [giveBack] using e) e
    | s j =>
      have hv : Vat σ j = some v := h1.2
      have hs := fr.sl j
      cases es : slotAt ρ j with
      | no => simp only [toArgs, es] at e; cases e
      | own x =>
        rw [es] at hs
        obtain ⟨v', ev, ho⟩ := hs
        rw [hv] at ev; cases ev
        simp only [toArgs, es] at e
        exact go (s := .bor x) ⟨rfl, v, _, rfl, ho.rep, fun _ _ z => z⟩ (fun _ _ _ _ e => by simpa [giveBack] using e) e
      | arg x =>
        rw [es] at hs
        obtain ⟨v', ev, ho⟩ := hs
        rw [hv] at ev; cases ev
        simp only [toArgs, es] at e
        exact go (s := .bor x) ⟨rfl, v, _, rfl, ho.rep, fun _ _ z => z⟩ (fun _ _ _ _ e => by simpa [giveBack] using e) e
      | bor x =>
        rw [es] at hs
        obtain ⟨_, v', F', ev, hr, _⟩ := hs
        rw [hv] at ev; cases ev
        simp only [toArgs, es] at e
        exact go (s := .bor x) ⟨rfl, v, _, rfl, hr, fun _ _ z => z⟩ (fun _ _ _ _ e => by simpa [giveBack] using e) e
theorem finS_no : ∀ {as : List Slot} {rs : List R} {j : Nat} {r : R}, slotAt (finS as rs) j ≠ .bor r
  | [], rs, j, r => by cases rs <;> (intro h; simp [finS, slotAt] at h)
  | s :: as, rs, 0, r => by
    intro h
    cases s <;> cases rs <;> simp [finS, slotAt] at h
  | s :: as, rs, j + 1, r => by
    intro h
    have : ∀ rs', slotAt (finS as rs') j ≠ .bor r := fun rs' => finS_no
    cases s <;> cases rs <;> exact this _ (by simpa [finS, slotAt] using h)
theorem Fr.any (h : Fr K H σ ρ Fs) (hn : ∀ j r, slotAt ρ j ≠ .bor r) (M : Addr → Prop) : FrM K H σ ρ Fs M := by
  refine ⟨fun j => ?_, h.nd, h.dj⟩
  have z := h.sl j
  cases e : slotAt ρ j with
  | bor r => exact absurd e (hn j r)
  | no => rw [e] at z; exact z
  | own r => rw [e] at z; exact z
  | arg r => rw [e] at z; exact z
theorem Out.bind_nx {α β : Type} {o : Out α} {f : α → Out β} (h : ∀ c, o ≠ .exc c) (hf : ∀ x c, f x ≠ .exc c) : ∀ c, o.bind f ≠ .exc c := by
  intro c e
  cases o with
  | ok x => exact hf x c e
  | exc c' => exact h c' rfl
  | stuck => cases e
theorem toArgs_nx (fz : Bool) : ∀ (qs : List Q) (ρ : Env) (c : Nat), toArgs fz qs ρ ≠ .exc c := by
  intro qs
  induction qs with
  | nil => intro ρ c e; cases e
  | cons q qs ih =>
    intro ρ c
    have go : ∀ ρ (s : Slot), ((toArgs fz qs ρ).bind fun y => Out.ok (s :: y.1, y.2)) ≠ .exc c := fun ρ s => Out.bind_nx (ih ρ) (fun _ _ e => by cases e) c
    cases q with
    | v r => cases r <;> exact go _ _
    | b r =>
      unfold toArgs
      split
      · exact go _ _
      · exact fun e => by cases e
    | s j =>
      unfold toArgs
      split
      · exact go _ _
      · split <;> exact go _ _
      · split <;> exact go _ _
      · exact fun e => by cases e
theorem give_nx (old : Env) : ∀ (qs : List Q) (as : List Slot) (rs : List R) (ρ : Env) (c : Nat), giveBack old qs as rs ρ ≠ .exc c := by
  intro qs
  induction qs with
  | nil => intro as rs ρ c e; cases as <;> cases rs <;> cases e
  | cons q qs ih =>
    intro as rs ρ c e
    cases as with
    | nil => cases q <;> cases e
    | cons s as =>
      cases q <;> cases s <;> cases rs <;> first | (simp [giveBack] at e; done) | exact ih _ _ _ _ (by simpa [giveBack] using e)
/-- a call behind its arguments -/
theorem call_post {xc : Nat → Value} {W : WX} {cf : CallT} {f : Nat} {C : VK} {qs : List Q} {vs : List V} (fr0 : Fr K H0 σ ρ0 Fs0) (fr1 : Fr K H1 σ ρ1 Fs1) (st : Stp (Mem Fs0) (Mem Fs1) H0 H1) (nf : ∀ a ∈ F, Mem Fs0 a ∨ H0 a = none) (kd : Kd ρ0 ρ1) (rq : QReps K H1 σ Fs1 vs qs F)
    (p : Post K xc W σ (rpQ K σ) ρ0 Fs0 [] H0 C (doCall cf f qs ρ1)) : spF K xc cf f vs.length vs H1 C (WE W σ) := by
  have sM : ∀ a, Mem Fs1 a → Mem Fs0 a ∨ H0 a = none := st.new
  have FM : ∀ a ∈ F, Mem Fs0 a ∨ H0 a = none := nf
  have none1 : ∀ a, H1 a = none → Mem Fs0 a ∨ H0 a = none := fun a z => back_none st z
  cases et : toArgs (hasB qs) qs ρ1 with
  | exc c => exact absurd et (toArgs_nx _ _ _ _)
  | stuck => unfold doCall at p; rw [et] at p; exact False.elim p
  | ok x =>
    obtain ⟨as, ρ'⟩ := x
    have p : Post K xc W σ (rpQ K σ) ρ0 Fs0 [] H0 C ((cf f as).bind fun y => (giveBack ρ1 qs as y.2 ρ').bind fun ρ' => .ok (.v y.1, ρ')) := by
      unfold doCall at p; rw [et] at p; exact p
    cases hb : hasB qs with
    | true =>
      rw [hb] at et
      obtain ⟨a1, rfl, a3, a4⟩ := toArgs_fz qs fr1 rq et
      refine ⟨rfl, as, fun _ => [], a3, a1.fr (fun a z => nomem a z), ?_⟩
      cases ec : cf f as with
      | stuck => rw [ec] at p; exact False.elim p
      | exc c =>
        rw [ec] at p
        exact fun H' k => p H' fun b o n e => k b o (nomem b) (st.keep b o n e)
      | ok y =>
        obtain ⟨r, rs⟩ := y
        rw [ec] at p
        have p : Post K xc W σ (rpQ K σ) ρ0 Fs0 [] H0 C ((giveBack ρ' qs as rs ρ').bind fun ρ' => .ok (.v r, ρ')) := p
        cases eg : giveBack ρ' qs as rs ρ' with
        | stuck => rw [eg] at p; exact False.elim p
        | exc c => exact absurd eg (give_nx _ _ _ _ _ _)
        | ok ρ2 =>
          rw [eg] at p
          cases a4 _ _ _ eg
          intro v H' Fb F' fb ro nd nm sb nb
          have x : Ext H1 H' := fun b o e => sb.keep b o (nomem b) e
          have nb' : ∀ a ∈ F', H1 a = none := fun a ha => (nb a ha).resolve_left (nomem a)
          refine p v H' Fs1 F' (fr1.ext x) (st.trans (Stp.ext x fun a z => .inl z)) (fun a ha => ?_) kd ⟨ro, nd, fun a ha z => ?_⟩
          · rcases none1 a (nb' a ha) with q | q
            · exact .inl q
            · exact .inr (.inr q)
          · obtain ⟨xs, e⟩ := fr1.own a z
            rw [nb' a ha] at e; cases e
    | false =>
      rw [hb] at et
      have str := fr0.strong fr1 st kd
      obtain ⟨Fa, Fs', a1, a2, a3, a4, a5, a6⟩ := toArgs_ok qs str rq sM et
      have aM : ∀ a, Mem Fa a → Mem Fs0 a ∨ H0 a = none := fun a z => by
        rcases a3 a z with q | q
        · exact FM a q
        · exact sM a q
      refine ⟨rfl, as, Fa, a6, a1.fr aM, ?_⟩
      cases ec : cf f as with
      | stuck => rw [ec] at p; exact False.elim p
      | exc c =>
        rw [ec] at p
        refine fun H' k => p H' fun b o n e => k b o (fun z => ?_) (st.keep b o n e)
        rcases aM b z with q | q
        · exact n q
        · rw [q] at e; cases e
      | ok y =>
        obtain ⟨r, rs⟩ := y
        rw [ec] at p
        have p : Post K xc W σ (rpQ K σ) ρ0 Fs0 [] H0 C ((giveBack ρ1 qs as rs ρ').bind fun ρ' => .ok (.v r, ρ')) := p
        cases eg : giveBack ρ1 qs as rs ρ' with
        | stuck => rw [eg] at p; exact False.elim p
        | exc c => exact absurd eg (give_nx _ _ _ _ _ _)
        | ok ρ2 =>
          rw [eg] at p
          intro v H' Fb F' fb ro nd nm sb nb
          have fb2 : FrM K H' (vs.map some) (finS as rs) Fb (fun a => Mem Fs0 a ∨ H0 a = none) := fb.any (fun j r => finS_no) _
          have own1 := a1.own
          have fr2 := a2.keep (D := Mem Fa) own1 sb.keep (fun a z q => a5 a q z) aM
          have nbM : ∀ a, Mem Fb a → Mem Fa a ∨ H1 a = none := sb.new
          have dis : ∀ a, Mem Fb a → ¬ Mem Fs' a := fun a z q => by
            rcases nbM a z with w | w
            · exact a5 a w q
            · obtain ⟨xs, e⟩ := a2.own a q
              rw [w] at e; cases e
          obtain ⟨Fs'', g1, g2⟩ := give_ok qs rq fr2 fb2 dis eg
          have MM : ∀ a, Mem Fs'' a → Mem Fs0 a ∨ H0 a = none := fun a z => by
            rcases g2 a z with q | q
            · exact sM a (a4 a q)
            · rcases nbM a q with w | w
              · exact aM a w
              · exact none1 a w
          have hkd : Kd ρ1 ρ2 := by
            obtain ⟨k1, k2, k3⟩ := toArgs_kd qs et
            refine give_kd qs eg k1 (fun j => ?_) k3
            rcases k2 j with q | q
            · left; rw [q]; exact Kd1.refl _
            · exact .inr q
          refine p v H' Fs'' F' (g1.fr MM) ⟨fun b o n e => ?_, MM⟩ (fun a ha => ?_) (kd.trans hkd) ⟨ro, nd, fun a ha z => ?_⟩
          · refine sb.keep b o (fun z => ?_) (st.keep b o n e)
            rcases aM b z with q | q
            · exact n q
            · rw [q] at e; cases e
          · rcases nb a ha with q | q
            · rcases aM a q with w | w
              · exact .inl w
              · exact .inr (.inr w)
            · rcases none1 a q with w | w
              · exact .inl w
              · exact .inr (.inr w)
          · rcases g2 a z with q | q
            · rcases nb a ha with w | w
              · exact a5 a w q
              · obtain ⟨xs, e⟩ := a2.own a q
                rw [w] at e; cases e
            · exact nm a ha q
end
end Pv
/-! Pv12: calls, as expressions; pop of a place. -/
namespace Pv
open PySem PySem.Spec PyProof.Rows L2
section
variable {X : Cx} {xc : Nat → Value} {cf : CallT} {W : WX} {a b e : Expr} {ea eb : E} {pos p : Pos}
theorem plain_all {env : PySem.Env} {pos : Pos} : ∀ {es : List Expr}, (∀ y ∈ es, ∀ z p, y ≠ .Starred z p) → (backTo pos (starEach es env)).any (·.1) = false
  | [], _ => rfl
  | e :: es, h => by
    rw [plain_star (h e List.mem_cons_self)]
    show (false || (backTo pos (starEach es env)).any (·.1)) = false
    rw [plain_all fun y hy => h y (List.mem_cons_of_mem _ hy)]; rfl
/-- a def of the program, as it is called -/
structure Fd (X : Cx) (xc : Nat → Value) (cf : CallT) (fi np : Nat) (x : Str) : Prop where
  ex : ∃ k fa fd ps, FnOk X.prog X.w X.K X.mg X.base (L2.CX X.prog X.w) k fa fd ps (spF X.K xc cf fi np) ∧ Room k X.A ∧ X.mg x = some (.ref fa) ∧ PySem.W.keepIn X.K (.ref fa) = true ∧ Binds X.K fd ps []
  len : ∀ as, as.length ≠ np → cf fi as = .stuck
theorem call_sp {σ : L2.St} {H : Hp} {C : VK} {fi np : Nat} {ees : E} (hl : ∀ as, as.length ≠ np → cf fi as = .stuck) (h : tE X.K xc cf W (.call fi ees) σ H C) : tCallS (spF X.K xc cf fi np) (WE W) (tA X.K xc cf W ees) σ H C := by
  obtain ⟨ρ, Fs, fr, p⟩ := h
  have p : Post X.K xc W σ (rpQ X.K σ) ρ Fs [] H C ((evs cf ees ρ).bind fun x => doCall cf fi x.1 x.2) := p
  refine ⟨ρ, Fs, fr, ?_⟩
  cases eo : evs cf ees ρ with
  | exc c => rw [eo] at p; exact p
  | stuck => rw [eo] at p; exact p
  | ok x =>
    rw [eo] at p
    intro vs H1 Fs1 F fr1 st nf kd rq
    have nf' : ∀ a ∈ F, Mem Fs a ∨ H a = none := fun a ha => by
      rcases nf a ha with q | q | q
      · exact .inl q
      · cases q
      · exact .inr q
    have := call_post fr fr1 st nf' kd rq (show Post X.K xc W σ (rpQ X.K σ) ρ Fs [] H C (doCall cf fi x.1 x.2) from p)
    obtain ⟨h1, as, Fa, h2, h3, h4⟩ := this
    by_cases hn : vs.length = np
    · exact ⟨hn, as, Fa, h2.trans hn, h3, h4⟩
    · rw [hl as (by rw [h2]; exact hn)] at h4
      exact False.elim h4
theorem s_call {fi np : Nat} {x : Str} {es : List Expr} {ees : E} (F : Fd X xc cf fi np x) (hg : Gl X x) (tk : Takes X W) (ha : PA X (e :: es) (tA X.K xc cf W ees)) (hdb : (x == ("__debug__" : Str)) = false) (hs : ∀ y ∈ e :: es, ∀ z p, y ≠ .Starred z p) :
    PE X (.Call (.Name x p) (e :: es) [] pos) (tE X.K xc cf W (.call fi ees)) := by
  obtain ⟨⟨k, fa, fd, ps, h1, h2, h3, h4, h5⟩, hl⟩ := F
  exact PE.imp (pe_callS h1 h2 hg h3 h4 h5 (fun σ => passAt tk σ) ha hdb (plain_star (hs e List.mem_cons_self)) (plain_all fun y hy => hs y (List.mem_cons_of_mem _ hy))) fun σ H C h => call_sp hl h
theorem s_call0 {fi np : Nat} {x : Str} (F : Fd X xc cf fi np x) (hg : Gl X x) (tk : Takes X W) (hdb : (x == ("__debug__" : Str)) = false) :
    PE X (.Call (.Name x p) [] [] pos) (tE X.K xc cf W (.call fi .nil)) := by
  obtain ⟨⟨k, fa, fd, ps, h1, h2, h3, h4, h5⟩, hl⟩ := F
  refine ⟨fun pins s σ H Q I h => ?_⟩
  have h := call_sp hl h
  obtain ⟨ρ, Fs, fr, h⟩ := h
  refine wpAny_Call_Name_kw (ld_glob I hg h3 ?_ hdb)
  exact PySem.W.callWith_K0 I.kIn h4 (run_fnS (us := []) h1 h2 h5 (passAt tk σ) I .nil (Post.now h fr ⟨rfl, rfl⟩))
theorem s_popAt {j : Nat} {x : Str} {apos cpos : Pos} (hN : X.N[j]? = some x) (hv : Vis X.env.scope x) (hd : (x == ("__debug__" : Str)) = false) (hcd : (x == ("__classdict__" : Str)) = false) (ha : PE X a (tE X.K xc cf W ea)) (hs : ∀ y p, a ≠ .Starred y p)
    (hbase : attributeBase (.Name x p) "pop" X.env (eval (.Name x p) X.env) = eval (.Name x p) X.env) (hline : (apos.endLine == cpos.line) = true) : PE X (.Call (.Attribute (.Name x p) "pop" apos) [a] [] cpos) (tE X.K xc cf W (.popAt j ea)) := by
  have pa := pa_cons ha pa_nil (plain_star hs)
  have hst := plain_star (es := []) (env := X.env) hs
  refine PE.imp (pe_bm PySem.F.plainAttrs_list PySem.F.slot_list_pop PySem.F.type_list_pop mt_popAt (pe_var hN hv hd hcd) pa hbase (by rw [hst]; rfl) hline hst rfl) fun σ H C ⟨ρ, Fs, fr, q⟩ => ?_
  have q : Post X.K xc W σ (rpQ X.K σ) ρ Fs [] H C (match mutL ρ j with
    | some _ => (ev cf ea ρ).bind fun x => (match x.1, mutL x.2 j with
      | .v (.g (.int n)), some xs => if b62 n then (match ixN xs.length n with
        | some m => (match xs[m]? with
          | some y => .ok (.v y, putL x.2 j (xs.eraseIdx m))
          | none => .stuck)
        | none => .stuck) else .stuck
      | _, _ => .stuck)
    | none => .stuck) := q
  cases em : mutL ρ j with
  | none => rw [em] at q; exact False.elim q
  | some xs0 =>
    simp only [em] at q
    obtain ⟨l0, ws0, F0, hV0, hH0, _, _⟩ := fr.m.mut em
    refine ⟨_, vat_some hV0, .inl ⟨rfl, ws0, .inl (.inl hH0)⟩, ρ, Fs, fr, Post.bind q fun q1 ρ1 _ v1 H1 Fs1 F1 fr1 r1 p1 => ?_⟩
    have r1 : QRep X.K H1 σ Fs1 v1 q1 F1 := r1
    dsimp only at p1
    cases q1 with
    | s i => exact False.elim p1
    | b r => exact False.elim p1
    | v r => cases r with
      | lst zs => exact False.elim p1
      | g g => cases g with
        | int n =>
          cases e1 : mutL ρ1 j with
          | none => rw [e1] at p1; exact False.elim p1
          | some xs =>
            simp only [e1] at p1
            obtain rfl : v1 = .int n := r1.1.1
            split at p1
            · rename_i hb
              cases hm : ixN xs.length n with
              | none => rw [hm] at p1; exact False.elim p1
              | some m =>
                simp only [hm] at p1
                cases hy : xs[m]? with
                | none => rw [hy] at p1; exact False.elim p1
                | some y =>
                  simp only [hy] at p1
                  obtain ⟨l, ws, w, hV, hH, hl, hw, c⟩ := Post.popped (α := Unit) p1 fr1 e1 hy
                  rw [hV0] at hV; cases hV
                  obtain ⟨s1, s2, s3, s4⟩ := ixN_seq hm
                  simp only [b62, Bool.and_eq_true, decide_eq_true_eq] at hb
                  exact ⟨_, ws, n, m, w, rfl, rfl, hH, by omega, by omega, by rw [hl]; exact s1, hw, c⟩
            · exact False.elim p1
        | non => exact False.elim p1
        | bl b => exact False.elim p1
        | str b => exact False.elim p1
        | tup b => exact False.elim p1
end
end Pv
/-! Pv13: what is walked; targets; lent and hidden slots. -/
namespace Pv
open PySem PySem.Spec PyProof.Rows L2
theorem pi_imp {X : Cx} {tg l : Expr} {wi wi' : TI} (h : PI X tg l wi) (hi : ∀ σ H R, wi' σ H R → wi σ H R) : PI X tg l wi' := ⟨fun pins s σ H R I w => h.run pins s σ H R I (hi _ _ _ w)⟩
/-- an iterator, its items, what is lent -/
def rpW (K : PySem.W.Frag) (σ : L2.St) : Rp (List R × Lent) It := fun H Fs J x F =>
  match x.2 with
  | .none => (∃ lo n, J = Itr lo n ∧ x.1 = rangeL lo n ∧ F = []) ∨ (∃ a, J = Itl K a ∧ RepO K H (.ref a) (.lst x.1) F ∧ F.Nodup ∧ ∀ b ∈ F, ¬ Mem Fs b) ∨ (∃ a gs, J = Itt K a ∧ RepG K H (.ref a) (.tup gs) ∧ x.1 = gs.map R.g ∧ F = [])
  | .slot j => F = [] ∧ ∃ a, Vat σ j = some (.ref a) ∧ J = Itl K a
  | .all => F = [] ∧ ∃ a F', J = Itl K a ∧ RepR K H (.ref a) (.lst x.1) F'
def tI (K : PySem.W.Frag) (xc : Nat → Value) (cf : CallT) (W : WX) (e : E) : TI := fun σ H R => ∃ ρ Fs, Fr K H σ ρ Fs ∧ Post K xc W σ (rpW K σ) ρ Fs [] H R (evIt cf e ρ)
section
variable {X : Cx} {xc : Nat → Value} {cf : CallT} {W : WX} {a b e tg : Expr} {ea eb : E} {pos p : Pos}
theorem walked_nx (ρ : Env) (q : Q) : ∀ c, walked ρ q ≠ .exc c := by
  intro c h
  unfold walked at h
  split at h <;> (try split at h) <;> cases h
theorem s_rng1 (hg : Gl X "range") (hm : X.mg "range" = none) (ha : PE X a (tE X.K xc cf W ea)) (hs : ∀ y p, a ≠ .Starred y p) : PI X tg (.Call (.Name "range" p) [a] [] pos) (tI X.K xc cf W (.rng1 ea)) := by
  refine pi_imp (pi_range1 hg hm (pa_cons ha pa_nil (plain_star hs)) (by rw [plain_star hs]; rfl)) fun σ H R ⟨ρ, Fs, fr, p⟩ => ?_
  refine ⟨ρ, Fs, fr, Post.bind p fun q1 ρ1 _ v1 H1 Fs1 F1 fr1 r1 p1 => ?_⟩
  have r1 : QRep X.K H1 σ Fs1 v1 q1 F1 := r1
  dsimp only at p1
  cases q1 with
  | s i => exact False.elim p1
  | b r => exact False.elim p1
  | v r => cases r with
    | lst zs => exact False.elim p1
    | g g => cases g with
      | int n =>
        obtain rfl : v1 = .int n := r1.1.1
        simp only at p1
        split at p1
        · rename_i hb
          simp only [b62, Bool.and_eq_true, decide_eq_true_eq] at hb
          exact ⟨n, rfl, hb.1, hb.2, p1.now fr1 (.inl ⟨0, _, rfl, rfl, rfl⟩)⟩
        · exact False.elim p1
      | non => exact False.elim p1
      | bl b => exact False.elim p1
      | str b => exact False.elim p1
      | tup b => exact False.elim p1
theorem s_rng2 (hg : Gl X "range") (hm : X.mg "range" = none) (ha : PE X a (tE X.K xc cf W ea)) (hb : PE X b (tE X.K xc cf W eb)) (hs : ∀ y p, a ≠ .Starred y p) (hs2 : ∀ y p, b ≠ .Starred y p) : PI X tg (.Call (.Name "range" p) [a, b] [] pos) (tI X.K xc cf W (.rng2 ea eb)) := by
  refine pi_imp (pi_range2 hg hm (pa_cons ha (pa_cons hb pa_nil (plain_star hs2)) (plain_star hs)) (by rw [plain_star hs, plain_star hs2]; rfl) (by rw [plain_star hs2]; rfl)) fun σ H R ⟨ρ, Fs, fr, p⟩ => ?_
  refine ⟨ρ, Fs, fr, Post.bind p fun q1 ρ1 _ v1 H1 Fs1 F1 fr1 r1 p1 => ?_⟩
  refine Post.behind p1 fr1 r1 fun q2 ρ2 v2 H2 Fs2 F2 fr2 r1 r2 _ p2 => ?_
  have r1 : QRep X.K H2 σ Fs2 v1 q1 F1 := r1
  have r2 : QRep X.K H2 σ Fs2 v2 q2 F2 := r2
  have gi : ∀ q : Q, (∃ n, q = .v (.g (.int n))) ∨ ∀ n, q ≠ .v (.g (.int n)) := fun q => by
    by_cases h : ∃ n, q = .v (.g (.int n))
    · exact .inl h
    · exact .inr fun n e => h ⟨n, e⟩
  rcases gi q1 with ⟨m, rfl⟩ | n1
  · rcases gi q2 with ⟨n, rfl⟩ | n2
    · obtain rfl : v1 = .int m := r1.1.1
      obtain rfl : v2 = .int n := r2.1.1
      dsimp only at p2
      split at p2
      · rename_i hb
        simp only [b62, Bool.and_eq_true, decide_eq_true_eq] at hb
        exact ⟨m, n, rfl, ⟨hb.1.1, hb.1.2, hb.2.1, hb.2.2⟩, p2.now fr2 (.inl ⟨m, _, rfl, rfl, rfl⟩)⟩
      · exact False.elim p2
    · dsimp only at p2
      split at p2
      · exact absurd rfl (n2 _)
      · exact False.elim p2
  · dsimp only at p2
    split at p2
    · exact absurd rfl (n1 _)
    · exact False.elim p2
theorem s_it (ha : PE X a (tE X.K xc cf W ea)) : PI X tg a (tI X.K xc cf W (.it ea)) := by
  refine ⟨fun pins s σ H R I ⟨ρ, Fs, fr, p⟩ => ?_⟩
  have p : Post X.K xc W σ (rpW X.K σ) ρ Fs [] H R ((ev cf ea ρ).bind fun x => (walked x.2 x.1).bind fun w => .ok (w, x.2)) := p
  cases eo : ev cf ea ρ with
  | exc c => rw [eo] at p; exact (pi_list ha).run pins s σ H R I ⟨ρ, Fs, fr, by rw [eo]; exact p⟩
  | stuck => rw [eo] at p; exact False.elim p
  | ok x =>
    obtain ⟨q, ρ1⟩ := x
    rw [eo] at p
    have p : Post X.K xc W σ (rpW X.K σ) ρ Fs [] H R ((walked ρ1 q).bind fun w => .ok (w, ρ1)) := p
    cases q with
    | b r => cases r with
      | g g => exact False.elim p
      | lst xs =>
        refine (pi_list ha).run pins s σ H R I ⟨ρ, Fs, fr, ?_⟩
        rw [eo]
        intro v H' Fs' F fr' st nf kd rep
        have rep : QRep X.K H' σ Fs' v (.b (.lst xs)) F := rep
        obtain ⟨hF, F', r1⟩ := rep
        have r1' := r1
        obtain ⟨a, ws, _, rfl, hq, _⟩ := r1
        exact ⟨a, rfl, ⟨ws, hq⟩, p (Itl X.K a) H' Fs' F fr' st nf kd ⟨hF, a, F', rfl, r1'⟩⟩
    | v r => cases r with
      | lst xs =>
        refine (pi_list ha).run pins s σ H R I ⟨ρ, Fs, fr, ?_⟩
        rw [eo]
        intro v H' Fs' F fr' st nf kd rep
        have rep : QRep X.K H' σ Fs' v (.v (.lst xs)) F := rep
        obtain ⟨r1, h2, h3⟩ := rep
        have r1' := r1
        obtain ⟨a, ws, _, rfl, hq, _⟩ := r1
        exact ⟨a, rfl, ⟨ws, SqL.of hq⟩, p (Itl X.K a) H' Fs' F fr' st nf kd (.inr (.inl ⟨a, rfl, r1', h2, h3⟩))⟩
      | g g => cases g with
        | tup gs =>
          refine (pi_tup ha).run pins s σ H R I ⟨ρ, Fs, fr, ?_⟩
          rw [eo]
          intro v H' Fs' F fr' st nf kd rep
          have rep : QRep X.K H' σ Fs' v (.v (.g (.tup gs))) F := rep
          obtain ⟨r1, h2, h3⟩ := rep
          have r1' := r1.1
          obtain ⟨a, ws, rfl, hq, _⟩ := rep_tup r1.1
          exact ⟨a, rfl, ⟨ws, hq.t⟩, p (Itt X.K a) H' Fs' F fr' st nf kd (.inr (.inr ⟨a, gs, rfl, r1', rfl, r1.2⟩))⟩
        | int n => exact False.elim p
        | non => exact False.elim p
        | bl b => exact False.elim p
        | str b => exact False.elim p
    | s j =>
      have hs : ∃ xs, (slotAt ρ1 j).r? = some (.lst xs) := by
        cases h : (slotAt ρ1 j).r? with
        | none => simp only [walked, h] at p; exact False.elim p
        | some r => cases r with
          | g g => simp only [walked, h] at p; exact False.elim p
          | lst xs => exact ⟨xs, rfl⟩
      obtain ⟨xs, hs⟩ := hs
      have ew : walked ρ1 (.s j) = .ok (xs, .slot j) := by unfold walked; simp only [hs]
      rw [ew] at p
      refine (pi_list ha).run pins s σ H R I ⟨ρ, Fs, fr, ?_⟩
      rw [eo]
      intro v H' Fs' F fr' st nf kd rep
      have rep : QRep X.K H' σ Fs' v (.s j) F := rep
      obtain ⟨F', r1⟩ := deref_rep fr' rep (r := .lst xs) (by show ofOpt (slotAt ρ1 j).r? = _; rw [hs]; rfl)
      obtain ⟨a, ws, _, rfl, hq, _⟩ := r1
      exact ⟨a, rfl, ⟨ws, hq⟩, p (Itl X.K a) H' Fs' F fr' st nf kd ⟨rep.1, a, rep.2, rfl⟩⟩
end
/-! ### the items -/
/-- what is walked, clear of M -/
def WalkOk (K : PySem.W.Frag) (H : Hp) (M : Addr → Prop) (J : It) (xs : List R) : Prop :=
  (∃ lo n, J = Itr lo n ∧ xs = rangeL lo n) ∨ (∃ a F, J = Itl K a ∧ RepR K H (.ref a) (.lst xs) F ∧ ∀ b ∈ F, ¬ M b) ∨ ∃ a gs, J = Itt K a ∧ RepG K H (.ref a) (.tup gs) ∧ xs = gs.map R.g
section
variable {K : PySem.W.Frag} {H H' H0 H1 Hb Hz : Hp} {σ σ' σL : L2.St} {ρ ρ' ρ0 ρ1 ρz ρL : Env} {Fs Fs' Fs0 Fs1 Fsz FsL : Nat → List Addr} {M M' D : Addr → Prop} {v : V} {q : Q} {F F1 : List Addr} {J : It} {xs : List R} {l : Lent}
theorem WalkOk.keep (h : WalkOk K Hb M J xs) (hl : ∀ b, M b → Hb b ≠ none → ∃ ys, Hb b = some (.lst ys)) (k : ∀ b o, ¬ M b → Hb b = some o → H b = some o) : WalkOk K H M J xs := by
  have hl' : ∀ b, (M b ∧ Hb b ≠ none) → ∃ ys, Hb b = some (.lst ys) := fun b z => hl b z.1 z.2
  have k' : ∀ b o, ¬ (M b ∧ Hb b ≠ none) → Hb b = some o → H b = some o := fun b o n e => k b o (fun z => n ⟨z, by rw [e]; simp⟩) e
  rcases h with h | ⟨a, F, e, r, n⟩ | ⟨a, gs, e, r, e2⟩
  · exact .inl h
  · exact .inr (.inl ⟨a, F, e, r.keep hl' k' fun b hb z => n b hb z.1, n⟩)
  · exact .inr (.inr ⟨a, gs, e, r.keep hl' k', e2⟩)
theorem WalkOk.go (h : WalkOk K H M J xs) {i : Nat} (hi : i < xs.length) : J.go i H := by
  rcases h with ⟨lo, n, rfl, rfl⟩ | ⟨a, F, rfl, r, n⟩ | ⟨a, gs, rfl, r, rfl⟩
  · exact (by simpa [rangeL] using hi : i < n)
  · obtain ⟨a', ws, F', e, hq, rr, _⟩ := r
    cases e
    have : i < ws.length := by rw [rr.len]; exact hi
    exact ⟨ws, ws[i], hq, by simp [this]⟩
  · obtain ⟨a', ws, e, hq, rr⟩ := rep_tup r
    cases e
    have : i < ws.length := by rw [rr.len]; simpa using hi
    exact ⟨ws, ws[i], hq.t, by simp [this]⟩
theorem WalkOk.stop (h : WalkOk K H M J xs) {i : Nat} (hi : xs.length ≤ i) : J.stop i H := by
  rcases h with ⟨lo, n, rfl, rfl⟩ | ⟨a, F, rfl, r, n⟩ | ⟨a, gs, rfl, r, rfl⟩
  · exact (by simpa [rangeL] using hi : n ≤ i)
  · obtain ⟨a', ws, F', e, hq, rr, _⟩ := r
    cases e
    exact ⟨ws, hq, by rw [rr.len]; exact hi⟩
  · obtain ⟨a', ws, e, hq, rr⟩ := rep_tup r
    cases e
    exact ⟨ws, hq.t, by rw [rr.len]; simpa using hi⟩
theorem WalkOk.yld (h : WalkOk K H M J xs) {i : Nat} (hi : i < xs.length) {x : V} (hy : J.yld i H x H') : H' = H ∧ ∃ F, RepR K H x xs[i] F ∧ ∀ b ∈ F, ¬ M b := by
  rcases h with ⟨lo, n, rfl, rfl⟩ | ⟨a, F, rfl, r, n⟩ | ⟨a, gs, rfl, r, rfl⟩
  · obtain ⟨e1, e2⟩ := hy
    refine ⟨e1, [], ?_, fun b z => nomatch z⟩
    subst e2
    have : (rangeL lo n)[i] = .g (.int (lo + (i : Int))) := by simp [rangeL]
    rw [this]
    exact ⟨rfl, rfl⟩
  · obtain ⟨e1, e2⟩ := hy
    obtain ⟨a', ws, F', e, hq, rr, hF⟩ := r
    cases e
    have e3 := e2 ws hq
    obtain ⟨w, F2, h1, h2, h3⟩ := rr.at (i := i) (x := xs[i]) (by simp [hi])
    rw [e3] at h1; cases h1
    refine ⟨e1, F2, h2, fun b hb => ?_⟩
    rcases hF with ⟨_, rfl⟩ | ⟨_, rfl⟩
    · exact n b (List.mem_cons_of_mem _ (h3 b hb))
    · exact n b (h3 b hb)
  · obtain ⟨e1, e2⟩ := hy
    obtain ⟨a', ws, e, hq, rr⟩ := rep_tup r
    cases e
    have e3 := e2 ws hq.t
    have hi' : i < gs.length := by simpa using hi
    obtain ⟨w, h1, h2⟩ := rr.at (i := i) (x := gs[i]) (by simp [hi'])
    rw [e3] at h1; cases h1
    refine ⟨e1, [], ?_, fun b z => nomatch z⟩
    rw [List.getElem_map]
    exact ⟨h2, rfl⟩
/-! ### lent and hidden slots -/
theorem slotAt_ge {i : Nat} (h : ρ.length ≤ i) : slotAt ρ i = .no := by
  unfold slotAt
  rw [List.getD_eq_getElem?_getD, List.getElem?_eq_none h]; rfl
theorem wipeS_len (ρ : Env) : ∀ js : List Nat, (wipeS ρ js).length = ρ.length
  | [] => rfl
  | j :: js => by unfold wipeS; rw [List.length_set, wipeS_len ρ js]
theorem wipeS_at (ρ : Env) (i : Nat) : ∀ js : List Nat, slotAt (wipeS ρ js) i = if i ∈ js then .no else slotAt ρ i
  | [] => by simp [wipeS]
  | j :: js => by
    unfold wipeS
    rw [slotAt_set, wipeS_at ρ i js, wipeS_len]
    by_cases e : i = j
    · subst e
      by_cases hl : i < ρ.length
      · simp [hl]
      · simp [hl, slotAt_ge (Nat.le_of_not_lt hl)]
    · simp [e]
theorem backS_len (old ρ : Env) : ∀ js : List Nat, (backS old ρ js).length = ρ.length
  | [] => rfl
  | j :: js => by unfold backS; rw [List.length_set, backS_len old ρ js]
theorem backS_at {old : Env} (hl : ρ.length = old.length) (i : Nat) : ∀ js : List Nat, slotAt (backS old ρ js) i = if i ∈ js then slotAt old i else slotAt ρ i
  | [] => by simp [backS]
  | j :: js => by
    unfold backS
    rw [slotAt_set, backS_at hl i js, backS_len]
    by_cases e : i = j
    · subst e
      by_cases h : i < ρ.length
      · simp [h]
      · simp [h, slotAt_ge (Nat.le_of_not_lt h), slotAt_ge (ρ := old) (by omega : old.length ≤ i)]
    · simp [e]
theorem vat_set (σ : L2.St) (j i : Nat) (w : Option V) : Vat (σ.set j w) i = if i = j ∧ j < σ.length then w else Vat σ i := by
  unfold Vat
  rw [List.getElem?_set]
  by_cases e : j = i
  · subst e
    by_cases h : j < σ.length
    · simp [h]
    · simp [h]
  · rw [if_neg e, if_neg fun z => e z.1.symm]
theorem vat_ge {i : Nat} (h : σ.length ≤ i) : Vat σ i = none := by
  unfold Vat
  rw [List.getElem?_eq_none h]; rfl
theorem wipe_at (σ : L2.St) (i : Nat) : ∀ js : List Nat, Vat (wipe σ js) i = if i ∈ js then none else Vat σ i
  | [] => by simp [wipe]
  | j :: js => by
    unfold wipe
    rw [vat_set, wipe_at σ i js, wipe_length]
    by_cases e : i = j
    · subst e
      by_cases hl : i < σ.length
      · simp [hl]
      · simp [hl, vat_ge (Nat.le_of_not_lt hl)]
    · simp [e]
def wipeF (Fs : Nat → List Addr) (js : List Nat) : Nat → List Addr := fun i => if i ∈ js then [] else Fs i
theorem wipeF_mem {js : List Nat} {a : Addr} (h : Mem (wipeF Fs js) a) : Mem Fs a := by
  obtain ⟨i, hi⟩ := h
  unfold wipeF at hi
  split at hi
  · cases hi
  · exact ⟨i, hi⟩
theorem FrM.wipe (h : FrM K H σ ρ Fs M) (js : List Nat) : FrM K H (wipe σ js) (wipeS ρ js) (wipeF Fs js) M := by
  refine ⟨fun i => ?_, fun i => ?_, fun i k a hi hk => ?_⟩
  · rw [wipe_at, wipeS_at]
    unfold wipeF
    split
    · exact rfl
    · exact h.sl i
  · unfold wipeF; split
    · exact .nil
    · exact h.nd i
  · unfold wipeF at hi hk
    split at hi
    · cases hi
    · split at hk
      · cases hk
      · exact h.dj i k a hi hk
def lendF (l : Lent) (Fs : Nat → List Addr) : Nat → List Addr :=
  match l with
  | .none => Fs
  | .slot j => updF Fs j []
  | .all => fun _ => []
theorem lendF_mem {a : Addr} (h : Mem (lendF l Fs) a) : Mem Fs a := by
  cases l with
  | none => exact h
  | slot j =>
    rcases updF_mem h with q | q
    · exact q
    · cases q
  | all => exact absurd h (nomem a)
theorem Fr.lend (h : Fr K H σ ρ Fs) : Fr K H σ (lendAs l ρ) (lendF l Fs) := by
  cases l with
  | none => exact h
  | all => exact h.freeze
  | slot j =>
    have sub : ∀ a, Mem (updF Fs j []) a → Mem Fs a := fun a z => by
      rcases updF_mem z with q | q
      · exact q
      · cases q
    have nj : ∀ a ∈ Fs j, ¬ Mem (updF Fs j []) a := fun a ha ⟨i, hi⟩ => by
      unfold updF at hi
      split at hi
      · cases hi
      · exact absurd (h.dj _ _ _ hi ha) ‹_›
    refine ⟨fun i => ?_, fun i => ?_, fun i k a hi hk => ?_⟩
    · show SlotOk K H _ (Vat σ i) (slotAt (ρ.set j (frz (slotAt ρ j))) i) (updF Fs j [] i)
      rw [slotAt_set]
      have z := h.sl i
      by_cases e : i = j
      · subst e
        unfold updF
        rw [if_pos rfl]
        by_cases hl : i < ρ.length
        · rw [if_pos ⟨rfl, hl⟩]
          cases es : slotAt ρ i with
          | no => exact rfl
          | own r => rw [es] at z; obtain ⟨v, e1, r1⟩ := z; exact ⟨rfl, v, _, e1, r1.rep, nj⟩
          | arg r => rw [es] at z; obtain ⟨v, e1, r1⟩ := z; exact ⟨rfl, v, _, e1, r1.rep, nj⟩
          | bor r => rw [es] at z; obtain ⟨_, v, F', e1, r1, n⟩ := z; exact ⟨rfl, v, F', e1, r1, fun a ha q => n a ha (sub a q)⟩
        · rw [if_neg (fun q => hl q.2), slotAt_ge (Nat.le_of_not_lt hl)]; exact rfl
      · rw [if_neg (fun q => e q.1)]
        have : updF Fs j [] i = Fs i := by unfold updF; rw [if_neg e]
        rw [this]
        exact z.imp sub
    · show (updF Fs j [] i).Nodup
      unfold updF; split
      · exact .nil
      · exact h.nd i
    · have hi : a ∈ updF Fs j [] i := hi
      have hk : a ∈ updF Fs j [] k := hk
      unfold updF at hi hk
      split at hi
      · cases hi
      · split at hk
        · cases hk
        · exact h.dj i k a hi hk
/-- what is walked, when it has been lent -/
theorem walk_lent {F : List Addr} {l : Lent} (fr : Fr K H σ ρ Fs) (h : rpW K σ H Fs J (xs, l) F) (hs : ∀ j, l = .slot j → (slotAt ρ j).r? = some (.lst xs)) (hM : ∀ a, M a → Mem (lendF l Fs) a ∨ H a = none) : WalkOk K H M J xs := by
  have av : ∀ {v : V} {r : R} {F' : List Addr}, RepR K H v r F' → (∀ b ∈ F', ¬ Mem (lendF l Fs) b) → ∀ b ∈ F', ¬ M b := fun r n b hb z => (hM b z).elim (n b hb) (r.live b hb)
  cases l with
  | none =>
    rcases h with ⟨lo, n, e1, e2, _⟩ | ⟨a, e, r, _, n⟩ | ⟨a, gs, e, r, e2, _⟩
    · exact .inl ⟨lo, n, e1, e2⟩
    · exact .inr (.inl ⟨a, F, e, r.rep, av r.rep n⟩)
    · exact .inr (.inr ⟨a, gs, e, r, e2⟩)
  | all =>
    obtain ⟨_, a, F', e, r⟩ := h
    exact .inr (.inl ⟨a, F', e, r, av r fun b _ => nomem b⟩)
  | slot j =>
    obtain ⟨_, a, hv, e⟩ := h
    have z := fr.sl j
    have es := hs j rfl
    have nj : ∀ a ∈ Fs j, ¬ Mem (updF Fs j []) a := fun a ha ⟨i, hi⟩ => by
      unfold updF at hi
      split at hi
      · cases hi
      · exact absurd (fr.dj _ _ _ hi ha) ‹_›
    cases e1 : slotAt ρ j with
    | no => rw [e1] at es; cases es
    | own r => rw [e1] at es z; cases es; obtain ⟨v, e2, r1⟩ := z; rw [hv] at e2; cases e2; exact .inr (.inl ⟨a, _, e, r1.rep, av r1.rep nj⟩)
    | arg r => rw [e1] at es z; cases es; obtain ⟨v, e2, r1⟩ := z; rw [hv] at e2; cases e2; exact .inr (.inl ⟨a, _, e, r1.rep, av r1.rep nj⟩)
    | bor r =>
      rw [e1] at es z; cases es
      obtain ⟨_, v, F', e2, r1, n⟩ := z
      rw [hv] at e2; cases e2
      refine .inr (.inl ⟨a, F', e, r1, av r1 fun b hb q => n b hb ?_⟩)
      rcases updF_mem q with w | w
      · exact w
      · cases w
theorem walked_slot {cf : CallT} {e : E} {j : Nat} (h : evIt cf e ρ = .ok ((xs, .slot j), ρ')) : (slotAt ρ' j).r? = some (.lst xs) := by
  cases e with
  | rng1 a =>
    obtain ⟨x, _, h⟩ := Out.bind_ok (show ((ev cf a ρ).bind _) = _ from h)
    split at h
    · split at h <;> cases h
    · cases h
  | rng2 a b =>
    obtain ⟨x, _, h⟩ := Out.bind_ok (show ((ev cf a ρ).bind _) = _ from h)
    obtain ⟨y, _, h⟩ := Out.bind_ok h
    split at h
    · split at h <;> cases h
    · cases h
  | it a =>
    obtain ⟨x, _, h⟩ := Out.bind_ok (show ((ev cf a ρ).bind _) = _ from h)
    obtain ⟨w, hw, h⟩ := Out.bind_ok h
    cases h
    unfold walked at hw
    split at hw
    · split at hw <;> cases hw
    · split at hw <;> cases hw
      assumption
    · cases hw
    · cases hw
  | _ => cases h
/-- the frame without, from the one within -/
theorem Fr.merge (fr1 : Fr K H1 σ ρ1 Fs1) (fz : Fr K Hz σL ρz Fsz) (hid : Nat → Bool) (sub : ∀ j, ∀ a ∈ FsL j, a ∈ Fs1 j) (h0 : ∀ j, hid j = true → FsL j = []) (st : Stp (Mem FsL) (Mem Fsz) H1 Hz)
    (un : ∀ j, hid j = false → slotAt ρ' j = slotAt ρz j ∧ Vat σ' j = Vat σL j ∧ (∀ r, slotAt ρz j = .bor r → slotAt ρ1 j = .bor r ∧ Vat σ' j = Vat σ j)) (hi : ∀ j, hid j = true → slotAt ρ' j = slotAt ρ1 j ∧ Vat σ' j = Vat σ j) :
    Fr K Hz σ' ρ' (fun j => if hid j then Fs1 j else Fsz j) ∧ Stp (Mem Fs1) (Mem (fun j => if hid j then Fs1 j else Fsz j)) H1 Hz := by
  have mL : ∀ a, Mem FsL a → Mem Fs1 a := fun a ⟨i, z⟩ => ⟨i, sub i a z⟩
  have nz : ∀ a, Mem Fsz a → Mem FsL a ∨ H1 a = none := st.new
  have nhid : ∀ j, hid j = true → ∀ a ∈ Fs1 j, ¬ Mem FsL a := fun j hj a ha ⟨i, z⟩ => by
    have := fr1.dj _ _ _ (sub i a z) ha
    subst this
    rw [h0 i hj] at z; cases z
  have own1 : ∀ a, Mem FsL a → ∃ xs, H1 a = some (.lst xs) := fun a z => fr1.own a (mL a z)
  have nM : ∀ a, Mem (fun j => if hid j then Fs1 j else Fsz j) a → Mem Fs1 a ∨ H1 a = none := fun a ⟨i, z⟩ => by
    by_cases e : hid i = true
    · simp only [e, if_true] at z; exact .inl ⟨i, z⟩
    · simp only [e] at z; exact (nz a ⟨i, z⟩).imp_left (mL a)
  have borOk : ∀ {w : Option V} {r : R}, SlotOk K H1 (Mem Fs1) w (.bor r) (Fs1 0) ∨ (∃ v F', w = some v ∧ RepR K H1 v r F' ∧ ∀ a ∈ F', ¬ Mem Fs1 a) → ∃ v F', w = some v ∧ RepR K Hz v r F' ∧ ∀ a ∈ F', ¬ Mem (fun j => if hid j then Fs1 j else Fsz j) a := fun h => by
    have h : ∃ v F', _ = some v ∧ RepR K H1 v _ F' ∧ ∀ a ∈ F', ¬ Mem Fs1 a := h.elim (fun z => z.2) id
    obtain ⟨v, F', e, r1, n⟩ := h
    exact ⟨v, F', e, r1.keep own1 st.keep fun a ha z => n a ha (mL a z), fun a ha z => (nM a z).elim (n a ha) (r1.live a ha)⟩
  refine ⟨⟨fun j => ?_, fun j => ?_, fun i j a ha hb => ?_⟩, ⟨fun b o n e => st.keep b o (fun z => n (mL b z)) e, nM⟩⟩
  · by_cases e : hid j = true
    · obtain ⟨e1, e2⟩ := hi j e
      rw [e1, e2]
      simp only [e, if_true]
      have z := fr1.sl j
      cases es : slotAt ρ1 j with
      | no => rw [es] at z; exact z
      | own r => rw [es] at z; obtain ⟨v, ev, r1⟩ := z; exact ⟨v, ev, r1.keep own1 st.keep (nhid j e)⟩
      | arg r => rw [es] at z; obtain ⟨v, ev, r1⟩ := z; exact ⟨v, ev, r1.keep own1 st.keep (nhid j e)⟩
      | bor r => rw [es] at z; exact ⟨z.1, borOk (.inr z.2)⟩
    · have e : hid j = false := by simpa using e
      obtain ⟨e1, e2, e3⟩ := un j e
      rw [e1]
      simp only [e]
      have z := fz.sl j
      cases es : slotAt ρz j with
      | no => rw [es] at z; exact z
      | own r => rw [es] at z; rw [e2]; exact z
      | arg r => rw [es] at z; rw [e2]; exact z
      | bor r =>
        obtain ⟨e4, e5⟩ := e3 r es
        rw [es] at z
        have z1 := fr1.sl j
        rw [e4] at z1
        rw [e5]
        exact ⟨z.1, borOk (.inr z1.2)⟩
  · show (if hid j then Fs1 j else Fsz j).Nodup
    split
    · exact fr1.nd j
    · exact fz.nd j
  · have no : ∀ i j, hid i = true → ∀ a, a ∈ Fs1 i → a ∈ Fsz j → False := fun i j e a hx hy => by
      rcases nz a ⟨j, hy⟩ with q | q
      · exact nhid i e a hx q
      · obtain ⟨ys, w⟩ := fr1.own a ⟨i, hx⟩
        rw [q] at w; cases w
    have ha : a ∈ (if hid i then Fs1 i else Fsz i) := ha
    have hb : a ∈ (if hid j then Fs1 j else Fsz j) := hb
    split at ha <;> split at hb
    · exact fr1.dj i j a ha hb
    · exact (no i j ‹_› a ha hb).elim
    · exact (no j i ‹_› a hb ha).elim
    · exact fz.dj i j a ha hb
end
end Pv
/-! Pv14: targets, comprehensions. -/
namespace Pv
open PySem PySem.Spec PyProof.Rows L2
def E.len : E → Nat
  | .cons _ es => es.len + 1
  | _ => 0
section
variable (K : PySem.W.Frag)
mutual
/-- what a target does -/
def tG : E → TG
  | .var j => fun v σ H Q => j < σ.length → Q (σ.set j (some v)) H
  | .tup ts => fun v σ H Q => ∃ a ws, v = .ref a ∧ SqT K H a ws ∧ ws.length = ts.len ∧ tGs ts ws σ H Q
  | _ => fun _ _ _ _ => False
termination_by structural e => e
def tGs : E → TGs
  | .nil => fun vs σ H Q => vs = [] ∧ Q σ H
  | .cons t ts => fun vs σ H Q => ∃ v r, vs = v :: r ∧ tG t v σ H fun σ' H' => tGs ts r σ' H' Q
  | _ => fun _ _ _ _ => False
termination_by structural e => e
end
end
section
variable {K : PySem.W.Frag} {H H' H0 H1 Hb Hz : Hp} {σ σ' σL : L2.St} {ρ ρ' ρ0 ρ1 ρz ρL : Env} {Fs Fs' Fs0 Fs1 Fsz FsL : Nat → List Addr} {M M' M0 D : Addr → Prop} {v : V} {q : Q} {F F1 : List Addr} {J : It} {xs : List R} {l : Lent} {s : Slot}
theorem FrM.set (h : FrM K H σ ρ Fs M) {j : Nat} (hj : j < σ.length) (hs : SlotOk K H M (some v) s F) (nd : F.Nodup) (hd : ∀ i, i ≠ j → ∀ a ∈ Fs i, a ∉ F) : ∃ Fs', FrM K H (σ.set j (some v)) (ρ.set j s) Fs' M ∧ ∀ a, Mem Fs' a → (∃ i, i ≠ j ∧ a ∈ Fs i) ∨ a ∈ F := by
  by_cases hl : j < ρ.length
  · refine ⟨updF Fs j F, ⟨fun i => ?_, fun i => ?_, fun i k a hi hk => ?_⟩, fun a ⟨i, hi⟩ => ?_⟩
    · rw [slotAt_set, vat_set]
      unfold updF
      by_cases e : i = j
      · subst e; rw [if_pos ⟨rfl, hj⟩, if_pos ⟨rfl, hl⟩, if_pos rfl]; exact hs
      · rw [if_neg (fun z => e z.1), if_neg (fun z => e z.1), if_neg e]; exact h.sl i
    · unfold updF; split
      · exact nd
      · exact h.nd i
    · unfold updF at hi hk
      split at hi <;> split at hk
      · subst_vars; rfl
      · exact absurd hi (hd k ‹_› a hk)
      · exact absurd hk (hd i ‹_› a hi)
      · exact h.dj i k a hi hk
    · unfold updF at hi
      split at hi
      · exact .inr hi
      · exact .inl ⟨i, ‹_›, hi⟩
  · have hno : slotAt ρ j = .no := slotAt_ge (Nat.le_of_not_lt hl)
    have hFj : Fs j = [] := by have z := h.sl j; rw [hno] at z; exact z
    refine ⟨Fs, ⟨fun i => ?_, h.nd, h.dj⟩, fun a ⟨i, hi⟩ => ?_⟩
    · rw [List.set_eq_of_length_le (Nat.le_of_not_lt hl), vat_set]
      by_cases e : i = j
      · subst e; rw [hno]; exact hFj
      · rw [if_neg (fun z => e z.1)]; exact h.sl i
    · by_cases e : i = j
      · subst e; rw [hFj] at hi; cases hi
      · exact .inl ⟨i, e, hi⟩
/-- what a target leaves -/
structure Bnd (K : PySem.W.Frag) (H : Hp) (M : Addr → Prop) (js : List Nat) (σ σ' : L2.St) (ρ ρ' : Env) (Fs Fs' : Nat → List Addr) : Prop where
  fr : FrM K H σ' ρ' Fs' M
  sub : ∀ a, Mem Fs' a → Mem Fs a
  ls : σ'.length = σ.length
  lr : ρ'.length = ρ.length
  un : ∀ i, i ∉ js → Vat σ' i = Vat σ i ∧ slotAt ρ' i = slotAt ρ i
theorem bnd_var (fr : FrM K H σ ρ Fs M) {j : Nat} (hj : j < σ.length) (hs : SlotOk K H M (some v) s []) : ∃ Fs', Bnd K H M [j] σ (σ.set j (some v)) ρ (ρ.set j s) Fs Fs' := by
  obtain ⟨Fs', h1, h2⟩ := fr.set hj hs .nil fun _ _ _ _ z => nomatch z
  refine ⟨Fs', h1, fun a z => ?_, by simp, by simp, fun i hi => ?_⟩
  · rcases h2 a z with ⟨i, _, q⟩ | q
    · exact ⟨i, q⟩
    · cases q
  · have : i ≠ j := by simpa using hi
    rw [vat_set, slotAt_set, if_neg (fun z => this z.1), if_neg fun z => this z.1]
    exact ⟨rfl, rfl⟩
theorem bindTs_len : ∀ (t : E) {xs : List G} {ρ ρ' : Env}, bindTs t xs ρ = .ok ρ' → xs.length = t.len := by
  intro t
  induction t with
  | nil => intro xs ρ ρ' e; cases xs with
    | nil => rfl
    | cons _ _ => cases e
  | cons t ts ih1 ih2 => intro xs ρ ρ' e; cases xs with
    | nil => cases e
    | cons y ys =>
      obtain ⟨ρ1, e1, e2⟩ := Out.bind_ok (show ((bindT t y ρ).bind fun ρ' => bindTs ts ys ρ') = _ from e)
      show ys.length + 1 = _
      rw [ih2 e2]; rfl
  | _ => intro xs ρ ρ' e; cases e
theorem Bnd.trans {js ks : List Nat} {σ2 : L2.St} {ρ2 : Env} {Fs2 : Nat → List Addr} (h : Bnd K H M js σ σ' ρ ρ' Fs Fs') (k : Bnd K H M ks σ' σ2 ρ' ρ2 Fs' Fs2) : Bnd K H M (js ++ ks) σ σ2 ρ ρ2 Fs Fs2 :=
  ⟨k.fr, fun a z => h.sub a (k.sub a z), k.ls.trans h.ls, k.lr.trans h.lr, fun i hi => by
    have h1 := h.un i fun z => hi (List.mem_append_left _ z)
    have h2 := k.un i fun z => hi (List.mem_append_right _ z)
    exact ⟨h2.1.trans h1.1, h2.2.trans h1.2⟩⟩
mutual
theorem bindT_ok {K : PySem.W.Frag} {H : Hp} {M : Addr → Prop} : ∀ (t : E) {x : G} {v : V} {σ : L2.St} {ρ ρ' : Env} {Fs : Nat → List Addr} {Q : L2.St → Hp → Prop}, bindT t x ρ = .ok ρ' → FrM K H σ ρ Fs M → RepG K H v x →
    (∀ σ' Fs', Bnd K H M (tgs t) σ σ' ρ ρ' Fs Fs' → Q σ' H) → tG K t v σ H Q
  | .var j, x, v, σ, ρ, ρ', Fs, Q, e, fr, r, q => by
    cases e
    intro hj
    obtain ⟨Fs', b⟩ := bnd_var (s := .own (.g x)) fr hj ⟨v, rfl, r, rfl⟩
    exact q _ _ b
  | .tup ts, x, v, σ, ρ, ρ', Fs, Q, e, fr, r, q => by
    cases x with
    | tup xs =>
      obtain ⟨a, ws, rfl, hq, g1⟩ := rep_tup r
      have := bindTs_ok ts (xs := xs) (ws := ws) e fr g1 q
      exact ⟨a, ws, rfl, hq.t, this.1, this.2⟩
    | _ => cases e
  | .nil, x, v, σ, ρ, ρ', Fs, Q, e, fr, r, q => by cases e
  | .cons _ _, x, v, σ, ρ, ρ', Fs, Q, e, fr, r, q => by cases e
  | .k _, x, v, σ, ρ, ρ', Fs, Q, e, fr, r, q => by cases e
  | .lst _, x, v, σ, ρ, ρ', Fs, Q, e, fr, r, q => by cases e
  | .bin _ _ _, x, v, σ, ρ, ρ', Fs, Q, e, fr, r, q => by cases e
  | .neg _, x, v, σ, ρ, ρ', Fs, Q, e, fr, r, q => by cases e
  | .not _, x, v, σ, ρ, ρ', Fs, Q, e, fr, r, q => by cases e
  | .and _ _, x, v, σ, ρ, ρ', Fs, Q, e, fr, r, q => by cases e
  | .or _ _, x, v, σ, ρ, ρ', Fs, Q, e, fr, r, q => by cases e
  | .ite _ _ _, x, v, σ, ρ, ρ', Fs, Q, e, fr, r, q => by cases e
  | .cmp _ _, x, v, σ, ρ, ρ', Fs, Q, e, fr, r, q => by cases e
  | .cc _ _ _, x, v, σ, ρ, ρ', Fs, Q, e, fr, r, q => by cases e
  | .ix _ _, x, v, σ, ρ, ρ', Fs, Q, e, fr, r, q => by cases e
  | .sl _ _ _, x, v, σ, ρ, ρ', Fs, Q, e, fr, r, q => by cases e
  | .back _, x, v, σ, ρ, ρ', Fs, Q, e, fr, r, q => by cases e
  | .call _ _, x, v, σ, ρ, ρ', Fs, Q, e, fr, r, q => by cases e
  | .b1 _ _, x, v, σ, ρ, ρ', Fs, Q, e, fr, r, q => by cases e
  | .b2 _ _ _, x, v, σ, ρ, ρ', Fs, Q, e, fr, r, q => by cases e
  | .isi _ _, x, v, σ, ρ, ρ', Fs, Q, e, fr, r, q => by cases e
  | .mth _ _ _, x, v, σ, ρ, ρ', Fs, Q, e, fr, r, q => by cases e
  | .pop _, x, v, σ, ρ, ρ', Fs, Q, e, fr, r, q => by cases e
  | .popAt _ _, x, v, σ, ρ, ρ', Fs, Q, e, fr, r, q => by cases e
  | .rng1 _, x, v, σ, ρ, ρ', Fs, Q, e, fr, r, q => by cases e
  | .rng2 _ _, x, v, σ, ρ, ρ', Fs, Q, e, fr, r, q => by cases e
  | .rng3 _ _ _, x, v, σ, ρ, ρ', Fs, Q, e, fr, r, q => by cases e
  | .it _, x, v, σ, ρ, ρ', Fs, Q, e, fr, r, q => by cases e
  | .comp _ _ _ _, x, v, σ, ρ, ρ', Fs, Q, e, fr, r, q => by cases e
  | .comp2 _ _ _ _ _ _ _, x, v, σ, ρ, ρ', Fs, Q, e, fr, r, q => by cases e
theorem bindTs_ok {K : PySem.W.Frag} {H : Hp} {M : Addr → Prop} : ∀ (t : E) {xs : List G} {ws : List V} {σ : L2.St} {ρ ρ' : Env} {Fs : Nat → List Addr} {Q : L2.St → Hp → Prop}, bindTs t xs ρ = .ok ρ' → FrM K H σ ρ Fs M → RepGs K H ws xs →
    (∀ σ' Fs', Bnd K H M (tgs t) σ σ' ρ ρ' Fs Fs' → Q σ' H) → ws.length = t.len ∧ tGs K t ws σ H Q
  | .nil, xs, ws, σ, ρ, ρ', Fs, Q, e, fr, r, q => by
    cases xs with
    | nil => cases e; cases r; exact ⟨rfl, rfl, q σ Fs ⟨fr, fun _ z => z, rfl, rfl, fun _ _ => ⟨rfl, rfl⟩⟩⟩
    | cons _ _ => cases e
  | .cons t ts, xs, ws, σ, ρ, ρ', Fs, Q, e, fr, r, q => by
    cases xs with
    | nil => cases e
    | cons y ys =>
      obtain ⟨w, us, rfl, r1, r2⟩ := r
      obtain ⟨ρ1, e1, e2⟩ := Out.bind_ok (show ((bindT t y ρ).bind fun ρ' => bindTs ts ys ρ') = _ from e)
      have hl : ∀ {us : List V} {ys : List G} {ρ1 ρ' : Env}, bindTs ts ys ρ1 = .ok ρ' → RepGs K H us ys → us.length = ts.len := fun {us ys ρ1 ρ'} e r => by rw [r.len]; exact bindTs_len ts e
      exact ⟨by show us.length + 1 = _; rw [hl e2 r2]; rfl, w, us, rfl, bindT_ok t e1 fr r1 fun σ1 Fs1 b1 => (bindTs_ok ts e2 b1.fr r2 fun σ2 Fs2 b2 => q σ2 Fs2 (b1.trans b2)).2⟩
  | .tup _, xs, ws, σ, ρ, ρ', Fs, Q, e, fr, r, q => by cases e
  | .var _, xs, ws, σ, ρ, ρ', Fs, Q, e, fr, r, q => by cases e
  | .k _, xs, ws, σ, ρ, ρ', Fs, Q, e, fr, r, q => by cases e
  | .lst _, xs, ws, σ, ρ, ρ', Fs, Q, e, fr, r, q => by cases e
  | .bin _ _ _, xs, ws, σ, ρ, ρ', Fs, Q, e, fr, r, q => by cases e
  | .neg _, xs, ws, σ, ρ, ρ', Fs, Q, e, fr, r, q => by cases e
  | .not _, xs, ws, σ, ρ, ρ', Fs, Q, e, fr, r, q => by cases e
  | .and _ _, xs, ws, σ, ρ, ρ', Fs, Q, e, fr, r, q => by cases e
  | .or _ _, xs, ws, σ, ρ, ρ', Fs, Q, e, fr, r, q => by cases e
  | .ite _ _ _, xs, ws, σ, ρ, ρ', Fs, Q, e, fr, r, q => by cases e
  | .cmp _ _, xs, ws, σ, ρ, ρ', Fs, Q, e, fr, r, q => by cases e
  | .cc _ _ _, xs, ws, σ, ρ, ρ', Fs, Q, e, fr, r, q => by cases e
  | .ix _ _, xs, ws, σ, ρ, ρ', Fs, Q, e, fr, r, q => by cases e
  | .sl _ _ _, xs, ws, σ, ρ, ρ', Fs, Q, e, fr, r, q => by cases e
  | .back _, xs, ws, σ, ρ, ρ', Fs, Q, e, fr, r, q => by cases e
  | .call _ _, xs, ws, σ, ρ, ρ', Fs, Q, e, fr, r, q => by cases e
  | .b1 _ _, xs, ws, σ, ρ, ρ', Fs, Q, e, fr, r, q => by cases e
  | .b2 _ _ _, xs, ws, σ, ρ, ρ', Fs, Q, e, fr, r, q => by cases e
  | .isi _ _, xs, ws, σ, ρ, ρ', Fs, Q, e, fr, r, q => by cases e
  | .mth _ _ _, xs, ws, σ, ρ, ρ', Fs, Q, e, fr, r, q => by cases e
  | .pop _, xs, ws, σ, ρ, ρ', Fs, Q, e, fr, r, q => by cases e
  | .popAt _ _, xs, ws, σ, ρ, ρ', Fs, Q, e, fr, r, q => by cases e
  | .rng1 _, xs, ws, σ, ρ, ρ', Fs, Q, e, fr, r, q => by cases e
  | .rng2 _ _, xs, ws, σ, ρ, ρ', Fs, Q, e, fr, r, q => by cases e
  | .rng3 _ _ _, xs, ws, σ, ρ, ρ', Fs, Q, e, fr, r, q => by cases e
  | .it _, xs, ws, σ, ρ, ρ', Fs, Q, e, fr, r, q => by cases e
  | .comp _ _ _ _, xs, ws, σ, ρ, ρ', Fs, Q, e, fr, r, q => by cases e
  | .comp2 _ _ _ _ _ _ _, xs, ws, σ, ρ, ρ', Fs, Q, e, fr, r, q => by cases e
end
/-! ### the list that grows -/
structure CSt (K : PySem.W.Frag) (M0 G0 : Addr → Prop) (Hb : Hp) (D : Addr) (ρ0 : Env) (σ : L2.St) (ρ : Env) (Fs : Nat → List Addr) (H : Hp) (ys : List R) (G : List Addr) : Prop where
  fr : FrM K H σ ρ Fs M0
  sub : ∀ a, Mem Fs a → M0 a
  keep : ∀ b o, ¬ M0 b → Hb b = some o → H b = some o
  kd : Kd ρ0 ρ
  acc : ∃ ws, H D = some (.lst ws) ∧ RepOs K H ws ys G
  nd : (D :: G).Nodup
  out : ∀ a ∈ D :: G, ¬ Mem Fs a
  accM : ∀ a ∈ D :: G, M0 a ∨ G0 a
  dM : M0 D
theorem walkW {G0' : Addr → Prop} {Da : Addr} {turn : R → Env → Out (List R × Env)} {Body : V → Hp → (Hp → Prop) → Prop} {Qd : Hp → Prop} {ys0 zs : List R} {G0 : List Addr} (wk : WalkOk K Hb M0 J xs) (hl : ∀ b, M0 b → Hb b ≠ none → ∃ ys, Hb b = some (.lst ys))
    (c0 : CSt K M0 G0' Hb Da ρ0 σ ρ0 Fs0 H0 ys0 G0) (e : compL turn xs ρ0 = .ok (zs, ρz)) (hz : ys0.length + zs.length ≤ line)
    (step : ∀ x r ρ Fs H ys G zs1 ρ1 Nx, CSt K M0 G0' Hb Da ρ0 σ ρ Fs H ys G → (∃ F, RepR K H x r F ∧ ∀ b ∈ F, ¬ M0 b) → turn r ρ = .ok (zs1, ρ1) → ys.length + zs1.length ≤ line → (∀ H' Fs' G', CSt K M0 G0' Hb Da ρ0 σ ρ1 Fs' H' (ys ++ zs1) G' → Nx H') → Body x H Nx)
    (fin : ∀ H' Fs' G', CSt K M0 G0' Hb Da ρ0 σ ρz Fs' H' (ys0 ++ zs) G' → Qd H') :
    ∃ W : Nat → Nat → Hp → Prop, (∃ m, W 0 m H0) ∧ ∀ i m H, W i m H → (J.stop i H ∧ Qd H) ∨ (J.go i H ∧ ∃ Nx : Hp → Prop, (∀ H', Nx H' → ∃ m', m' < m ∧ W (i + 1) m' H') ∧ ∀ x H', J.yld i H x H' → Body x H' Nx) := by
  refine ⟨fun i m H => m = xs.length - i ∧ i ≤ xs.length ∧ ∃ ρ Fs ys G zs', CSt K M0 G0' Hb Da ρ0 σ ρ Fs H ys G ∧ compL turn (xs.drop i) ρ = .ok (zs', ρz) ∧ ys ++ zs' = ys0 ++ zs, ⟨xs.length, by simp, Nat.zero_le _, ρ0, Fs0, ys0, G0, zs, c0, by simpa using e, rfl⟩, ?_⟩
  rintro i m H ⟨rfl, hi, ρ, Fs, ys, G, zs', c, e, ez⟩
  have w := wk.keep hl c.keep
  by_cases hlt : i < xs.length
  · rw [List.drop_eq_getElem_cons hlt] at e
    obtain ⟨y, e1, e⟩ := Out.bind_ok (show ((turn xs[i] ρ).bind fun y => (compL turn (xs.drop (i + 1)) y.2).bind fun z => .ok (y.1 ++ z.1, z.2)) = _ from e)
    obtain ⟨z, e2, e⟩ := Out.bind_ok e
    cases e
    have hlen : ys.length + y.1.length ≤ line := by
      have := congrArg List.length ez
      simp only [List.length_append] at this
      omega
    refine .inr ⟨w.go hlt, fun H' => ∃ Fs' G', CSt K M0 G0' Hb Da ρ0 σ y.2 Fs' H' (ys ++ y.1) G', ?_, fun x H' hy => ?_⟩
    · rintro H' ⟨Fs', G', c'⟩
      exact ⟨_, by omega, rfl, hlt, y.2, Fs', ys ++ y.1, G', z.1, c', e2, by rw [List.append_assoc]; exact ez⟩
    · obtain ⟨e3, hx⟩ := w.yld hlt hy
      subst e3
      exact step x _ ρ Fs _ ys G y.1 y.2 _ c hx e1 hlen fun H' Fs' G' c' => ⟨Fs', G', c'⟩
  · have e0 : i = xs.length := by omega
    subst e0
    rw [List.drop_length] at e
    cases e
    rw [List.append_nil] at ez
    subst ez
    exact .inl ⟨w.stop (Nat.le_refl _), fin H Fs G c⟩
/-- slots that are lent stay clear of M -/
theorem FrM.strong (fr0 : FrM K H0 σ ρ0 Fs0 M0) (sub : ∀ a, Mem Fs0 a → M0 a) (fr1 : Fr K H1 σ ρ1 Fs1) (st : Stp (Mem Fs0) (Mem Fs1) H0 H1) (kd : Kd ρ0 ρ1) : FrM K H1 σ ρ1 Fs1 M0 := by
  refine ⟨fun j => ?_, fr1.nd, fr1.dj⟩
  have k := kd.2 j
  have h := fr1.sl j
  have h0 := fr0.sl j
  cases e : slotAt ρ0 j with
  | no => rw [e] at k; rw [show slotAt ρ1 j = .no from k] at h ⊢; exact h
  | own r => rw [e] at k; obtain ⟨r', k⟩ := k; rw [k] at h ⊢; exact h
  | arg r => rw [e] at k; obtain ⟨r', k⟩ := k; rw [k] at h ⊢; exact h
  | bor r =>
    rw [e] at k h0
    rw [show slotAt ρ1 j = .bor r from k] at h ⊢
    obtain ⟨_, v, F', e1, r1, n⟩ := h0
    exact ⟨h.1, v, F', e1, r1.keep fr0.own st.keep fun a ha z => n a ha (sub a z), n⟩
end
end Pv
/-! Pv15: comprehensions. -/
namespace Pv
open PySem PySem.Spec PyProof.Rows L2
theorem noexc_ok {α : Type} {o : Out α} {z : α} (h : noexc o = .ok z) : o = .ok z := by cases o <;> first | exact h | cases h
theorem noexc_nx {α : Type} (o : Out α) : ∀ c, noexc o ≠ .exc c := by intro c h; cases o <;> cases h
theorem compL_nx {turn : R → Env → Out (List R × Env)} (h : ∀ r ρ c, turn r ρ ≠ .exc c) : ∀ (xs : List R) (ρ : Env) (c : Nat), compL turn xs ρ ≠ .exc c
  | [], _, _ => fun e => by cases e
  | x :: xs, ρ, c => Out.bind_nx (h x ρ) (fun y => Out.bind_nx (compL_nx h xs y.2) fun _ _ e => by cases e) c
theorem st_ext {σ σ' : L2.St} (hl : σ.length = σ'.length) (h : ∀ i, Vat σ i = Vat σ' i) : σ = σ' := by
  refine List.ext_getElem hl fun i h1 h2 => ?_
  have := h i
  unfold Vat at this
  rw [List.getElem?_eq_getElem h1, List.getElem?_eq_getElem h2] at this
  exact this
section
variable {K : PySem.W.Frag} {H H' H0 H1 Hb Hz : Hp} {σ σ' σ2 σL : L2.St} {ρ ρ' ρ0 ρ1 ρz ρL ρb ρe : Env} {Fs Fs' Fs0 Fs1 Fs2 Fse Fsz FsL : Nat → List Addr} {M M' M0 D Gp : Addr → Prop} {v x : V} {q : Q} {F F1 G : List Addr} {J : It} {xs ys : List R} {l : Lent} {s : Slot} {r : R} {Da : Addr} {vs ts : List Nat}
theorem bindC_ok {t : E} {Q : L2.St → Hp → Prop} (e : bindC t r ρ = .ok ρ') (fr : FrM K H σ ρ Fs M) (hr : RepR K H x r F) (hn : ∀ b ∈ F, ¬ M b) (q : ∀ σ' Fs', Bnd K H M (tgs t) σ σ' ρ ρ' Fs Fs' → Q σ' H) : tG K t x σ H Q := by
  cases r with
  | g g => exact bindT_ok t e fr hr.1 q
  | lst xs =>
    cases t with
    | var j =>
      cases e
      intro hj
      obtain ⟨Fs', b⟩ := bnd_var (s := .bor (.lst xs)) fr hj ⟨rfl, x, F, rfl, hr, hn⟩
      exact q _ _ b
    | _ => cases e
theorem FrM.wipe2 (h : FrM K H σ ρ Fs M) (js ks : List Nat) (hno : ∀ i ∈ ks, i ∉ js → slotAt ρ i = .no) : FrM K H (L2.wipe σ ks) (wipeS ρ js) (wipeF Fs js) M := by
  have h2 := h.wipe js
  refine ⟨fun i => ?_, h2.nd, h2.dj⟩
  rw [wipe_at, wipeS_at]
  unfold wipeF
  by_cases hj : i ∈ js
  · simp only [hj, if_true]
    exact rfl
  · simp only [hj, if_false]
    by_cases hk : i ∈ ks
    · have := h.sl i
      rw [hno i hk hj] at this ⊢
      exact this
    · rw [if_neg hk]; exact h.sl i
/-- a turn has gone by, its target is forgotten -/
theorem CSt.turn (hnew : ∀ a, Hb a = none → M0 a) (h0 : ∀ i ∈ vs, slotAt ρ0 i = .no) (hts : ∀ i ∈ ts, i ∈ vs) (c : CSt K M0 Gp Hb Da ρ0 (wipe σ vs) ρ Fs H ys G) (b : Bnd K H M0 ts (wipe σ vs) σ2 ρ ρb Fs Fs2) (fe : Fr K H' σ2 ρe Fse) (st : Stp (Mem Fs2) (Mem Fse) H H') (kd : Kd ρb ρe) :
    wipe σ2 vs = wipe σ vs ∧ CSt K M0 Gp Hb Da ρ0 (wipe σ vs) (wipeS ρe ts) (wipeF Fse ts) H' ys G := by
  have ew : wipe σ2 vs = wipe σ vs := by
    refine st_ext (by rw [wipe_length, b.ls]) fun i => ?_
    rw [wipe_at]
    by_cases hi : i ∈ vs
    · rw [if_pos hi, wipe_at, if_pos hi]
    · rw [if_neg hi, (b.un i fun z => hi (hts i z)).1]
  have new0 : ∀ a, H a = none → M0 a := fun a z => Classical.byContradiction fun n => by
    cases e : Hb a with
    | none => exact n (hnew a e)
    | some o => rw [c.keep a o n e] at z; cases z
  have sub2 : ∀ a, Mem Fs2 a → M0 a := fun a z => c.sub a (b.sub a z)
  have fre := b.fr.strong sub2 fe st kd
  obtain ⟨ws, hD, ho⟩ := c.acc
  have live : ∀ a ∈ Da :: G, H a ≠ none := fun a ha => by
    rcases List.mem_cons.mp ha with e | e
    · subst e; rw [hD]; simp
    · obtain ⟨xs, e⟩ := ho.own a e; rw [e]; simp
  have out2 : ∀ a ∈ Da :: G, ¬ Mem Fs2 a := fun a ha z => c.out a ha (b.sub a z)
  have noe : ∀ i ∈ vs, i ∉ ts → slotAt ρe i = .no := fun i hi hn => by
    have k1 := c.kd.2 i
    rw [h0 i hi] at k1
    have k2 := kd.2 i
    rw [(b.un i hn).2, show slotAt ρ i = .no from k1] at k2
    exact k2
  refine ⟨ew, ⟨ew ▸ fre.wipe2 ts vs noe, fun a z => ?_, fun b' o n e => st.keep b' o (fun z => n (sub2 b' z)) (c.keep b' o n e), ⟨?_, fun i => ?_⟩, ⟨ws, st.keep Da _ (out2 Da List.mem_cons_self) hD, ho.keep b.fr.own st.keep fun a ha => out2 a (List.mem_cons_of_mem _ ha)⟩, c.nd, fun a ha z => ?_, c.accM, c.dM⟩⟩
  · rcases st.new a (wipeF_mem z) with q | q
    · exact sub2 a q
    · exact new0 a q
  · rw [wipeS_len, kd.1, b.lr, c.kd.1]
  · rw [wipeS_at]
    split
    · rw [h0 i (hts i ‹_›)]; exact rfl
    · refine (c.kd.2 i).trans ?_
      rw [← (b.un i ‹_›).2]
      exact kd.2 i
  · rcases st.new a (wipeF_mem z) with q | q
    · exact out2 a ha q
    · exact live a ha q
/-- one more item -/
theorem CSt.push {y : V} {rr : R} {F4 : List Addr} (c : CSt K M0 Gp Hb Da ρ0 σ ρ Fs H ys G) (ho : RepO K H y rr F4) (nd : F4.Nodup) (n1 : ∀ a ∈ F4, ¬ Mem Fs a) (n2 : ∀ a ∈ F4, a ∉ Da :: G) (n3 : ∀ a ∈ F4, M0 a) :
    ∃ ws, H Da = some (.lst ws) ∧ ws.length = ys.length ∧ CSt K M0 Gp Hb Da ρ0 σ ρ Fs (upd H Da (.lst (ws ++ [y]))) (ys ++ [rr]) (G ++ F4) := by
  obtain ⟨ws, hD, hs⟩ := c.acc
  refine ⟨ws, hD, hs.len, ?_⟩
  have hDM : M0 Da := c.dM
  have hl : ∀ b, b = Da → ∃ xs, H b = some (.lst xs) := fun b e => ⟨ws, by rw [e]; exact hD⟩
  have k : ∀ b o, ¬ b = Da → H b = some o → upd H Da (.lst (ws ++ [y])) b = some o := fun b o n e => by rw [upd_ne n]; exact e
  have nd1 := List.nodup_cons.mp c.nd
  have inG : ∀ a ∈ G ++ F4, a ∈ G ∨ a ∈ F4 := fun a ha => List.mem_append.mp ha
  have s2 := (hs.keep (M := (· = Da)) hl k fun a ha e => nd1.1 (e ▸ ha)).append (us := [y]) (ys := [rr]) ⟨y, [], F4, [], rfl, ho.keep (M := (· = Da)) hl k fun a ha e => n2 a ha (e ▸ List.mem_cons_self), ⟨rfl, rfl⟩, rfl⟩
  rw [List.append_nil] at s2
  refine ⟨c.fr.keep (D := (· = Da)) hl k (fun a z e => c.out a (e ▸ List.mem_cons_self) z) fun a e => e ▸ hDM, c.sub, fun b o n e => k b o (fun z => n (z ▸ hDM)) (c.keep b o n e), c.kd, ⟨ws ++ [y], upd_same, s2⟩, List.nodup_cons.mpr ⟨fun z => ?_, List.nodup_append.mpr ⟨nd1.2, nd, fun a ha b hb e => n2 b hb (e ▸ List.mem_cons_of_mem _ ha)⟩⟩, fun a ha => ?_, fun a ha => ?_, hDM⟩
  · rcases inG _ z with q | q
    · exact nd1.1 q
    · exact n2 _ q List.mem_cons_self
  · rcases List.mem_cons.mp ha with q | q
    · exact c.out a (q ▸ List.mem_cons_self)
    · rcases inG a q with q | q
      · exact c.out a (List.mem_cons_of_mem _ q)
      · exact n1 a q
  · rcases List.mem_cons.mp ha with q | q
    · exact .inl (q ▸ hDM)
    · rcases inG a q with q | q
      · exact c.accM a (List.mem_cons_of_mem _ q)
      · exact .inl (n3 a q)
/-- the tests of a clause -/
def CondOk (K : PySem.W.Frag) (xc : Nat → Value) (cf : CallT) (Wf : WX) (ec : E) (tt : TT) : Prop := (ec.isNil = true ∧ tt = tYes) ∨ (ec.isNil = false ∧ tt = tT K xc cf Wf ec)
theorem cond_ok {xc : Nat → Value} {cf : CallT} {Wf : WX} {ec : E} {tt : TT} {C : Bool → Hp → Prop} {bb : Bool} {ρc : Env} (h : CondOk K xc cf Wf ec tt) (e : condE ec.isNil (ev cf ec) ρ = .ok (bb, ρc)) (fr : Fr K H σ ρ Fs)
    (q : ∀ H' Fs', Fr K H' σ ρc Fs' → Stp (Mem Fs) (Mem Fs') H H' → Kd ρ ρc → C bb H') : tt σ H C := by
  rcases h with ⟨h1, rfl⟩ | ⟨h1, rfl⟩
  · unfold condE at e
    rw [h1] at e
    cases e
    exact q H Fs fr ⟨fun _ _ _ e => e, fun _ z => .inl z⟩ (Kd.refl _)
  · unfold condE at e
    rw [h1] at e
    refine ⟨ρ, Fs, fr, ?_⟩
    rw [show evB cf ec ρ = .ok (bb, ρc) from e]
    intro v H' Fs' F fr' st _ kd rep
    rw [rep.1]
    exact q H' Fs' fr' st kd
/-- the innermost turn -/
theorem compT_step {xc : Nat → Value} {cf : CallT} {Wf : WX} {ec ee tg : E} {tt : TT} {zs1 : List R} {Nx : Hp → Prop} (hc : CondOk K xc cf Wf ec tt) (hnew : ∀ a, Hb a = none → M0 a) (h0 : ∀ i ∈ vs, slotAt ρ0 i = .no) (hts : ∀ i ∈ tgs tg, i ∈ vs)
    (c : CSt K M0 Gp Hb Da ρ0 (wipe σ vs) ρ Fs H ys G) (hx : ∃ F, RepR K H x r F ∧ ∀ b ∈ F, ¬ M0 b) (e : compT tg ec.isNil (ev cf ec) (ev cf ee) r ρ = .ok (zs1, ρ1)) (hz : ys.length + zs1.length ≤ line)
    (nx : ∀ H' Fs' G', CSt K M0 Gp Hb Da ρ0 (wipe σ vs) ρ1 Fs' H' (ys ++ zs1) G' → Nx H') :
    tG K tg x (wipe σ vs) H fun σ2 H2 => wipe σ2 vs = wipe σ vs ∧ tt σ2 H2 fun b H3 => if b = true then tE K xc cf Wf ee σ2 H3 fun y H4 => ∃ acc, H4 Da = some (.lst acc) ∧ acc.length < sizeLine ∧ Nx (upd H4 Da (.lst (acc ++ [y]))) else Nx H3 := by
  obtain ⟨F, hr, hn⟩ := hx
  obtain ⟨ρb, e1, e⟩ := Out.bind_ok (noexc_ok e)
  obtain ⟨⟨bb, ρc⟩, e2, e⟩ := Out.bind_ok e
  refine bindC_ok e1 c.fr hr hn fun σ2 Fs2 b => ?_
  have frb : Fr K H σ2 ρb Fs2 := b.fr.fr fun a z => c.sub a (b.sub a z)
  refine ⟨(c.turn hnew h0 hts b frb ⟨fun _ _ _ e => e, fun _ z => .inl z⟩ (Kd.refl _)).1, ?_⟩
  refine cond_ok hc e2 frb fun H3 Fs3 fr3 st3 kd3 => ?_
  cases bb with
  | false =>
    cases e
    have := (c.turn hnew h0 hts b fr3 st3 kd3).2
    simp only [Bool.false_eq_true, if_false]
    exact nx H3 _ G (by simpa using this)
  | true =>
    obtain ⟨⟨y, ρe⟩, e3, e⟩ := Out.bind_ok (show ((ev cf ee ρc).bind _) = _ from e)
    simp only [if_true]
    refine ⟨ρc, Fs3, fr3, ?_⟩
    rw [e3]
    intro yv H4 Fs4 F4 fr4 st4 nf4 kd4 rep
    cases y with
    | s j => cases e
    | b rr => cases e
    | v rr =>
      cases e
      have rep : QRep K H4 σ2 Fs4 yv (.v rr) F4 := rep
      have st := st3.trans st4
      have t := (c.turn hnew h0 hts b fr4 st (kd3.trans kd4)).2
      have sub2 : ∀ a, Mem Fs2 a → M0 a := fun a z => c.sub a (b.sub a z)
      have new0 : ∀ a, H a = none → M0 a := fun a z => Classical.byContradiction fun n => by
        cases e : Hb a with
        | none => exact n (hnew a e)
        | some o => rw [c.keep a o n e] at z; cases z
      have F4' : ∀ a ∈ F4, Mem Fs2 a ∨ H a = none := fun a ha => by
        rcases nf4 a ha with q | q | q
        · exact st3.new a q
        · cases q
        · exact back_none st3 q
      obtain ⟨ws0, hD0, ho0⟩ := c.acc
      obtain ⟨ws, hD, hlen, p⟩ := t.push rep.1 rep.2.1 (fun a ha z => rep.2.2 a ha (wipeF_mem z)) (fun a ha z => by
        rcases F4' a ha with q | q
        · exact c.out a z (b.sub a q)
        · rcases List.mem_cons.mp z with w | w
          · subst w; rw [hD0] at q; cases q
          · obtain ⟨_, w⟩ := ho0.own a w; rw [w] at q; cases q) fun a ha => by
        rcases F4' a ha with q | q
        · exact sub2 a q
        · exact new0 a q
      refine ⟨ws, hD, ?_, nx _ _ _ p⟩
      rw [hlen, ← line_eq]
      exact (by simpa using hz : ys.length + 1 ≤ line)
/-! ### what is hidden meanwhile -/
def hidB (l : Lent) (vs : List Nat) (i : Nat) : Bool := decide (i ∈ vs) || (match l with
  | .slot j => i == j
  | _ => false)
theorem hid_in (l : Lent) (hl : l ≠ .all) (vs : List Nat) (i : Nat) : wipeF (lendF l Fs) vs i = if hidB l vs i then [] else Fs i := by
  unfold wipeF hidB
  by_cases hi : i ∈ vs
  · simp [hi]
  · cases l with
    | none => simp [hi, lendF]
    | all => exact absurd rfl hl
    | slot j =>
      simp only [hi, if_false, decide_false, Bool.false_or]
      show updF Fs j [] i = _
      unfold updF
      by_cases e : i = j <;> simp [e]
theorem hid_slot (l : Lent) (hl : l ≠ .all) (vs : List Nat) (ρ : Env) (i : Nat) (h : hidB l vs i = false) : slotAt (wipeS (lendAs l ρ) vs) i = slotAt ρ i := by
  unfold hidB at h
  simp only [Bool.or_eq_false_iff, decide_eq_false_iff_not] at h
  rw [wipeS_at, if_neg h.1]
  cases l with
  | none => rfl
  | all => exact absurd rfl hl
  | slot j =>
    have : i ≠ j := by simpa using h.2
    show slotAt (ρ.set j _) i = _
    rw [slotAt_set, if_neg fun z => this z.1]
theorem hid_back (l : Lent) (hl : l ≠ .all) (vs : List Nat) {old ρ : Env} (hlen : ρ.length = old.length) (i : Nat) : slotAt (backC l old ρ vs) i = if hidB l vs i then slotAt old i else slotAt ρ i := by
  unfold hidB
  cases l with
  | none =>
    show slotAt (backS old ρ vs) i = _
    rw [backS_at hlen]
    by_cases hi : i ∈ vs <;> simp [hi]
  | all => exact absurd rfl hl
  | slot j =>
    show slotAt ((backS old ρ vs).set j (slotAt old j)) i = _
    rw [slotAt_set, backS_at hlen, backS_len]
    by_cases e : i = j
    · subst e
      by_cases hl : i < ρ.length
      · simp [hl]
      · simp [hl, slotAt_ge (Nat.le_of_not_lt hl), slotAt_ge (ρ := old) (by omega : old.length ≤ i)]
    · by_cases hi : i ∈ vs <;> simp [hi, e]
theorem backC_len (l : Lent) (vs : List Nat) {old ρ : Env} (hlen : ρ.length = old.length) : (backC l old ρ vs).length = old.length := by
  cases l with
  | none => show (backS old ρ vs).length = _; rw [backS_len, hlen]
  | all => rfl
  | slot j => show ((backS old ρ vs).set j _).length = _; rw [List.length_set, backS_len, hlen]
theorem lendAs_len (l : Lent) (ρ : Env) : (lendAs l ρ).length = ρ.length := by
  cases l with
  | none => rfl
  | all => exact List.length_map ..
  | slot j => exact List.length_set ..
/-- back from a block: σ is as it was -/
theorem back_out (l : Lent) (hl : l ≠ .all) (fr1 : Fr K H1 σ ρ1 Fs1) (fz : Fr K Hz (wipe σ vs) ρz Fsz) (st : Stp (Mem (wipeF (lendF l Fs1) vs)) (Mem Fsz) H1 Hz) (kd : Kd (wipeS (lendAs l ρ1) vs) ρz) :
    ∃ Fs', Fr K Hz σ (backC l ρ1 ρz vs) Fs' ∧ Stp (Mem Fs1) (Mem Fs') H1 Hz ∧ Kd ρ1 (backC l ρ1 ρz vs) ∧ ∀ a, Mem Fs' a → Mem Fsz a ∨ (Mem Fs1 a ∧ ¬ Mem (wipeF (lendF l Fs1) vs) a) := by
  have hlen : ρz.length = ρ1.length := by rw [kd.1, wipeS_len, lendAs_len]
  have hs := fun i => hid_in (Fs := Fs1) l hl vs i
  have hb := fun i => hid_back l hl vs hlen i
  have sub : ∀ j, ∀ a ∈ wipeF (lendF l Fs1) vs j, a ∈ Fs1 j := fun j a ha => by
    rw [hs] at ha
    split at ha
    · cases ha
    · exact ha
  have h0 : ∀ j, hidB l vs j = true → wipeF (lendF l Fs1) vs j = [] := fun j e => by rw [hs, if_pos e]
  have := Fr.merge (σ := σ) (σ' := σ) (ρ' := backC l ρ1 ρz vs) fr1 fz (hidB l vs) sub h0 st (fun j e => ?_) fun j e => ?_
  · refine ⟨_, this.1, this.2, ⟨backC_len l vs hlen, fun j => ?_⟩, fun a ⟨j, z⟩ => ?_⟩
    · rw [hb]
      split
      · exact Kd1.refl _
      · have := kd.2 j
        rwa [hid_slot l hl vs ρ1 j (Bool.not_eq_true _ ▸ ‹¬ _›)] at this
    · by_cases e : hidB l vs j = true
      · simp only [e, if_true] at z
        refine .inr ⟨⟨j, z⟩, fun ⟨i, w⟩ => ?_⟩
        have := fr1.dj _ _ _ (sub i a w) z
        subst this
        rw [h0 i e] at w; cases w
      · simp only [e] at z
        exact .inl ⟨j, z⟩
  · have hv : j ∉ vs := fun z => by unfold hidB at e; simp [z] at e
    refine ⟨by rw [hb, e]; rfl, by rw [wipe_at, if_neg hv], fun r er => ⟨?_, rfl⟩⟩
    have k := kd.2 j
    rw [hid_slot l hl vs ρ1 j e] at k
    cases es : slotAt ρ1 j with
    | no => rw [es] at k; rw [show slotAt ρz j = .no from k] at er; cases er
    | own r' => rw [es] at k; obtain ⟨_, k⟩ := k; rw [k] at er; cases er
    | arg r' => rw [es] at k; obtain ⟨_, k⟩ := k; rw [k] at er; cases er
    | bor r' => rw [es] at k; rw [show slotAt ρz j = .bor r' from k] at er; exact er
  · exact ⟨by rw [hb, if_pos e], rfl⟩
end
end Pv
/-! Pv16: comprehensions as expressions. -/
namespace Pv
open PySem PySem.Spec PyProof.Rows L2
/-- what may change, or is new -/
def MN (Fs : Nat → List Addr) (H : Hp) : Addr → Prop := fun a => Mem Fs a ∨ H a = none
section
variable {K : PySem.W.Frag} {xc : Nat → Value} {W Wf : WX} {cf : CallT} {H H' H0 H1 Hb Hz : Hp} {σ σ' σ2 σL : L2.St} {ρ ρ' ρ0 ρ1 ρz ρL ρb ρe : Env} {Fs Fs' Fs0 Fs1 Fs2 Fse Fsz FsL : Nat → List Addr} {M M' M0 : Addr → Prop} {v x : V} {q : Q} {F F1 G T : List Addr} {J : It} {xs ys zs : List R} {l : Lent} {s : Slot} {r : R} {D : Addr} {vs ts : List Nat} {C : VK}
theorem comp_start (fr1 : Fr K H1 σ ρ1 Fs1) (r1 : rpW K σ H1 Fs1 J (xs, l) F1) (hs : ∀ j, l = .slot j → (slotAt ρ1 j).r? = some (.lst xs)) (hD : H1 D = none) (vs : List Nat) :
    WalkOk K H1 (MN (wipeF (lendF l Fs1) vs) H1) J xs ∧ (∀ b, MN (wipeF (lendF l Fs1) vs) H1 b → H1 b ≠ none → ∃ ys, H1 b = some (.lst ys)) ∧ (∀ a, H1 a = none → MN (wipeF (lendF l Fs1) vs) H1 a) ∧
      CSt K (MN (wipeF (lendF l Fs1) vs) H1) (fun _ => False) H1 D (wipeS (lendAs l ρ1) vs) (wipe σ vs) (wipeS (lendAs l ρ1) vs) (wipeF (lendF l Fs1) vs) (upd H1 D (.lst [])) [] [] ∧ ∀ i ∈ vs, slotAt (wipeS (lendAs l ρ1) vs) i = .no := by
  have frL : Fr K H1 (wipe σ vs) (wipeS (lendAs l ρ1) vs) (wipeF (lendF l Fs1) vs) := ((fr1.lend (l := l)).m.wipe vs).fr fun a z => wipeF_mem z
  have frS : FrM K H1 (wipe σ vs) (wipeS (lendAs l ρ1) vs) (wipeF (lendF l Fs1) vs) (MN (wipeF (lendF l Fs1) vs) H1) := frL.strong frL ⟨fun _ _ _ e => e, fun a z => .inl z⟩ (Kd.refl _)
  refine ⟨walk_lent fr1 r1 hs fun a z => z.imp_left wipeF_mem, fun b hb hn => hb.elim (frL.own b) fun z => absurd z hn, fun a z => .inr z, ⟨?_, fun a z => .inl z, fun b o n e => ?_, Kd.refl _, ⟨[], upd_same, rfl, rfl⟩, by simp, fun a ha z => ?_, fun a ha => ?_, .inr hD⟩, fun i hi => by rw [wipeS_at, if_pos hi]⟩
  · exact frS.keep (D := fun _ => False) (fun _ z => z.elim) (fun b o _ e => Ext.new hD b o e) (fun _ _ z => z) fun _ z => z.elim
  · exact Ext.new hD b o e
  · have : a = D := by simpa using ha
    subst this
    obtain ⟨_, e⟩ := frL.own a z
    rw [hD] at e; cases e
  · have : a = D := by simpa using ha
    exact .inl (.inr (this ▸ hD))
theorem comp_end (fr1 : Fr K H1 σ ρ1 Fs1) (p1 : Post K xc W σ (rpQ K σ) ρ1 Fs1 T H1 C (.ok (.v (.lst zs), backC l ρ1 ρz vs))) (c : CSt K (MN (wipeF (lendF l Fs1) vs) H1) (fun _ => False) H1 D (wipeS (lendAs l ρ1) vs) (wipe σ vs) ρz Fsz Hz zs G) : C (.ref D) Hz := by
  obtain ⟨ws, hD, ho⟩ := c.acc
  have fz : Fr K Hz (wipe σ vs) ρz Fsz := c.fr.fr c.sub
  have subL : ∀ a, Mem (wipeF (lendF l Fs1) vs) a → Mem Fs1 a := fun a z => lendF_mem (wipeF_mem z)
  have st : Stp (Mem (wipeF (lendF l Fs1) vs)) (Mem Fsz) H1 Hz := ⟨fun b o n e => c.keep b o (fun z => z.elim n fun w => by rw [w] at e; cases e) e, c.sub⟩
  have nf : ∀ a ∈ D :: G, Mem Fs1 a ∨ a ∈ T ∨ H1 a = none := fun a ha => ((c.accM a ha).resolve_right id).elim (fun z => .inl (subL a z)) fun z => .inr (.inr z)
  have o : RepO K Hz (.ref D) (.lst zs) (D :: G) := ⟨D, ws, G, rfl, hD, ho, rfl⟩
  by_cases hl : l = .all
  · subst hl
    have e : Ext H1 Hz := fun b o e => st.keep b o (fun z => nomem b (wipeF_mem z)) e
    refine p1 (.ref D) Hz Fs1 (D :: G) (fr1.ext e) (Stp.ext e fun a z => .inl z) nf (Kd.refl _) ⟨o, c.nd, fun a ha z => ?_⟩
    rcases (c.accM a ha).resolve_right id with w | w
    · exact nomem a (wipeF_mem w)
    · obtain ⟨_, e⟩ := fr1.own a z
      rw [w] at e; cases e
  · obtain ⟨Fs', h1, h2, h3, h4⟩ := back_out l hl fr1 fz st c.kd
    refine p1 (.ref D) Hz Fs' (D :: G) h1 h2 nf h3 ⟨o, c.nd, fun a ha z => ?_⟩
    rcases h4 a z with w | ⟨w1, w2⟩
    · exact c.out a ha w
    · rcases (c.accM a ha).resolve_right id with w | w
      · exact w2 w
      · obtain ⟨_, e⟩ := fr1.own a w1
        rw [w] at e; cases e
theorem lc_sem {ee tg ei ec : E} {tt : TT} (hc : CondOk K xc cf Wf ec tt) (h : tE K xc cf W (.comp ee tg ei ec) σ H C) : tLc (tI K xc cf W ei) (tG K tg) tt (tE K xc cf Wf ee) (tgs tg) σ H C := by
  obtain ⟨ρ, Fs, fr, p⟩ := h
  refine ⟨ρ, Fs, fr, Post.bind p fun x ρ1 eo J H1 Fs1 F1 fr1 r1 p1 => ?_⟩
  intro D hD
  obtain ⟨xs, l⟩ := x
  have p1 : Post K xc W σ (rpQ K σ) ρ1 Fs1 ([] ++ F1) H1 C ((compL (compT tg ec.isNil (ev cf ec) (ev cf ee)) xs (wipeS (lendAs l ρ1) (tgs tg))).bind fun z =>
        if z.1.length ≤ line then .ok (.v (.lst z.1), backC l ρ1 z.2 (tgs tg)) else .stuck) := p1
  obtain ⟨wk, hl, hnew, c0, h0⟩ := comp_start fr1 r1 (fun j e => by subst e; exact walked_slot eo) hD (tgs tg)
  obtain ⟨z, ez, p2⟩ := p1.look (compL_nx (fun _ _ => noexc_nx _) _ _)
  obtain ⟨zs, ρz⟩ := z
  dsimp only at p2
  split at p2
  · rename_i hz
    exact walkW (Body := fun x H' Nx => tG K tg x (wipe σ (tgs tg)) H' fun σ2 H2 => wipe σ2 (tgs tg) = wipe σ (tgs tg) ∧ tt σ2 H2 fun b H3 => if b = true then tE K xc cf Wf ee σ2 H3 fun y H4 => ∃ acc, H4 D = some (.lst acc) ∧ acc.length < sizeLine ∧ Nx (upd H4 D (.lst (acc ++ [y]))) else Nx H3)
      wk hl c0 ez (by simpa using hz) (fun x r ρ Fs H ys G zs1 ρ1 Nx c hx e hz nx => compT_step hc hnew h0 (fun _ z => z) c hx e hz nx) fun H' Fs' G' c => comp_end fr1 p2 c
  · exact False.elim p2
/-! ### two sources -/
theorem FrM.lend2 {Mb Xs : Addr → Prop} (fr : FrM K H σ ρ Fs Mb) (hl : l ≠ .all) (hM : ∀ a, M a → Mem (lendF l Fs) a ∨ H a = none ∨ Xs a) (hMb : ∀ a, M a → H a ≠ none → Mb a) (hX : ∀ a, Xs a → ¬ Mem Fs a) : FrM K H σ (lendAs l ρ) (lendF l Fs) M := by
  have old : ∀ {w : Option V} {r : R}, (∃ v F', w = some v ∧ RepR K H v r F' ∧ ∀ a ∈ F', ¬ Mb a) → ∃ v F', w = some v ∧ RepR K H v r F' ∧ ∀ a ∈ F', ¬ M a := fun ⟨v, F', e, r1, n⟩ => ⟨v, F', e, r1, fun a ha z => n a ha (hMb a z (r1.live a ha))⟩
  have imp : ∀ {w : Option V} {s : Slot} {F : List Addr}, SlotOk K H Mb w s F → SlotOk K H M w s F := fun {w s F} h => by
    cases s with
    | bor r => exact ⟨h.1, old h.2⟩
    | _ => exact h
  cases l with
  | all => exact absurd rfl hl
  | none => exact ⟨fun j => imp (fr.sl j), fr.nd, fr.dj⟩
  | slot j =>
    have nj : ∀ a ∈ Fs j, ¬ M a := fun a ha z => by
      rcases hM a z with w | w | w
      · obtain ⟨i, hi⟩ := w
        have hi : a ∈ updF Fs j [] i := hi
        unfold updF at hi
        split at hi
        · cases hi
        · exact absurd (fr.dj _ _ _ hi ha) ‹_›
      · obtain ⟨_, e⟩ := fr.own a ⟨j, ha⟩
        rw [w] at e; cases e
      · exact hX a w ⟨j, ha⟩
    refine ⟨fun i => ?_, fun i => ?_, fun i k a hi hk => ?_⟩
    · show SlotOk K H _ (Vat σ i) (slotAt (ρ.set j (frz (slotAt ρ j))) i) (updF Fs j [] i)
      rw [slotAt_set]
      have z := fr.sl i
      by_cases e : i = j
      · subst e
        unfold updF
        rw [if_pos rfl]
        by_cases hl : i < ρ.length
        · rw [if_pos ⟨rfl, hl⟩]
          cases es : slotAt ρ i with
          | no => exact rfl
          | own r => rw [es] at z; obtain ⟨v, e1, r1⟩ := z; exact ⟨rfl, v, _, e1, r1.rep, nj⟩
          | arg r => rw [es] at z; obtain ⟨v, e1, r1⟩ := z; exact ⟨rfl, v, _, e1, r1.rep, nj⟩
          | bor r => rw [es] at z; exact ⟨rfl, old z.2⟩
        · rw [if_neg (fun q => hl q.2), slotAt_ge (Nat.le_of_not_lt hl)]; exact rfl
      · rw [if_neg (fun q => e q.1)]
        have : updF Fs j [] i = Fs i := by unfold updF; rw [if_neg e]
        rw [this]
        exact imp z
    · show (updF Fs j [] i).Nodup
      unfold updF; split
      · exact .nil
      · exact fr.nd i
    · have hi : a ∈ updF Fs j [] i := hi
      have hk : a ∈ updF Fs j [] k := hk
      unfold updF at hi hk
      split at hi
      · cases hi
      · split at hk
        · cases hk
        · exact fr.dj i k a hi hk
theorem walk_lent2 {Mb Xs : Addr → Prop} (fr : FrM K H σ ρ Fs Mb) (h : rpW K σ H Fs J (xs, l) F) (hs : ∀ j, l = .slot j → (slotAt ρ j).r? = some (.lst xs)) (hl : l ≠ .all) (hM : ∀ a, M a → Mem (lendF l Fs) a ∨ H a = none ∨ Xs a) (hMb : ∀ a, M a → H a ≠ none → Mb a) (hX : ∀ a, Xs a → ¬ Mem Fs a ∧ a ∉ F) : WalkOk K H M J xs := by
  have av : ∀ {v : V} {r : R} {F' : List Addr}, RepR K H v r F' → (∀ b ∈ F', ¬ Mem (lendF l Fs) b) → (∀ b ∈ F', ¬ Xs b) → ∀ b ∈ F', ¬ M b := fun r n m b hb z => (hM b z).elim (n b hb) fun z => z.elim (r.live b hb) (m b hb)
  cases l with
  | all => exact absurd rfl hl
  | none =>
    rcases h with ⟨lo, n, e1, e2, _⟩ | ⟨a, e, r, _, n⟩ | ⟨a, gs, e, r, e2, _⟩
    · exact .inl ⟨lo, n, e1, e2⟩
    · exact .inr (.inl ⟨a, F, e, r.rep, av r.rep n fun b hb z => (hX b z).2 hb⟩)
    · exact .inr (.inr ⟨a, gs, e, r, e2⟩)
  | slot j =>
    obtain ⟨_, a, hv, e⟩ := h
    have z := fr.sl j
    have es := hs j rfl
    have nj : ∀ a ∈ Fs j, ¬ Mem (updF Fs j []) a := fun a ha ⟨i, hi⟩ => by
      unfold updF at hi
      split at hi
      · cases hi
      · exact absurd (fr.dj _ _ _ hi ha) ‹_›
    have nx : ∀ a ∈ Fs j, ¬ Xs a := fun a ha z => (hX a z).1 ⟨j, ha⟩
    cases e1 : slotAt ρ j with
    | no => rw [e1] at es; cases es
    | own r => rw [e1] at es z; cases es; obtain ⟨v, e2, r1⟩ := z; rw [hv] at e2; cases e2; exact .inr (.inl ⟨a, _, e, r1.rep, av r1.rep nj nx⟩)
    | arg r => rw [e1] at es z; cases es; obtain ⟨v, e2, r1⟩ := z; rw [hv] at e2; cases e2; exact .inr (.inl ⟨a, _, e, r1.rep, av r1.rep nj nx⟩)
    | bor r =>
      rw [e1] at es z; cases es
      obtain ⟨_, v, F', e2, r1, n⟩ := z
      rw [hv] at e2; cases e2
      exact .inr (.inl ⟨a, F', e, r1, fun b hb q => n b hb (hMb b q (r1.live b hb))⟩)
theorem kd_turn (kd0 : Kd ρ0 ρ) (h0 : ∀ i ∈ ts, slotAt ρ0 i = .no) (lr : ρb.length = ρ.length) (un : ∀ i, i ∉ ts → slotAt ρb i = slotAt ρ i) (kd : Kd ρb ρe) : Kd ρ0 (wipeS ρe ts) := by
  refine ⟨by rw [wipeS_len, kd.1, lr, kd0.1], fun i => ?_⟩
  rw [wipeS_at]
  split
  · rw [h0 i ‹_›]; exact rfl
  · refine (kd0.2 i).trans ?_
    rw [← un i ‹_›]
    exact kd.2 i
theorem comp2_step {ee et ec ei1 et1 ec1 : E} {tt tt1 : TT} {zs1 : List R} {Nx : Hp → Prop} {Gp : Addr → Prop} (hc : CondOk K xc cf Wf ec tt) (hc1 : CondOk K xc cf Wf ec1 tt1) (hnew : ∀ a, Hb a = none → M0 a) (h0 : ∀ i ∈ vs, slotAt ρ0 i = .no) (hts : ∀ i ∈ tgs et, i ∈ vs) (hts1 : ∀ i ∈ tgs et1, i ∈ vs)
    (c : CSt K M0 Gp Hb D ρ0 (wipe σ vs) ρ Fs H ys G) (hx : ∃ F, RepR K H x r F ∧ ∀ b ∈ F, ¬ M0 b) (e : compT2 et et1 ec.isNil (ev cf ec) (evIt cf ei1) (compT et1 ec1.isNil (ev cf ec1) (ev cf ee)) r ρ = .ok (zs1, ρ1)) (hz : ys.length + zs1.length ≤ line)
    (nx : ∀ H' Fs' G', CSt K M0 Gp Hb D ρ0 (wipe σ vs) ρ1 Fs' H' (ys ++ zs1) G' → Nx H') :
    tG K et x (wipe σ vs) H fun σ2 H2 => wipe σ2 vs = wipe σ vs ∧ tt σ2 H2 fun b H3 =>
    if b = true then tI K xc cf Wf ei1 σ2 H3 fun J1 H4 => ∃ W1 : Nat → Nat → Hp → Prop, (∃ m, W1 0 m H4) ∧ ∀ j k H, W1 j k H →
      (J1.stop j H ∧ Nx H) ∨ (J1.go j H ∧ ∃ Nx1 : Hp → Prop, (∀ H', Nx1 H' → ∃ k', k' < k ∧ W1 (j + 1) k' H') ∧ ∀ x H', J1.yld j H x H' → tG K et1 x (wipe σ2 (tgs et1)) H' fun σ3 H5 => wipe σ3 (tgs et1) = wipe σ2 (tgs et1) ∧ tt1 σ3 H5 fun b H6 =>
        if b = true then tE K xc cf Wf ee σ3 H6 fun y H7 => ∃ acc, H7 D = some (.lst acc) ∧ acc.length < sizeLine ∧ Nx1 (upd H7 D (.lst (acc ++ [y]))) else Nx1 H6)
    else Nx H3 := by
  obtain ⟨F, hr, hn⟩ := hx
  obtain ⟨ρb, e1, e⟩ := Out.bind_ok (noexc_ok e)
  obtain ⟨⟨bb, ρc⟩, e2, e⟩ := Out.bind_ok e
  refine bindC_ok e1 c.fr hr hn fun σ2 Fs2 b => ?_
  have frb : Fr K H σ2 ρb Fs2 := b.fr.fr fun a z => c.sub a (b.sub a z)
  have ew := (c.turn hnew h0 hts b frb ⟨fun _ _ _ e => e, fun _ z => .inl z⟩ (Kd.refl _)).1
  refine ⟨ew, ?_⟩
  refine cond_ok hc e2 frb fun H3 Fs3 fr3 st3 kd3 => ?_
  cases bb with
  | false =>
    cases e
    have := (c.turn hnew h0 hts b fr3 st3 kd3).2
    simp only [Bool.false_eq_true, if_false]
    exact nx H3 _ G (by simpa using this)
  | true =>
    obtain ⟨⟨⟨xs1, l1⟩, ρi⟩, e3, e⟩ := Out.bind_ok (show ((evIt cf ei1 ρc).bind _) = _ from e)
    obtain ⟨⟨zs', ρz⟩, e4, e⟩ := Out.bind_ok e
    cases e
    have hl1 : l1 ≠ .all := fun z => by subst z; simp [Lent.some?] at e4
    have e4 : compL (compT et1 ec1.isNil (ev cf ec1) (ev cf ee)) xs1 (wipeS (lendAs l1 ρi) (tgs et1)) = .ok (zs', ρz) := by
      cases l1 with
      | all => exact absurd rfl hl1
      | none => exact e4
      | slot j => exact e4
    simp only [if_true]
    refine ⟨ρc, Fs3, fr3, ?_⟩
    rw [e3]
    intro J1 H4 Fs4 F4 fr4 st4 nf4 kd4 rep
    have rep : rpW K σ2 H4 Fs4 J1 (xs1, l1) F4 := rep
    have st := st3.trans st4
    have kd := kd3.trans kd4
    have t := (c.turn hnew h0 hts b fr4 st kd).2
    have sub2 : ∀ a, Mem Fs2 a → M0 a := fun a z => c.sub a (b.sub a z)
    have new0 : ∀ {H : Hp}, (∀ b o, ¬ M0 b → Hb b = some o → H b = some o) → ∀ a, H a = none → M0 a := fun k a z => Classical.byContradiction fun n => by
      cases e : Hb a with
      | none => exact n (hnew a e)
      | some o => rw [k a o n e] at z; cases z
    have sub4 : ∀ a, Mem Fs4 a → M0 a := fun a z => (st.new a z).elim (sub2 a) (new0 c.keep a)
    obtain ⟨ws, hD, ho⟩ := c.acc
    have live : ∀ a ∈ D :: G, H a ≠ none := fun a ha => by
      rcases List.mem_cons.mp ha with e | e
      · subst e; rw [hD]; simp
      · obtain ⟨xs, e⟩ := ho.own a e; rw [e]; simp
    have out2 : ∀ a ∈ D :: G, ¬ Mem Fs2 a := fun a ha z => c.out a ha (b.sub a z)
    have out4 : ∀ a ∈ D :: G, ¬ Mem Fs4 a := fun a ha z => (st.new a z).elim (out2 a ha) (live a ha)
    have F4' : ∀ a ∈ F4, Mem Fs2 a ∨ H a = none := fun a ha => by
      rcases nf4 a ha with q | q | q
      · exact st3.new a q
      · cases q
      · exact back_none st3 q
    have outF : ∀ a ∈ D :: G, a ∉ F4 := fun a ha z => (F4' a z).elim (out2 a ha) (live a ha)
    have fr4m : FrM K H4 σ2 ρi Fs4 M0 := b.fr.strong sub2 fr4 st kd
    obtain ⟨ws4, hD4, ho4⟩ := t.acc
    let FsI := wipeF (lendF l1 Fs4) (tgs et1)
    let M1 : Addr → Prop := fun a => Mem FsI a ∨ a = D ∨ H4 a = none
    have subI : ∀ a, Mem FsI a → Mem Fs4 a := fun a z => lendF_mem (wipeF_mem z)
    have hM : ∀ a, M1 a → Mem (lendF l1 Fs4) a ∨ H4 a = none ∨ a = D := fun a z => z.elim (fun w => .inl (wipeF_mem w)) fun w => w.elim (fun w => .inr (.inr w)) fun w => .inr (.inl w)
    have hMb : ∀ a, M1 a → H4 a ≠ none → M0 a := fun a z n => z.elim (fun w => sub4 a (subI a w)) fun w => w.elim (fun w => w ▸ c.dM) fun w => absurd w n
    have wk : WalkOk K H4 M1 J1 xs1 := walk_lent2 fr4m rep (fun j e => by subst e; exact walked_slot e3) hl1 hM hMb fun a e => e ▸ ⟨out4 D List.mem_cons_self, outF D List.mem_cons_self⟩
    have frI : FrM K H4 (wipe σ2 (tgs et1)) (wipeS (lendAs l1 ρi) (tgs et1)) FsI M1 := (fr4m.lend2 hl1 hM hMb fun a e => e ▸ out4 D List.mem_cons_self).wipe _
    have hlI : ∀ b, M1 b → H4 b ≠ none → ∃ ys, H4 b = some (.lst ys) := fun a z n => z.elim (frI.own a) fun w => w.elim (fun w => ⟨ws4, w ▸ hD4⟩) fun w => absurd w n
    have c0 : CSt K M1 (fun a => a ∈ G) H4 D (wipeS (lendAs l1 ρi) (tgs et1)) (wipe σ2 (tgs et1)) (wipeS (lendAs l1 ρi) (tgs et1)) FsI H4 ys G :=
      ⟨frI, fun a z => .inl z, fun _ _ _ e => e, Kd.refl _, ⟨ws4, hD4, ho4⟩, t.nd, fun a ha z => out4 a ha (subI a z), fun a ha => (List.mem_cons.mp ha).elim (fun e => .inl (.inr (.inl e))) .inr, .inr (.inl rfl)⟩
    refine walkW (Body := fun x H' Nx1 => tG K et1 x (wipe σ2 (tgs et1)) H' fun σ3 H5 => wipe σ3 (tgs et1) = wipe σ2 (tgs et1) ∧ tt1 σ3 H5 fun b H6 =>
        if b = true then tE K xc cf Wf ee σ3 H6 fun y H7 => ∃ acc, H7 D = some (.lst acc) ∧ acc.length < sizeLine ∧ Nx1 (upd H7 D (.lst (acc ++ [y]))) else Nx1 H6) wk hlI c0 e4 hz
      (fun x r ρ Fs H ys G zs1 ρ1 Nx c hx e hz nx => compT_step hc1 (fun a z => .inr (.inr z)) (fun i hi => by rw [wipeS_at, if_pos hi]) (fun _ z => z) c hx e hz nx) fun Hz Fsz G' cz => ?_
    -- behind the inner loop
    let H4d : Hp := fun a => if a = D then none else H4 a
    have dl : ∀ b, b = D → ∃ xs, H4 b = some (.lst xs) := fun b e => ⟨ws4, e ▸ hD4⟩
    have dk : ∀ b o, ¬ b = D → H4 b = some o → H4d b = some o := fun b o n e => by show (if b = D then none else H4 b) = _; rw [if_neg n]; exact e
    have dn : ∀ a, H4d a = none → a = D ∨ H4 a = none := fun a z => by
      by_cases e : a = D
      · exact .inl e
      · have z : (if a = D then none else H4 a) = none := z
        rw [if_neg e] at z; exact .inr z
    have ds : ∀ b o, H4d b = some o → b ≠ D ∧ H4 b = some o := fun b o z => by
      have z : (if b = D then none else H4 b) = some o := z
      by_cases e : b = D
      · rw [if_pos e] at z; cases z
      · rw [if_neg e] at z; exact ⟨e, z⟩
    have fr4d : FrM K H4d σ2 ρi Fs4 M0 := fr4m.keep (D := (· = D)) dl dk (fun a z e => out4 D List.mem_cons_self (e ▸ z)) fun a e => e ▸ c.dM
    have fz : Fr K Hz (wipe σ2 (tgs et1)) ρz Fsz := cz.fr.fr cz.sub
    have stz : Stp (Mem (wipeF (lendF l1 Fs4) (tgs et1))) (Mem Fsz) H4d Hz := ⟨fun b o n e => by
      obtain ⟨n2, e2⟩ := ds b o e
      exact cz.keep b o (fun z => z.elim n fun w => w.elim n2 fun w => by rw [w] at e2; cases e2) e2, fun a z => (cz.sub a z).elim .inl fun w => .inr (by
      show (if a = D then none else H4 a) = none
      by_cases e : a = D
      · rw [if_pos e]
      · rw [if_neg e]; exact w.resolve_left e)⟩
    obtain ⟨Fs', b1, b2, b3, b4⟩ := back_out l1 hl1 (fr4d.fr sub4) fz stz cz.kd
    have fre := fr4d.strong sub4 b1 b2 b3
    have noe : ∀ i ∈ vs, i ∉ tgs et → slotAt (backC l1 ρi ρz (tgs et1)) i = .no := fun i hi hn => by
      have k1 := c.kd.2 i
      rw [h0 i hi] at k1
      have k2 := (kd.trans b3).2 i
      rw [(b.un i hn).2, show slotAt ρ i = .no from k1] at k2
      exact k2
    refine nx Hz (wipeF Fs' (tgs et)) G' ⟨ew ▸ fre.wipe2 (tgs et) vs noe, fun a z => ?_, fun b' o n e => ?_, kd_turn c.kd (fun i hi => h0 i (hts i hi)) b.lr (fun i hi => (b.un i hi).2) (kd.trans b3), cz.acc, cz.nd, fun a ha z => ?_, fun a ha => ?_, c.dM⟩
    · rcases b2.new a (wipeF_mem z) with q | q
      · exact sub4 a q
      · rcases dn a q with w | w
        · exact w ▸ c.dM
        · exact new0 t.keep a w
    · exact b2.keep b' o (fun z => n (sub4 b' z)) (dk b' o (fun e => n (e ▸ c.dM)) (t.keep b' o n e))
    · rcases b4 a (wipeF_mem z) with w | ⟨w1, w2⟩
      · exact cz.out a ha w
      · rcases cz.accM a ha with (q | q | q) | q
        · exact w2 q
        · exact out4 D List.mem_cons_self (q ▸ w1)
        · obtain ⟨_, e⟩ := fr4.own a w1
          rw [q] at e; cases e
        · exact out4 a (List.mem_cons_of_mem _ q) w1
    · rcases cz.accM a ha with (q | q | q) | q
      · exact .inl (sub4 a (subI a q))
      · exact .inl (q ▸ c.dM)
      · exact .inl (new0 t.keep a q)
      · exact c.accM a (List.mem_cons_of_mem _ q)
theorem lc2_sem {ee et ei ec et1 ei1 ec1 : E} {tt tt1 : TT} (hc : CondOk K xc cf Wf ec tt) (hc1 : CondOk K xc cf Wf ec1 tt1) (h : tE K xc cf W (.comp2 ee et ei ec et1 ei1 ec1) σ H C) :
    tLc2 (tI K xc cf W ei) (tG K et) tt (tI K xc cf Wf ei1) (tG K et1) tt1 (tE K xc cf Wf ee) (tgs et ++ tgs et1) (tgs et1) σ H C := by
  obtain ⟨ρ, Fs, fr, p⟩ := h
  refine ⟨ρ, Fs, fr, Post.bind p fun x ρ1 eo J H1 Fs1 F1 fr1 r1 p1 => ?_⟩
  intro D hD
  obtain ⟨xs, l⟩ := x
  have p1 : Post K xc W σ (rpQ K σ) ρ1 Fs1 ([] ++ F1) H1 C ((compL (compT2 et et1 ec.isNil (ev cf ec) (evIt cf ei1) (compT et1 ec1.isNil (ev cf ec1) (ev cf ee))) xs (wipeS (lendAs l ρ1) (tgs et ++ tgs et1))).bind fun z =>
        if z.1.length ≤ line then .ok (.v (.lst z.1), backC l ρ1 z.2 (tgs et ++ tgs et1)) else .stuck) := p1
  obtain ⟨wk, hl, hnew, c0, h0⟩ := comp_start fr1 r1 (fun j e => by subst e; exact walked_slot eo) hD (tgs et ++ tgs et1)
  obtain ⟨z, ez, p2⟩ := p1.look (compL_nx (fun _ _ => noexc_nx _) _ _)
  obtain ⟨zs, ρz⟩ := z
  dsimp only at p2
  split at p2
  · rename_i hz
    exact walkW (Body := fun x H' Nx => tG K et x (wipe σ (tgs et ++ tgs et1)) H' fun σ2 H2 => wipe σ2 (tgs et ++ tgs et1) = wipe σ (tgs et ++ tgs et1) ∧ tt σ2 H2 fun b H3 =>
    if b = true then tI K xc cf Wf ei1 σ2 H3 fun J1 H4 => ∃ W1 : Nat → Nat → Hp → Prop, (∃ m, W1 0 m H4) ∧ ∀ j k H, W1 j k H →
      (J1.stop j H ∧ Nx H) ∨ (J1.go j H ∧ ∃ Nx1 : Hp → Prop, (∀ H', Nx1 H' → ∃ k', k' < k ∧ W1 (j + 1) k' H') ∧ ∀ x H', J1.yld j H x H' → tG K et1 x (wipe σ2 (tgs et1)) H' fun σ3 H5 => wipe σ3 (tgs et1) = wipe σ2 (tgs et1) ∧ tt1 σ3 H5 fun b H6 =>
        if b = true then tE K xc cf Wf ee σ3 H6 fun y H7 => ∃ acc, H7 D = some (.lst acc) ∧ acc.length < sizeLine ∧ Nx1 (upd H7 D (.lst (acc ++ [y]))) else Nx1 H6)
    else Nx H3)
      wk hl c0 ez (by simpa using hz) (fun x r ρ Fs H ys G zs1 ρ1 Nx c hx e hz nx => comp2_step hc hc1 hnew h0 (fun _ z => List.mem_append_left _ z) (fun _ z => List.mem_append_right _ z) c hx e hz nx) fun H' Fs' G' c => comp_end fr1 p2 c
  · exact False.elim p2
end
section
variable {X : Cx} {xc : Nat → Value} {cf : CallT} {W Wf : WX} {elt tg iter : Expr} {ifs : List Expr} {ee et ei ec : E} {pos : Pos} {scope : Scope} {own : List (Str × Nat)} {tt : TT}
/-- the parts of a comprehension's clause, within its block -/
structure LcOk (X : Cx) (xc : Nat → Value) (cf : CallT) (Wf : WX) (scope : Scope) (own : List (Str × Nat)) (elt tg iter : Expr) (ifs : List Expr) (tt : TT) (ee et ec : E) : Prop where
  ok : BlkOk X.N X.env.scope scope own
  hg : ∀ (s : Shared) (H : Hp) (C : Addr) (cl : List (Str × Addr)) (fp : List Addr), PG (X.blk s H scope (compEnvC scope cl C X.env) fp) tg (tG X.K et)
  ht : ∀ (s : Shared) (H : Hp) (C : Addr) (cl : List (Str × Addr)) (fp : List Addr), PTs (X.blk s H scope (compEnvC scope cl C X.env) fp) ifs tt
  he : ∀ (s : Shared) (H : Hp) (C : Addr) (cl : List (Str × Addr)) (fp : List Addr), PE (X.blk s H scope (compEnvC scope cl C X.env) fp) elt (tE X.K xc cf Wf ee)
  cd : CondOk X.K xc cf Wf ec tt
  hs : ∀ env x, foldedSetIterable iter env x = pure x
theorem s_comp (hc : X.calm = true) (hN : X.N.Nodup) (hi : PI X tg iter (tI X.K xc cf W ei)) (h : LcOk X xc cf Wf scope own elt tg iter ifs tt ee et ec) (hv : own.map (·.2) = tgs et) :
    PE X (.ListComp elt [⟨tg, iter, ifs, 0⟩] scope pos) (tE X.K xc cf W (.comp ee et ei ec)) :=
  PE.imp (pe_lc hc hN hi h.ok h.hg h.ht h.he (h.hs _)) fun σ H C w => by rw [hv]; exact lc_sem h.cd w
theorem s_comp2 {tg1 iter1 : Expr} {ifs1 : List Expr} {et1 ei1 ec1 : E} {tt1 : TT} (hc : X.calm = true) (hN : X.N.Nodup) (hi : PI X tg iter (tI X.K xc cf W ei)) (h : LcOk X xc cf Wf scope own elt tg iter ifs tt ee et ec) (hv : own.map (·.2) = tgs et ++ tgs et1)
    (hi1 : ∀ (s : Shared) (H : Hp) (C : Addr) (cl : List (Str × Addr)) (fp : List Addr), PI (X.blk s H scope (compEnvC scope cl C X.env) fp) tg1 iter1 (tI X.K xc cf Wf ei1))
    (hg1 : ∀ (s : Shared) (H : Hp) (C : Addr) (cl : List (Str × Addr)) (fp : List Addr), PG (X.blk s H scope (compEnvC scope cl C X.env) fp) tg1 (tG X.K et1)) (ht1 : ∀ (s : Shared) (H : Hp) (C : Addr) (cl : List (Str × Addr)) (fp : List Addr), PTs (X.blk s H scope (compEnvC scope cl C X.env) fp) ifs1 tt1)
    (cd1 : CondOk X.K xc cf Wf ec1 tt1) (hs1 : ∀ env x, foldedSetIterable iter1 env x = pure x) :
    PE X (.ListComp elt [⟨tg, iter, ifs, 0⟩, ⟨tg1, iter1, ifs1, 0⟩] scope pos) (tE X.K xc cf W (.comp2 ee et ei ec et1 ei1 ec1)) :=
  PE.imp (pe_lc2 (vs1 := tgs et1) hc hN hi h.ok (fun i hi => by rw [hv]; exact List.mem_append_right _ hi) h.hg h.ht hi1 hg1 ht1 h.he (h.hs _) hs1) fun σ H C w => by rw [hv]; exact lc2_sem h.cd cd1 w
end
end Pv
/-! Pv17: statements: what they leave; the simple ones. -/
namespace Pv
open PySem PySem.Spec PyProof.Rows L2
structure Kp (σ σ' : L2.St) (ρ ρ' : Env) : Prop where
  ls : σ'.length = σ.length
  lr : ρ'.length = ρ.length
  arg : ∀ j r, slotAt ρ' j = .arg r → (∃ r0, slotAt ρ j = .arg r0) ∧ Vat σ' j = Vat σ j
  bor : ∀ j r, slotAt ρ' j = .bor r → slotAt ρ j = .bor r ∧ Vat σ' j = Vat σ j
theorem Kp.refl (σ : L2.St) (ρ : Env) : Kp σ σ ρ ρ := ⟨rfl, rfl, fun _ r e => ⟨⟨r, e⟩, rfl⟩, fun _ _ e => ⟨e, rfl⟩⟩
theorem Kp.trans {σ σ1 σ2 : L2.St} {ρ ρ1 ρ2 : Env} (h : Kp σ σ1 ρ ρ1) (k : Kp σ1 σ2 ρ1 ρ2) : Kp σ σ2 ρ ρ2 :=
  ⟨k.ls.trans h.ls, k.lr.trans h.lr, fun j r e => by
    obtain ⟨⟨r0, e0⟩, e1⟩ := k.arg j r e
    obtain ⟨h0, h1⟩ := h.arg j r0 e0
    exact ⟨h0, e1.trans h1⟩, fun j r e => by
    obtain ⟨e0, e1⟩ := k.bor j r e
    obtain ⟨h0, h1⟩ := h.bor j r e0
    exact ⟨h0, e1.trans h1⟩⟩
theorem Kd.kp {ρ ρ' : Env} (h : Kd ρ ρ') (σ : L2.St) : Kp σ σ ρ ρ' := by
  refine ⟨rfl, h.1, fun j r e => ?_, fun j r e => ?_⟩
  · have k := h.2 j
    cases es : slotAt ρ j with
    | no => rw [es] at k; rw [show slotAt ρ' j = .no from k] at e; cases e
    | own r' => rw [es] at k; obtain ⟨_, k⟩ := k; rw [k] at e; cases e
    | arg r' => exact ⟨⟨r', rfl⟩, rfl⟩
    | bor r' => rw [es] at k; rw [show slotAt ρ' j = .bor r' from k] at e; cases e
  · have k := h.2 j
    cases es : slotAt ρ j with
    | no => rw [es] at k; rw [show slotAt ρ' j = .no from k] at e; cases e
    | own r' => rw [es] at k; obtain ⟨_, k⟩ := k; rw [k] at e; cases e
    | arg r' => rw [es] at k; obtain ⟨_, k⟩ := k; rw [k] at e; cases e
    | bor r' => rw [es] at k; rw [show slotAt ρ' j = .bor r' from k] at e; exact ⟨e, rfl⟩
/-- what is wanted behind a statement -/
def PostS (K : PySem.W.Frag) (xc : Nat → Value) (W : WX) (σ : L2.St) (ρ : Env) (Fs : Nat → List Addr) (H : Hp) (D : Ends) : Out Fl → Prop
  | .ok (.next ρ') => ∀ σ' H' Fs', Fr K H' σ' ρ' Fs' → Stp (Mem Fs) (Mem Fs') H H' → Kp σ σ' ρ ρ' → D.nx σ' H'
  | .ok (.brk ρ') => ∀ σ' H' Fs', Fr K H' σ' ρ' Fs' → Stp (Mem Fs) (Mem Fs') H H' → Kp σ σ' ρ ρ' → D.bk σ' H'
  | .ok (.cont ρ') => ∀ σ' H' Fs', Fr K H' σ' ρ' Fs' → Stp (Mem Fs) (Mem Fs') H H' → Kp σ σ' ρ ρ' → D.ct σ' H'
  | .ok (.ret r ρ') => ∀ v σ' H' Fs' F, Fr K H' σ' ρ' Fs' → Stp (Mem Fs) (Mem Fs') H H' → Kp σ σ' ρ ρ' → RepO K H' v r F → F.Nodup → (∀ a ∈ F, ¬ Mem Fs' a) → (∀ a ∈ F, Mem Fs a ∨ H a = none) → D.rt v H'
  | .exc c => ∀ σ' H', σ'.length = σ.length → (∀ b o, ¬ Mem Fs b → H b = some o → H' b = some o) → W (xc c) none σ' H'
  | .stuck => False
def tS (K : PySem.W.Frag) (xc : Nat → Value) (cf : CallT) (W : WX) (s : S) : TS := fun D σ H => ∃ ρ Fs, Fr K H σ ρ Fs ∧ PostS K xc W σ ρ Fs H D (exec cf s ρ)
theorem PS.imp {X : Cx} {st : Stmt} {t t' : TS} (h : PS X st t) (hi : ∀ D σ H, t' D σ H → t D σ H) : PS X st t' := ⟨fun pins s σ H D I w => h.run pins s σ H D I (hi _ _ _ w)⟩
theorem PSs.imp {X : Cx} {st : List Stmt} {t t' : TS} (h : PSs X st t) (hi : ∀ D σ H, t' D σ H → t D σ H) : PSs X st t' := ⟨fun pins s σ H D I w => h.run pins s σ H D I (hi _ _ _ w)⟩
theorem PG.imp {X : Cx} {e : Expr} {t t' : TG} (h : PG X e t) (hi : ∀ v σ H Q, σ.length = X.N.length → t' v σ H Q → t v σ H Q) : PG X e t' := ⟨fun pins s σ H v u Q I r w => h.run pins s σ H v u Q I r (hi _ _ _ _ I.len w)⟩
section
variable {γ δ : Type} {K : PySem.W.Frag} {xc : Nat → Value} {cf : CallT} {W : WX} {H H' H1 : Hp} {σ σ1 : L2.St} {ρ ρ' ρ1 : Env} {Fs Fs' Fs1 : Nat → List Addr} {v : V} {q : Q} {F F1 : List Addr} {D : Ends} {rep1 : Rp γ δ}
theorem Stp.refl' (H : Hp) (M : Addr → Prop) : Stp M M H H := ⟨fun _ _ _ e => e, fun _ z => .inl z⟩
/-- an expression of a statement; it begins behind others of its -/
theorem PostS.bindE {C1 : δ → Hp → Prop} {o : Out (γ × Env)} {f : γ × Env → Out Fl} (st : Stp (Mem Fs) (Mem Fs1) H H1) (p : PostS K xc W σ ρ Fs H D (o.bind f))
    (h : ∀ q2 ρ2, o = .ok (q2, ρ2) → ∀ v2 H2 Fs2 F2, Fr K H2 σ ρ2 Fs2 → Stp (Mem Fs1) (Mem Fs2) H1 H2 → (∀ a ∈ F2, Mem Fs1 a ∨ H1 a = none) → Kd ρ1 ρ2 → rep1 H2 Fs2 v2 q2 F2 → PostS K xc W σ ρ Fs H D (f (q2, ρ2)) → C1 v2 H2) : Post K xc W σ rep1 ρ1 Fs1 [] H1 C1 o := by
  cases o with
  | ok x => exact fun v2 H2 Fs2 F2 fr2 st2 nf2 kd2 rep => h x.1 x.2 rfl v2 H2 Fs2 F2 fr2 st2 (fun a ha => (nf2 a ha).elim .inl fun z => z.elim (fun z => nomatch z) .inr) kd2 rep p
  | exc c => exact fun H' k => p σ H' rfl (keep_trans st k)
  | stuck => exact p
theorem PostS.look {ε : Type} {o : Out ε} {f : ε → Out Fl} (p : PostS K xc W σ ρ Fs H D (o.bind f)) (nx : ∀ c, o ≠ .exc c) : ∃ z, o = .ok z ∧ PostS K xc W σ ρ Fs H D (f z) := by
  cases o with
  | ok z => exact ⟨z, rfl, p⟩
  | exc c => exact absurd rfl (nx c)
  | stuck => exact False.elim p
theorem back_new (s : Stp (Mem Fs) (Mem Fs1) H H1) {a : Addr} (h : Mem Fs1 a ∨ H1 a = none) : Mem Fs a ∨ H a = none := h.elim (s.new a) (back_none s)
/-- it begins behind other statements -/
theorem PostS.rebase {o : Out Fl} (p : PostS K xc W σ ρ Fs H D o) (st : Stp (Mem Fs) (Mem Fs1) H H1) (kp : Kp σ σ1 ρ ρ1) : PostS K xc W σ1 ρ1 Fs1 H1 D o := by
  cases o with
  | ok f => cases f with
    | next ρ' => exact fun σ' H' Fs' fr s k => p σ' H' Fs' fr (st.trans s) (kp.trans k)
    | brk ρ' => exact fun σ' H' Fs' fr s k => p σ' H' Fs' fr (st.trans s) (kp.trans k)
    | cont ρ' => exact fun σ' H' Fs' fr s k => p σ' H' Fs' fr (st.trans s) (kp.trans k)
    | ret r ρ' => exact fun v σ' H' Fs' F fr s k ro nd nm nf => p v σ' H' Fs' F fr (st.trans s) (kp.trans k) ro nd nm fun a ha => back_new st (nf a ha)
  | exc c => exact fun σ' H' hl k => p σ' H' (hl.trans kp.ls) (keep_trans st k)
  | stuck => exact p
/-- slots that are lent stay clear of M -/
theorem FrM.strongS {M0 : Addr → Prop} (fr0 : FrM K H σ ρ Fs M0) (sub : ∀ a, Mem Fs a → M0 a) (fr1 : Fr K H1 σ1 ρ1 Fs1) (st : Stp (Mem Fs) (Mem Fs1) H H1) (kp : Kp σ σ1 ρ ρ1) : FrM K H1 σ1 ρ1 Fs1 M0 := by
  refine ⟨fun j => ?_, fr1.nd, fr1.dj⟩
  have h := fr1.sl j
  cases e : slotAt ρ1 j with
  | no => rw [e] at h; exact h
  | own r => rw [e] at h; exact h
  | arg r => rw [e] at h; exact h
  | bor r =>
    rw [e] at h
    obtain ⟨e0, e1⟩ := kp.bor j r e
    have h0 := fr0.sl j
    rw [e0] at h0
    obtain ⟨_, v, F', e2, r1, n⟩ := h0
    exact ⟨h.1, v, F', e1.trans e2, r1.keep fr0.own st.keep fun a ha z => n a ha (sub a z), n⟩
theorem Fr.strongS (fr0 : Fr K H σ ρ Fs) (fr1 : Fr K H1 σ1 ρ1 Fs1) (st : Stp (Mem Fs) (Mem Fs1) H H1) (kp : Kp σ σ1 ρ ρ1) : FrM K H1 σ1 ρ1 Fs1 (MN Fs H) := by
  refine ⟨fun j => ?_, fr1.nd, fr1.dj⟩
  have h := fr1.sl j
  cases e : slotAt ρ1 j with
  | no => rw [e] at h; exact h
  | own r => rw [e] at h; exact h
  | arg r => rw [e] at h; exact h
  | bor r =>
    rw [e] at h
    obtain ⟨e0, e1⟩ := kp.bor j r e
    have h0 := fr0.sl j
    rw [e0] at h0
    obtain ⟨_, v, F', e2, r1, n⟩ := h0
    exact ⟨h.1, v, F', e1.trans e2, r1.keep fr0.own st.keep n, fun a ha z => z.elim (n a ha) (r1.live a ha)⟩
/-- somebody's own, of a result -/
theorem take_ok {r : R} {M : Addr → Prop} {ρ2 : Env} (e : take ρ1 q = .ok (r, ρ2)) (fr : FrM K H σ ρ1 Fs1 M) (rq : QRep K H σ Fs1 v q F) (hM : ∀ a, Mem Fs1 a → M a) (hF : ∀ a ∈ F, M a) :
    ∃ Fs2 F2, FrM K H σ ρ2 Fs2 M ∧ RepO K H v r F2 ∧ F2.Nodup ∧ (∀ a ∈ F2, ¬ Mem Fs2 a) ∧ (∀ a ∈ F2, M a) ∧ (∀ a, Mem Fs2 a → Mem Fs1 a) ∧ Kp σ σ ρ1 ρ2 := by
  cases q with
  | v r' => cases e; exact ⟨Fs1, F, fr, rq.1, rq.2.1, rq.2.2, hF, fun _ z => z, Kp.refl _ _⟩
  | b r' => cases e
  | s j =>
    cases es : slotAt ρ1 j with
    | own r' =>
      simp only [Pv.take, es] at e
      cases e
      have h := fr.sl j
      rw [es] at h
      obtain ⟨v', e1, r1⟩ := h
      rw [rq.2] at e1; cases e1
      have nj : ∀ a, Mem (updF Fs1 j []) a → a ∉ Fs1 j := fun a ⟨i, hi⟩ z => by
        unfold updF at hi
        split at hi
        · cases hi
        · exact absurd (fr.dj _ _ _ hi z) ‹_›
      have hl : j < ρ1.length := slotAt_lt fun z => by rw [es] at z; cases z
      refine ⟨updF Fs1 j [], Fs1 j, fr.put1 hl rfl .nil (fun _ _ _ _ z => nomatch z), r1, fr.nd j, fun a ha z => nj a z ha, fun a ha => hM a ⟨j, ha⟩, fun a z => (updF_mem z).elim id fun z => (nomatch z), ⟨rfl, by simp, fun i r e => ?_, fun i r e => ?_⟩⟩
      · rw [slotAt_set] at e
        split at e
        · cases e
        · exact ⟨⟨r, e⟩, rfl⟩
      · rw [slotAt_set] at e
        split at e
        · cases e
        · exact ⟨e, rfl⟩
    | no => simp only [Pv.take, es] at e; cases e
    | arg r' => simp only [Pv.take, es] at e; cases e
    | bor r' => simp only [Pv.take, es] at e; cases e
theorem take_nx (ρ : Env) (q : Q) : ∀ c, take ρ q ≠ .exc c := by
  intro c h
  cases q with
  | v r => cases h
  | b r => cases h
  | s j => unfold Pv.take at h; dsimp only at h; split at h <;> cases h
/-- a slot is set anew -/
theorem set_own {r : R} {M : Addr → Prop} {j : Nat} (fr : FrM K H σ ρ Fs M) (hM : ∀ a, Mem Fs a → M a) (ro : RepO K H v r F) (nd : F.Nodup) (nm : ∀ a ∈ F, ¬ Mem Fs a) (hF : ∀ a ∈ F, M a) (hj : j < σ.length) :
    ∃ Fs', FrM K H (σ.set j (some v)) (ρ.set j (.own r)) Fs' M ∧ (∀ a, Mem Fs' a → Mem Fs a ∨ a ∈ F) ∧ Kp σ (σ.set j (some v)) ρ (ρ.set j (.own r)) := by
  obtain ⟨Fs', h1, h2⟩ := fr.set (s := .own r) hj ⟨v, rfl, ro⟩ nd fun i _ a ha z => nm a z ⟨i, ha⟩
  refine ⟨Fs', h1, fun a z => (h2 a z).elim (fun ⟨i, _, q⟩ => .inl ⟨i, q⟩) .inr, ⟨by simp, by simp, fun i r' e => ?_, fun i r' e => ?_⟩⟩
  · rw [slotAt_set] at e
    split at e
    · cases e
    · rename_i n
      by_cases hi : i = j
      · subst hi
        have : ¬ i < ρ.length := fun z => n ⟨rfl, z⟩
        rw [slotAt_ge (Nat.le_of_not_lt this)] at e; cases e
      · rw [vat_set, if_neg fun z => hi z.1]; exact ⟨⟨r', e⟩, rfl⟩
  · rw [slotAt_set] at e
    split at e
    · cases e
    · rename_i n
      by_cases hi : i = j
      · subst hi
        have : ¬ i < ρ.length := fun z => n ⟨rfl, z⟩
        rw [slotAt_ge (Nat.le_of_not_lt this)] at e; cases e
      · rw [vat_set, if_neg fun z => hi z.1]; exact ⟨e, rfl⟩
end
section
variable {X : Cx} {xc : Nat → Value} {cf : CallT} {W : WX} {a b e tg : Expr} {ea eb ec : E} {pos p : Pos} {st : Stmt} {sts sts2 : List Stmt} {s t : S}
theorem s_skips : PSs X [] (tS X.K xc cf W .skip) := PSs.imp pss_nil fun D σ H ⟨ρ, Fs, fr, p⟩ => p σ H Fs fr (Stp.refl' _ _) (Kp.refl _ _)
theorem s_pass : PS X (.Pass pos) (tS X.K xc cf W .skip) := PS.imp ps_pass fun D σ H ⟨ρ, Fs, fr, p⟩ => p σ H Fs fr (Stp.refl' _ _) (Kp.refl _ _)
theorem s_brk : PS X (.Break pos) (tS X.K xc cf W .brk) := PS.imp ps_break fun D σ H ⟨ρ, Fs, fr, p⟩ => p σ H Fs fr (Stp.refl' _ _) (Kp.refl _ _)
theorem s_cont : PS X (.Continue pos) (tS X.K xc cf W .cont) := PS.imp ps_continue fun D σ H ⟨ρ, Fs, fr, p⟩ => p σ H Fs fr (Stp.refl' _ _) (Kp.refl _ _)
theorem seq_sem {D : Ends} {σ : L2.St} {H : Hp} (h : tS X.K xc cf W (.seq s t) D σ H) : tSeq (tS X.K xc cf W s) (tS X.K xc cf W t) D σ H := by
  obtain ⟨ρ, Fs, fr, p⟩ := h
  refine ⟨ρ, Fs, fr, ?_⟩
  have p : PostS X.K xc W σ ρ Fs H D ((exec cf s ρ).bind fun f => (match f with
    | .next ρ' => exec cf t ρ'
    | f => .ok f)) := p
  cases eo : exec cf s ρ with
  | stuck => rw [eo] at p; exact p
  | exc c => rw [eo] at p; exact p
  | ok f =>
    rw [eo] at p
    cases f with
    | next ρ' => exact fun σ' H' Fs' fr' st kp => ⟨ρ', Fs', fr', PostS.rebase (show PostS X.K xc W σ ρ Fs H D (exec cf t ρ') from p) st kp⟩
    | brk ρ' => exact p
    | cont ρ' => exact p
    | ret r ρ' => exact p
theorem s_seq (h1 : PS X st (tS X.K xc cf W s)) (h2 : PSs X sts (tS X.K xc cf W t)) : PSs X (st :: sts) (tS X.K xc cf W (.seq s t)) := PSs.imp (pss_cons h1 h2) fun D σ H h => seq_sem h
theorem s_sole (h1 : PS X st (tS X.K xc cf W s)) : PSs X [st] (tS X.K xc cf W s) := pss_one h1
def isLC : Expr → Bool
  | .ListComp _ _ _ _ => true
  | .SetComp _ _ _ _ => true
  | .DictComp _ _ _ _ _ => true
  | _ => false
theorem swaps_no {t : Option Expr} {l : Nat} {env : PySem.Env} (h : isLC e = false) : swapsWith e t l env = pure false := by
  cases e <;> first | rfl | cases h
theorem sole_no {t : Expr} {l : Nat} {env : PySem.Env} (h : isLC e = false) : swapsWithSole [t] e l env = pure false := by
  unfold swapsWithSole; exact swaps_no h
theorem s_exp (he : PE X e (tE X.K xc cf W ea)) (hn : isLC e = false) : PS X (.Expr e pos) (tS X.K xc cf W (.exp ea)) := by
  refine PS.imp (ps_expr he (swaps_no hn)) fun D σ H ⟨ρ, Fs, fr, p⟩ => ⟨ρ, Fs, fr, PostS.bindE (Stp.refl' _ _) p fun q2 ρ2 _ v2 H2 Fs2 F2 fr2 st2 _ kd _ p2 => ?_⟩
  exact p2 σ H2 Fs2 fr2 st2 (kd.kp σ)
theorem ret_sem {D : Ends} {σ : L2.St} {H : Hp} (h : tS X.K xc cf W (.ret ea) D σ H) : tE X.K xc cf W ea σ H D.rt := by
  obtain ⟨ρ, Fs, fr, p⟩ := h
  refine ⟨ρ, Fs, fr, PostS.bindE (Stp.refl' _ _) p fun q2 ρ2 _ v2 H2 Fs2 F2 fr2 st2 nf2 kd rq p2 => ?_⟩
  obtain ⟨⟨r, ρ3⟩, e3, p3⟩ := p2.look (take_nx _ _)
  obtain ⟨Fs3, F3, h1, h2, h3, h4, h5, h6, h7⟩ := take_ok e3 (fr.strongS fr2 st2 (kd.kp σ)) rq st2.new nf2
  exact p3 v2 σ H2 Fs3 F3 (h1.fr fun a z => st2.new a (h6 a z)) ⟨st2.keep, fun a z => st2.new a (h6 a z)⟩ ((kd.kp σ).trans h7) h2 h3 h4 h5
theorem s_ret (he : PE X e (tE X.K xc cf W ea)) : PS X (.Return (some e) pos) (tS X.K xc cf W (.ret ea)) := PS.imp (ps_ret he) fun D σ H h => ret_sem h
theorem s_retN : PS X (.Return none pos) (tS X.K xc cf W (.ret (.k .non))) := PS.imp ps_retN fun D σ H ⟨ρ, Fs, fr, p⟩ => p .non σ H Fs [] fr (Stp.refl' _ _) (Kp.refl _ _) ⟨rfl, rfl⟩ .nil (fun _ z => nomatch z) (fun _ z => nomatch z)
theorem if_sem {D : Ends} {σ : L2.St} {H : Hp} (h : tS X.K xc cf W (.ifs ec s t) D σ H) : tIfS (tT X.K xc cf W ec) (tS X.K xc cf W s) (tS X.K xc cf W t) D σ H := by
  obtain ⟨ρ, Fs, fr, p⟩ := h
  refine ⟨ρ, Fs, fr, PostS.bindE (rep1 := rpB) (Stp.refl' _ _) p fun q2 ρ2 _ v2 H2 Fs2 F2 fr2 st2 nf2 kd rq p2 => ?_⟩
  obtain ⟨rfl, _⟩ := rq
  cases v2 with
  | true => exact ⟨ρ2, Fs2, fr2, PostS.rebase p2 st2 (kd.kp σ)⟩
  | false => exact ⟨ρ2, Fs2, fr2, PostS.rebase p2 st2 (kd.kp σ)⟩
theorem s_if {c : Expr} (hc : PT X c (tT X.K xc cf W ec)) (h1 : PSs X sts (tS X.K xc cf W s)) (h2 : PSs X sts2 (tS X.K xc cf W t)) : PS X (.If c sts sts2 pos) (tS X.K xc cf W (.ifs ec s t)) := PS.imp (ps_if hc h1 h2) fun D σ H h => if_sem h
/-! ### name = .. -/
theorem set_sem {D : Ends} {j : Nat} {σ : L2.St} {H : Hp} (h : tS X.K xc cf W (.set j ea) D σ H) : tE X.K xc cf W ea σ H fun x H1 => j < σ.length → D.nx (σ.set j (some x)) H1 := by
  obtain ⟨ρ, Fs, fr, p⟩ := h
  refine ⟨ρ, Fs, fr, PostS.bindE (Stp.refl' _ _) p fun q2 ρ2 _ v2 H2 Fs2 F2 fr2 st2 nf2 kd rq p2 => ?_⟩
  intro hj
  obtain ⟨⟨r, ρ3⟩, e3, p3⟩ := p2.look (take_nx _ _)
  obtain ⟨Fs3, F3, h1, h2, h3, h4, h5, h6, h7⟩ := take_ok e3 (fr.strongS fr2 st2 (kd.kp σ)) rq st2.new nf2
  obtain ⟨Fs4, k1, k2, k3⟩ := set_own (j := j) h1 (fun a z => st2.new a (h6 a z)) h2 h3 h4 h5 hj
  have sub : ∀ a, Mem Fs4 a → MN Fs H a := fun a z => (k2 a z).elim (fun w => st2.new a (h6 a w)) (h5 a)
  exact p3 _ H2 Fs4 (k1.fr sub) ⟨st2.keep, sub⟩ (((kd.kp σ).trans h7).trans k3)
theorem g_name {j : Nat} {x : Str} (hN : X.N.Nodup) (hi : X.N[j]? = some x) (hx : Loc X.env.scope x) (hf : X.fn x = true ∨ X.env.scope.names.lookup x = some .local) : PG X (.Name x pos) (tG X.K (.var j)) := by
  refine PG.imp (pg_name hN hi hx hf) fun v σ H Q hl h => h ?_
  rw [hl]
  exact (List.getElem?_eq_some_iff.mp hi).1
theorem s_set {j : Nat} {x : Str} {pos' : Pos} (hN : X.N.Nodup) (hi : X.N[j]? = some x) (hx : Loc X.env.scope x) (he : PE X e (tE X.K xc cf W ea)) (hn : isLC e = false) (hf : X.fn x = true ∨ X.env.scope.names.lookup x = some .local) : PS X (.Assign [.Name x pos'] e pos) (tS X.K xc cf W (.set j ea)) :=
  PS.imp (ps_asg he (g_name hN hi hx hf) (sole_no hn) rfl rfl) fun D σ H h => set_sem h
end
end Pv
/-! Pv18: comprehensions that are stored; targets of several; loops. -/
namespace Pv
open PySem PySem.Spec PyProof.Rows L2
theorem PS.impL {X : Cx} {st : Stmt} {t t' : TS} (h : PS X st t) (hi : ∀ D σ H, σ.length = X.N.length → t' D σ H → t D σ H) : PS X st t' := ⟨fun pins s σ H D I w => h.run pins s σ H D I (hi _ _ _ I.len w)⟩
theorem tE.imp {K : PySem.W.Frag} {xc : Nat → Value} {cf : CallT} {W : WX} {e : E} {σ : L2.St} {H : Hp} {C C' : VK} (h : tE K xc cf W e σ H C) (hi : ∀ v H, C v H → C' v H) : tE K xc cf W e σ H C' := by
  obtain ⟨ρ, Fs, fr, p⟩ := h
  exact ⟨ρ, Fs, fr, p.imp hi⟩
section
variable {X : Cx} {xc : Nat → Value} {cf : CallT} {W Wf : WX} {elt tg iter : Expr} {ifs : List Expr} {ee et ei ec : E} {pos spos py : Pos} {scope : Scope} {own : List (Str × Nat)} {tt : TT}
theorem swaps_lc {gs : List Comprehension} {y : Str} {l : Nat} {env : PySem.Env} : ∃ b : Bool, swapsWith (.ListComp elt gs scope pos) (some (.Name y py)) l env = pure b ∧ (b = true → env.kindOf y = some .local) := by
  refine ⟨_, rfl, fun h => ?_⟩
  simp only [Bool.and_eq_true, beq_iff_eq] at h
  have := h.1.1.2
  cases e : env.kindOf y with
  | none => rw [e] at this; cases this
  | some k => rw [e] at this; cases k <;> first | rfl | cases this
theorem s_setLc {j : Nat} {y : Str} (hc : X.calm = true) (hN : X.N.Nodup) (hy : X.N[j]? = some y) (hx : Loc X.env.scope y) (hf : X.fn y = true ∨ X.env.scope.names.lookup y = some .local) (hi : PI X tg iter (tI X.K xc cf W ei)) (h : LcOk X xc cf Wf scope own elt tg iter ifs tt ee et ec) (hv : own.map (·.2) = tgs et) :
    PS X (.Assign [.Name y py] (.ListComp elt [⟨tg, iter, ifs, 0⟩] scope pos) spos) (tS X.K xc cf W (.set j (.comp ee et ei ec))) := by
  obtain ⟨b, hs, hl⟩ := swaps_lc (elt := elt) (gs := [⟨tg, iter, ifs, 0⟩]) (scope := scope) (pos := pos) (py := py) (y := y) (l := spos.line) (env := X.env)
  cases b with
  | true =>
    refine PS.impL (ps_setLc hc hN hy (hl rfl) hs hi h.ok h.hg h.ht h.he (h.hs _)) fun D σ H hlen w => ?_
    show tLc _ _ _ _ (own.map (·.2)) σ H _
    rw [hv]
    refine lc_sem h.cd ((set_sem w).imp fun v H q => q ?_)
    rw [hlen]; exact (List.getElem?_eq_some_iff.mp hy).1
  | false =>
    exact PS.imp (ps_asg (s_comp hc hN hi h hv) (g_name hN hy hx hf) (by unfold swapsWithSole; exact hs) rfl rfl) fun D σ H h => set_sem h
theorem s_setLc2 {j : Nat} {y : Str} {tg1 iter1 : Expr} {ifs1 : List Expr} {et1 ei1 ec1 : E} {tt1 : TT} (hc : X.calm = true) (hN : X.N.Nodup) (hy : X.N[j]? = some y) (hx : Loc X.env.scope y) (hf : X.fn y = true ∨ X.env.scope.names.lookup y = some .local) (hi : PI X tg iter (tI X.K xc cf W ei)) (h : LcOk X xc cf Wf scope own elt tg iter ifs tt ee et ec) (hv : own.map (·.2) = tgs et ++ tgs et1)
    (hi1 : ∀ (s : Shared) (H : Hp) (C : Addr) (cl : List (Str × Addr)) (fp : List Addr), PI (X.blk s H scope (compEnvC scope cl C X.env) fp) tg1 iter1 (tI X.K xc cf Wf ei1))
    (hg1 : ∀ (s : Shared) (H : Hp) (C : Addr) (cl : List (Str × Addr)) (fp : List Addr), PG (X.blk s H scope (compEnvC scope cl C X.env) fp) tg1 (tG X.K et1)) (ht1 : ∀ (s : Shared) (H : Hp) (C : Addr) (cl : List (Str × Addr)) (fp : List Addr), PTs (X.blk s H scope (compEnvC scope cl C X.env) fp) ifs1 tt1)
    (cd1 : CondOk X.K xc cf Wf ec1 tt1) (hs1 : ∀ env x, foldedSetIterable iter1 env x = pure x) :
    PS X (.Assign [.Name y py] (.ListComp elt [⟨tg, iter, ifs, 0⟩, ⟨tg1, iter1, ifs1, 0⟩] scope pos) spos) (tS X.K xc cf W (.set j (.comp2 ee et ei ec et1 ei1 ec1))) := by
  obtain ⟨b, hs, hl⟩ := swaps_lc (elt := elt) (gs := [⟨tg, iter, ifs, 0⟩, ⟨tg1, iter1, ifs1, 0⟩]) (scope := scope) (pos := pos) (py := py) (y := y) (l := spos.line) (env := X.env)
  cases b with
  | true =>
    refine PS.impL (ps_setLc2 (vs1 := tgs et1) hc hN hy (hl rfl) hs hi h.ok (fun i hi => by rw [hv]; exact List.mem_append_right _ hi) h.hg h.ht hi1 hg1 ht1 h.he (h.hs _) hs1) fun D σ H hlen w => ?_
    show tLc2 _ _ _ _ _ _ _ (own.map (·.2)) _ σ H _
    rw [hv]
    refine lc2_sem h.cd cd1 ((set_sem w).imp fun v H q => q ?_)
    rw [hlen]; exact (List.getElem?_eq_some_iff.mp hy).1
  | false =>
    exact PS.imp (ps_asg (s_comp2 hc hN hi h hv hi1 hg1 ht1 cd1 hs1) (g_name hN hy hx hf) (by unfold swapsWithSole; exact hs) rfl rfl) fun D σ H h => set_sem h
end
/-! ### targets of several -/
section
variable {K : PySem.W.Frag} {xc : Nat → Value} {cf : CallT} {W : WX} {H H' H1 : Hp} {σ σ1 σ2 : L2.St} {ρ ρ' ρ1 ρb ρL : Env} {Fs Fs' Fs1 Fs2 FsL : Nat → List Addr} {v : V} {q : Q} {F F1 : List Addr} {D : Ends} {l : Lent} {M : Addr → Prop}
def Own0 (s : Slot) : Prop := s = .no ∨ ∃ g, s = .own (.g g)
mutual
theorem bindT_own : ∀ (t : E) {x : G} {ρ ρ' : Env}, bindT t x ρ = .ok ρ' → ρ'.length = ρ.length ∧ ∀ i, (i ∈ tgs t → Own0 (slotAt ρ' i)) ∧ (i ∉ tgs t → slotAt ρ' i = slotAt ρ i)
  | .var j, x, ρ, ρ', e => by
    cases e
    refine ⟨by simp, fun i => ⟨fun hi => ?_, fun hi => ?_⟩⟩
    · have : i = j := by simpa [tgs] using hi
      subst this
      rw [slotAt_set]
      split
      · exact .inr ⟨_, rfl⟩
      · rename_i n
        exact .inl (slotAt_ge (Nat.le_of_not_lt fun z => n ⟨rfl, z⟩))
    · have : i ≠ j := by simpa [tgs] using hi
      rw [slotAt_set, if_neg fun z => this z.1]
  | .tup ts, x, ρ, ρ', e => by
    cases x with
    | tup xs => exact bindTs_own ts e
    | _ => cases e
  | .nil, x, ρ, ρ', e => by cases e
  | .cons _ _, x, ρ, ρ', e => by cases e
  | .k _, x, ρ, ρ', e => by cases e
  | .lst _, x, ρ, ρ', e => by cases e
  | .bin _ _ _, x, ρ, ρ', e => by cases e
  | .neg _, x, ρ, ρ', e => by cases e
  | .not _, x, ρ, ρ', e => by cases e
  | .and _ _, x, ρ, ρ', e => by cases e
  | .or _ _, x, ρ, ρ', e => by cases e
  | .ite _ _ _, x, ρ, ρ', e => by cases e
  | .cmp _ _, x, ρ, ρ', e => by cases e
  | .cc _ _ _, x, ρ, ρ', e => by cases e
  | .ix _ _, x, ρ, ρ', e => by cases e
  | .sl _ _ _, x, ρ, ρ', e => by cases e
  | .back _, x, ρ, ρ', e => by cases e
  | .call _ _, x, ρ, ρ', e => by cases e
  | .b1 _ _, x, ρ, ρ', e => by cases e
  | .b2 _ _ _, x, ρ, ρ', e => by cases e
  | .isi _ _, x, ρ, ρ', e => by cases e
  | .mth _ _ _, x, ρ, ρ', e => by cases e
  | .pop _, x, ρ, ρ', e => by cases e
  | .popAt _ _, x, ρ, ρ', e => by cases e
  | .rng1 _, x, ρ, ρ', e => by cases e
  | .rng2 _ _, x, ρ, ρ', e => by cases e
  | .rng3 _ _ _, x, ρ, ρ', e => by cases e
  | .it _, x, ρ, ρ', e => by cases e
  | .comp _ _ _ _, x, ρ, ρ', e => by cases e
  | .comp2 _ _ _ _ _ _ _, x, ρ, ρ', e => by cases e
theorem bindTs_own : ∀ (t : E) {xs : List G} {ρ ρ' : Env}, bindTs t xs ρ = .ok ρ' → ρ'.length = ρ.length ∧ ∀ i, (i ∈ tgs t → Own0 (slotAt ρ' i)) ∧ (i ∉ tgs t → slotAt ρ' i = slotAt ρ i)
  | .nil, xs, ρ, ρ', e => by
    cases xs with
    | nil => cases e; exact ⟨rfl, fun i => ⟨(fun z => nomatch z), fun _ => rfl⟩⟩
    | cons _ _ => cases e
  | .cons t ts, xs, ρ, ρ', e => by
    cases xs with
    | nil => cases e
    | cons y ys =>
      obtain ⟨ρ1, e1, e2⟩ := Out.bind_ok (show ((bindT t y ρ).bind fun ρ' => bindTs ts ys ρ') = _ from e)
      obtain ⟨a1, a2⟩ := bindT_own t e1
      obtain ⟨b1, b2⟩ := bindTs_own ts e2
      refine ⟨b1.trans a1, fun i => ⟨fun hi => ?_, fun hi => ?_⟩⟩
      · by_cases h : i ∈ tgs ts
        · exact (b2 i).1 h
        · rw [(b2 i).2 h]
          exact (a2 i).1 ((List.mem_append.mp hi).resolve_right h)
      · rw [(b2 i).2 fun z => hi (List.mem_append_right _ z), (a2 i).2 fun z => hi (List.mem_append_left _ z)]
  | .tup _, xs, ρ, ρ', e => by cases e
  | .var _, xs, ρ, ρ', e => by cases e
  | .k _, xs, ρ, ρ', e => by cases e
  | .lst _, xs, ρ, ρ', e => by cases e
  | .bin _ _ _, xs, ρ, ρ', e => by cases e
  | .neg _, xs, ρ, ρ', e => by cases e
  | .not _, xs, ρ, ρ', e => by cases e
  | .and _ _, xs, ρ, ρ', e => by cases e
  | .or _ _, xs, ρ, ρ', e => by cases e
  | .ite _ _ _, xs, ρ, ρ', e => by cases e
  | .cmp _ _, xs, ρ, ρ', e => by cases e
  | .cc _ _ _, xs, ρ, ρ', e => by cases e
  | .ix _ _, xs, ρ, ρ', e => by cases e
  | .sl _ _ _, xs, ρ, ρ', e => by cases e
  | .back _, xs, ρ, ρ', e => by cases e
  | .call _ _, xs, ρ, ρ', e => by cases e
  | .b1 _ _, xs, ρ, ρ', e => by cases e
  | .b2 _ _ _, xs, ρ, ρ', e => by cases e
  | .isi _ _, xs, ρ, ρ', e => by cases e
  | .mth _ _ _, xs, ρ, ρ', e => by cases e
  | .pop _, xs, ρ, ρ', e => by cases e
  | .popAt _ _, xs, ρ, ρ', e => by cases e
  | .rng1 _, xs, ρ, ρ', e => by cases e
  | .rng2 _ _, xs, ρ, ρ', e => by cases e
  | .rng3 _ _ _, xs, ρ, ρ', e => by cases e
  | .it _, xs, ρ, ρ', e => by cases e
  | .comp _ _ _ _, xs, ρ, ρ', e => by cases e
  | .comp2 _ _ _ _ _ _ _, xs, ρ, ρ', e => by cases e
end
mutual
theorem bindT_nx : ∀ (t : E) (x : G) (ρ : Env) (c : Nat), bindT t x ρ ≠ .exc c
  | .tup ts, x, ρ, c => by
    intro e
    cases x with
    | tup xs => exact bindTs_nx ts xs ρ c e
    | _ => cases e
  | .var _, x, ρ, c => by intro e; cases e
  | .nil, x, ρ, c => by intro e; cases e
  | .cons _ _, x, ρ, c => by intro e; cases e
  | .k _, x, ρ, c => by intro e; cases e
  | .lst _, x, ρ, c => by intro e; cases e
  | .bin _ _ _, x, ρ, c => by intro e; cases e
  | .neg _, x, ρ, c => by intro e; cases e
  | .not _, x, ρ, c => by intro e; cases e
  | .and _ _, x, ρ, c => by intro e; cases e
  | .or _ _, x, ρ, c => by intro e; cases e
  | .ite _ _ _, x, ρ, c => by intro e; cases e
  | .cmp _ _, x, ρ, c => by intro e; cases e
  | .cc _ _ _, x, ρ, c => by intro e; cases e
  | .ix _ _, x, ρ, c => by intro e; cases e
  | .sl _ _ _, x, ρ, c => by intro e; cases e
  | .back _, x, ρ, c => by intro e; cases e
  | .call _ _, x, ρ, c => by intro e; cases e
  | .b1 _ _, x, ρ, c => by intro e; cases e
  | .b2 _ _ _, x, ρ, c => by intro e; cases e
  | .isi _ _, x, ρ, c => by intro e; cases e
  | .mth _ _ _, x, ρ, c => by intro e; cases e
  | .pop _, x, ρ, c => by intro e; cases e
  | .popAt _ _, x, ρ, c => by intro e; cases e
  | .rng1 _, x, ρ, c => by intro e; cases e
  | .rng2 _ _, x, ρ, c => by intro e; cases e
  | .rng3 _ _ _, x, ρ, c => by intro e; cases e
  | .it _, x, ρ, c => by intro e; cases e
  | .comp _ _ _ _, x, ρ, c => by intro e; cases e
  | .comp2 _ _ _ _ _ _ _, x, ρ, c => by intro e; cases e
theorem bindTs_nx : ∀ (t : E) (x : List G) (ρ : Env) (c : Nat), bindTs t x ρ ≠ .exc c
  | .nil, x, ρ, c => by intro e; cases x <;> cases e
  | .cons t ts, x, ρ, c => by
    cases x with
    | nil => intro e; cases e
    | cons y ys => exact Out.bind_nx (bindT_nx t y ρ) (fun ρ1 => bindTs_nx ts ys ρ1) c
  | .tup _, x, ρ, c => by intro e; cases e
  | .var _, x, ρ, c => by intro e; cases e
  | .k _, x, ρ, c => by intro e; cases e
  | .lst _, x, ρ, c => by intro e; cases e
  | .bin _ _ _, x, ρ, c => by intro e; cases e
  | .neg _, x, ρ, c => by intro e; cases e
  | .not _, x, ρ, c => by intro e; cases e
  | .and _ _, x, ρ, c => by intro e; cases e
  | .or _ _, x, ρ, c => by intro e; cases e
  | .ite _ _ _, x, ρ, c => by intro e; cases e
  | .cmp _ _, x, ρ, c => by intro e; cases e
  | .cc _ _ _, x, ρ, c => by intro e; cases e
  | .ix _ _, x, ρ, c => by intro e; cases e
  | .sl _ _ _, x, ρ, c => by intro e; cases e
  | .back _, x, ρ, c => by intro e; cases e
  | .call _ _, x, ρ, c => by intro e; cases e
  | .b1 _ _, x, ρ, c => by intro e; cases e
  | .b2 _ _ _, x, ρ, c => by intro e; cases e
  | .isi _ _, x, ρ, c => by intro e; cases e
  | .mth _ _ _, x, ρ, c => by intro e; cases e
  | .pop _, x, ρ, c => by intro e; cases e
  | .popAt _ _, x, ρ, c => by intro e; cases e
  | .rng1 _, x, ρ, c => by intro e; cases e
  | .rng2 _ _, x, ρ, c => by intro e; cases e
  | .rng3 _ _ _, x, ρ, c => by intro e; cases e
  | .it _, x, ρ, c => by intro e; cases e
  | .comp _ _ _ _, x, ρ, c => by intro e; cases e
  | .comp2 _ _ _ _ _ _ _, x, ρ, c => by intro e; cases e
end
theorem Bnd.kp {t : E} {x : G} (b : Bnd K H M (tgs t) σ σ2 ρ ρb Fs Fs2) (e : bindT t x ρ = .ok ρb) : Kp σ σ2 ρ ρb := by
  have h := (bindT_own t e).2
  refine ⟨b.ls, b.lr, fun i r er => ?_, fun i r er => ?_⟩
  · by_cases hi : i ∈ tgs t
    · rcases (h i).1 hi with z | ⟨g, z⟩ <;> rw [z] at er <;> cases er
    · obtain ⟨h1, h2⟩ := b.un i hi
      rw [h2] at er; exact ⟨⟨r, er⟩, h1⟩
  · by_cases hi : i ∈ tgs t
    · rcases (h i).1 hi with z | ⟨g, z⟩ <;> rw [z] at er <;> cases er
    · obtain ⟨h1, h2⟩ := b.un i hi
      rw [h2] at er; exact ⟨er, h1⟩
theorem unp_sem {t ea : E} {σ : L2.St} {H : Hp} (h : tS K xc cf W (.unp t ea) D σ H) : tE K xc cf W ea σ H fun x H1 => tG K t x σ H1 D.nx := by
  obtain ⟨ρ, Fs, fr, p⟩ := h
  refine ⟨ρ, Fs, fr, PostS.bindE (Stp.refl' _ _) p fun q2 ρ2 _ v2 H2 Fs2 F2 fr2 st2 nf2 kd rq p2 => ?_⟩
  cases q2 with
  | s j => exact False.elim p2
  | b r => exact False.elim p2
  | v r => cases r with
    | lst _ => exact False.elim p2
    | g g => cases g with
      | tup xs =>
        obtain ⟨ρb, e, p3⟩ := PostS.look (f := fun ρ' => .ok (.next ρ')) p2 (bindT_nx _ _ _)
        refine bindT_ok t e fr2.m rq.1.1 fun σ' Fs' b => ?_
        have sub : ∀ a, Mem Fs' a → MN Fs H a := fun a z => st2.new a (b.sub a z)
        exact p3 σ' H2 Fs' (b.fr.fr fun a z => b.sub a z) ⟨st2.keep, sub⟩ ((kd.kp σ).trans (b.kp e))
      | _ => exact False.elim p2
/-! ### loops -/
theorem mask_len : ∀ {a b : Env}, a.length = b.length → (mask a b).length = b.length
  | [], [], _ => rfl
  | _ :: a, _ :: b, h => by simp only [mask, List.length_cons] at h ⊢; rw [mask_len (by omega)]
  | [], _ :: _, h => by simp at h
  | _ :: _, [], h => by simp at h
theorem mask_at : ∀ {a b : Env} (_ : a.length = b.length) (i : Nat), slotAt (mask a b) i = if (slotAt a i).isNo then .no else slotAt b i
  | [], [], _, i => by simp [mask, slotAt, Slot.isNo]
  | x :: a, y :: b, h, 0 => by simp [mask, slotAt]
  | x :: a, y :: b, h, i + 1 => by
    have := mask_at (a := a) (b := b) (by simpa using h) i
    simpa [mask, slotAt] using this
  | [], _ :: _, h, _ => by simp at h
  | _ :: _, [], h, _ => by simp at h
theorem mask_ok (fr : Fr K H σ1 ρ' Fs') (kp : Kp σ σ1 ρL ρ') : ∃ Fs2, Fr K H σ1 (mask ρL ρ') Fs2 ∧ (∀ a, Mem Fs2 a → Mem Fs' a) ∧ Kp σ σ1 ρL (mask ρL ρ') := by
  have hl : ρL.length = ρ'.length := kp.lr.symm
  let Fs2 : Nat → List Addr := fun i => if (slotAt ρL i).isNo then [] else Fs' i
  have sub : ∀ a, Mem Fs2 a → Mem Fs' a := fun a ⟨i, z⟩ => by
    have z : a ∈ (if (slotAt ρL i).isNo then [] else Fs' i) := z
    split at z
    · cases z
    · exact ⟨i, z⟩
  refine ⟨Fs2, ⟨fun i => ?_, fun i => ?_, fun i j a hi hj => ?_⟩, sub, ⟨kp.ls, by rw [mask_len hl, kp.lr], fun i r e => ?_, fun i r e => ?_⟩⟩
  · rw [mask_at hl]
    show SlotOk K H _ _ _ (if (slotAt ρL i).isNo then [] else Fs' i)
    split
    · exact rfl
    · exact (fr.sl i).imp sub
  · show (if (slotAt ρL i).isNo then [] else Fs' i).Nodup
    split
    · exact .nil
    · exact fr.nd i
  · have hi : a ∈ (if (slotAt ρL i).isNo then [] else Fs' i) := hi
    have hj : a ∈ (if (slotAt ρL j).isNo then [] else Fs' j) := hj
    split at hi
    · cases hi
    · split at hj
      · cases hj
      · exact fr.dj i j a hi hj
  · rw [mask_at hl] at e
    split at e
    · cases e
    · exact kp.arg i r e
  · rw [mask_at hl] at e
    split at e
    · cases e
    · exact kp.bor i r e
end
end Pv
/-! Pv19: for, while. -/
namespace Pv
open PySem PySem.Spec PyProof.Rows L2
section
variable {K : PySem.W.Frag} {xc : Nat → Value} {cf : CallT} {W : WX} {H H' H1 Hz : Hp} {σ σ1 σ2 σz : L2.St} {ρ ρ' ρ1 ρb ρL ρz : Env} {Fs Fs' Fs1 Fs2 FsL Fsz : Nat → List Addr} {v : V} {q : Q} {F F1 : List Addr} {D : Ends} {l : Lent} {M : Addr → Prop}
theorem slot_at_lent {j : Nat} (i : Nat) : slotAt (lend ρ j) i = if i = j then frz (slotAt ρ j) else slotAt ρ i := by
  unfold lend
  rw [slotAt_set]
  by_cases e : i = j
  · subst e
    by_cases hl : i < ρ.length
    · simp [hl]
    · simp [hl, slotAt_ge (Nat.le_of_not_lt hl), frz]
  · simp [e]
/-- a slot that was lent is back -/
theorem unlend_ok {j : Nat} (fr1 : Fr K H1 σ ρ1 Fs1) (fz : Fr K Hz σz ρz Fsz) (st : Stp (Mem (lendF (.slot j) Fs1)) (Mem Fsz) H1 Hz) (kp : Kp σ σz (lend ρ1 j) ρz) :
    ∃ Fs', Fr K Hz σz (unlend j (slotAt ρ1 j) ρz) Fs' ∧ Stp (Mem Fs1) (Mem Fs') H1 Hz ∧ Kp σ σz ρ1 (unlend j (slotAt ρ1 j) ρz) ∧ ∀ a, Mem Fs' a → Mem Fsz a ∨ (Mem Fs1 a ∧ ¬ Mem (lendF (.slot j) Fs1) a) := by
  have lenL : (lend ρ1 j).length = ρ1.length := by unfold lend; exact List.length_set ..
  have subL : ∀ i, ∀ a ∈ lendF (.slot j) Fs1 i, a ∈ Fs1 i := fun i a ha => by
    have ha : a ∈ updF Fs1 j [] i := ha
    unfold updF at ha
    split at ha
    · cases ha
    · exact ha
  have stay : (∀ r, slotAt ρz j ≠ .bor r) → ∃ Fs', Fr K Hz σz ρz Fs' ∧ Stp (Mem Fs1) (Mem Fs') H1 Hz ∧ Kp σ σz ρ1 ρz ∧ ∀ a, Mem Fs' a → Mem Fsz a ∨ (Mem Fs1 a ∧ ¬ Mem (lendF (.slot j) Fs1) a) := fun nb => by
    refine ⟨Fsz, fz, ⟨fun b o n e => st.keep b o (fun z => n (lendF_mem z)) e, fun a z => (st.new a z).imp_left lendF_mem⟩, ⟨kp.ls, kp.lr.trans lenL, fun i r e => ?_, fun i r e => ?_⟩, fun a z => .inl z⟩
    · obtain ⟨⟨r0, e0⟩, e1⟩ := kp.arg i r e
      rw [slot_at_lent] at e0
      split at e0
      · cases es : slotAt ρ1 j with
        | _ => rw [es] at e0; cases e0
      · exact ⟨⟨r0, e0⟩, e1⟩
    · obtain ⟨e0, e1⟩ := kp.bor i r e
      rw [slot_at_lent] at e0
      split at e0
      · rename_i h; subst h; exact absurd e (nb r)
      · exact ⟨e0, e1⟩
  cases ez : slotAt ρz j with
  | no => rw [show unlend j (slotAt ρ1 j) ρz = ρz by unfold unlend; rw [ez]]; exact stay fun r z => by rw [ez] at z; cases z
  | own r => rw [show unlend j (slotAt ρ1 j) ρz = ρz by unfold unlend; rw [ez]]; exact stay fun r z => by rw [ez] at z; cases z
  | arg r => rw [show unlend j (slotAt ρ1 j) ρz = ρz by unfold unlend; rw [ez]]; exact stay fun r z => by rw [ez] at z; cases z
  | bor r =>
    have eu : unlend j (slotAt ρ1 j) ρz = ρz.set j (slotAt ρ1 j) := by unfold unlend; rw [ez]
    rw [eu]
    have hl : j < ρz.length := slotAt_lt fun z => by rw [ez] at z; cases z
    obtain ⟨b1, b2⟩ := kp.bor j r ez
    have at' : ∀ i, slotAt (ρz.set j (slotAt ρ1 j)) i = if i = j then slotAt ρ1 j else slotAt ρz i := fun i => by
      rw [slotAt_set]
      by_cases e : i = j
      · simp [e, hl]
      · simp [e]
    have h0 : ∀ i, (i == j) = true → lendF (.slot j) Fs1 i = [] := fun i e => by
      have : i = j := by simpa using e
      show updF Fs1 j [] i = []
      unfold updF; rw [if_pos this]
    have := Fr.merge (σ := σ) (σ' := σz) (ρ' := ρz.set j (slotAt ρ1 j)) fr1 fz (fun i => i == j) subL h0 st (fun i e => ?_) fun i e => ?_
    · refine ⟨_, this.1, this.2, ⟨kp.ls, by rw [List.length_set]; exact kp.lr.trans lenL, fun i r' e => ?_, fun i r' e => ?_⟩, fun a ⟨i, z⟩ => ?_⟩
      · rw [at'] at e
        split at e
        · rename_i h; subst h; exact ⟨⟨r', e⟩, b2⟩
        · rename_i h
          obtain ⟨⟨r0, e0⟩, e1⟩ := kp.arg i r' e
          rw [slot_at_lent, if_neg h] at e0
          exact ⟨⟨r0, e0⟩, e1⟩
      · rw [at'] at e
        split at e
        · rename_i h; subst h; exact ⟨e, b2⟩
        · rename_i h
          obtain ⟨e0, e1⟩ := kp.bor i r' e
          rw [slot_at_lent, if_neg h] at e0
          exact ⟨e0, e1⟩
      · have z : a ∈ (if (i == j) then Fs1 i else Fsz i) := z
        split at z
        · rename_i e
          refine .inr ⟨⟨i, z⟩, fun ⟨k, w⟩ => ?_⟩
          have := fr1.dj _ _ _ (subL k a w) z
          subst this
          rw [h0 k e] at w; cases w
        · exact .inl ⟨i, z⟩
    · have ne : i ≠ j := by simpa using e
      refine ⟨by rw [at', if_neg ne], rfl, fun r' er => ?_⟩
      obtain ⟨e0, e1⟩ := kp.bor i r' er
      rw [slot_at_lent, if_neg ne] at e0
      exact ⟨e0, e1⟩
    · have h : i = j := by simpa using e
      subst h
      exact ⟨by rw [at', if_pos rfl], b2⟩
theorem unl_post {o : Out Fl} (hl : l ≠ .all) (fr1 : Fr K H1 σ ρ1 Fs1) (p : PostS K xc W σ ρ1 Fs1 H1 D (o.bind fun f => .ok (unl l ρ1 f))) : PostS K xc W σ (lendAs l ρ1) (lendF l Fs1) H1 D o := by
  cases l with
  | all => exact absurd rfl hl
  | none =>
    cases o with
    | ok f => exact p
    | exc c => exact p
    | stuck => exact p
  | slot j =>
    cases o with
    | stuck => exact p
    | exc c => exact fun σ' H' e k => p σ' H' e fun b o n => k b o fun z => n (lendF_mem z)
    | ok f => cases f with
      | next ρz => intro σz Hz Fsz fz st kp; obtain ⟨Fs', h1, h2, h3, _⟩ := unlend_ok fr1 fz st kp; exact p σz Hz Fs' h1 h2 h3
      | brk ρz => intro σz Hz Fsz fz st kp; obtain ⟨Fs', h1, h2, h3, _⟩ := unlend_ok fr1 fz st kp; exact p σz Hz Fs' h1 h2 h3
      | cont ρz => intro σz Hz Fsz fz st kp; obtain ⟨Fs', h1, h2, h3, _⟩ := unlend_ok fr1 fz st kp; exact p σz Hz Fs' h1 h2 h3
      | ret r ρz =>
        intro v σz Hz Fsz F fz st kp ro nd nm nf
        obtain ⟨Fs', h1, h2, h3, h4⟩ := unlend_ok fr1 fz st kp
        refine p v σz Hz Fs' F h1 h2 h3 ro nd (fun a ha z => ?_) fun a ha => (nf a ha).imp_left lendF_mem
        rcases h4 a z with w | ⟨w1, w2⟩
        · exact nm a ha w
        · rcases nf a ha with w | w
          · exact w2 w
          · obtain ⟨_, e⟩ := fr1.own a w1
            rw [w] at e; cases e
theorem for_core {t : E} {s : S} {J : It} {xs : List R} (frL : FrM K H1 σ ρL FsL M) (sub : ∀ a, Mem FsL a → M a) (wk : WalkOk K H1 M J xs) (hl : ∀ b, M b → H1 b ≠ none → ∃ ys, H1 b = some (.lst ys)) (kM : ∀ a, H1 a = none → M a)
    (p : PostS K xc W σ ρL FsL H1 D (forL (turnF t (exec cf s)) ρL xs ρL)) : ∃ Wv : Nat → Nat → L2.St → Hp → Prop, (∃ m, Wv 0 m σ H1) ∧ ∀ i m σ H, Wv i m σ H →
  (J.stop i H ∧ D.nx σ H) ∨ (J.go i H ∧ ∃ N : L2.St → Hp → Prop, (∀ σ' H', N σ' H' → ∃ m', m' < m ∧ Wv (i + 1) m' σ' H') ∧ ∀ x H', J.yld i H x H' → tG K t x σ H' fun σ2 H2 => tS K xc cf W s { D with nx := N, ct := N, bk := D.nx } σ2 H2) := by
  refine ⟨fun i m σ' H => m = xs.length - i ∧ i ≤ xs.length ∧ ∃ ρ Fs, Fr K H σ' ρ Fs ∧ Stp (Mem FsL) (Mem Fs) H1 H ∧ Kp σ σ' ρL ρ ∧ PostS K xc W σ ρL FsL H1 D (forL (turnF t (exec cf s)) ρL (xs.drop i) ρ),
    ⟨xs.length, by simp, Nat.zero_le _, ρL, FsL, frL.fr sub, Stp.refl' _ _, Kp.refl _ _, p⟩, ?_⟩
  rintro i m σ' H ⟨rfl, hi, ρ, Fs, fr, st, kp, p⟩
  have w := wk.keep hl (H := H) fun b o n e => st.keep b o (fun z => n (sub b z)) e
  have frS : FrM K H σ' ρ Fs M := frL.strongS sub fr st kp
  have subF : ∀ a, Mem Fs a → Mem FsL a ∨ H1 a = none := st.new
  by_cases hlt : i < xs.length
  · rw [List.drop_eq_getElem_cons hlt] at p
    refine .inr ⟨w.go hlt, fun σ' H => i + 1 ≤ xs.length ∧ ∃ ρ Fs, Fr K H σ' ρ Fs ∧ Stp (Mem FsL) (Mem Fs) H1 H ∧ Kp σ σ' ρL ρ ∧ PostS K xc W σ ρL FsL H1 D (forL (turnF t (exec cf s)) ρL (xs.drop (i + 1)) ρ), ?_, fun x H' hy => ?_⟩
    · rintro σ'' H'' ⟨h1, h2⟩
      exact ⟨_, by omega, rfl, h1, h2⟩
    · obtain ⟨e3, F', hr, hn⟩ := w.yld hlt hy
      subst e3
      generalize xs[i] = r at p hr
      have p : PostS K xc W σ ρL FsL H1 D ((turnF t (exec cf s) r ρ).bind fun f => (match f with
        | .next ρ' => forL (turnF t (exec cf s)) ρL (xs.drop (i + 1)) (mask ρL ρ')
        | .cont ρ' => forL (turnF t (exec cf s)) ρL (xs.drop (i + 1)) (mask ρL ρ')
        | .brk ρ' => .ok (.next (mask ρL ρ'))
        | .ret r ρ' => .ok (.ret r ρ'))) := p
      cases r with
      | lst ys => exact False.elim p
      | g g =>
        have p : PostS K xc W σ ρL FsL H1 D (((bindT t g ρ).bind fun ρ1 => exec cf s ρ1).bind _) := p
        rw [bind_assoc] at p
        obtain ⟨ρb, eb, p⟩ := p.look (bindT_nx _ _ _)
        refine bindT_ok t eb frS hr.1 fun σ2 Fs2 b => ?_
        have frb : Fr K _ σ2 ρb Fs2 := b.fr.fr fun a z => (subF a (b.sub a z)).elim (sub a) fun w => kM a w
        have stb := st.trans (⟨fun _ _ _ e => e, fun a z => .inl (b.sub a z)⟩ : Stp (Mem Fs) (Mem Fs2) H' H')
        have kpb := kp.trans (b.kp eb)
        refine ⟨ρb, Fs2, frb, ?_⟩
        cases eo : exec cf s ρb with
        | stuck => rw [eo] at p; exact p
        | exc c => rw [eo] at p; exact fun σ3 H3 e k => p σ3 H3 (e.trans kpb.ls) (keep_trans stb k)
        | ok f =>
          rw [eo] at p
          cases f with
          | next ρ3 =>
            intro σ3 H3 Fs3 fr3 st3 kp3
            obtain ⟨Fs4, m1, m2, m3⟩ := mask_ok fr3 (kpb.trans kp3)
            exact ⟨hlt, _, Fs4, m1, (stb.trans st3).trans ⟨fun _ _ _ e => e, fun a z => .inl (m2 a z)⟩, m3, p⟩
          | cont ρ3 =>
            intro σ3 H3 Fs3 fr3 st3 kp3
            obtain ⟨Fs4, m1, m2, m3⟩ := mask_ok fr3 (kpb.trans kp3)
            exact ⟨hlt, _, Fs4, m1, (stb.trans st3).trans ⟨fun _ _ _ e => e, fun a z => .inl (m2 a z)⟩, m3, p⟩
          | brk ρ3 =>
            intro σ3 H3 Fs3 fr3 st3 kp3
            obtain ⟨Fs4, m1, m2, m3⟩ := mask_ok fr3 (kpb.trans kp3)
            exact p σ3 H3 Fs4 m1 ((stb.trans st3).trans ⟨fun _ _ _ e => e, fun a z => .inl (m2 a z)⟩) m3
          | ret r ρ3 =>
            intro v σ3 H3 Fs3 F fr3 st3 kp3 ro nd nm nf
            exact p v σ3 H3 Fs3 F fr3 (stb.trans st3) (kpb.trans kp3) ro nd nm fun a ha => back_new stb (nf a ha)
  · have e0 : i = xs.length := by omega
    subst e0
    rw [List.drop_length] at p
    exact .inl ⟨w.stop (Nat.le_refl _), p σ' H Fs fr st kp⟩
theorem for_sem {t ei : E} {s : S} (h : tS K xc cf W (.for_ t ei s) D σ H) : tFor (tI K xc cf W ei) (tG K t) (tS K xc cf W s) D σ H := by
  obtain ⟨ρ, Fs, fr, p⟩ := h
  refine ⟨ρ, Fs, fr, PostS.bindE (rep1 := rpW K σ) (Stp.refl' _ _) p fun x ρ1 eo J H1 Fs1 F1 fr1 st1 nf1 kd1 r1 p1 => ?_⟩
  obtain ⟨xs, l⟩ := x
  have p1 := PostS.rebase p1 st1 (kd1.kp σ)
  have hl : l ≠ .all := fun e => by
    subst e
    exact p1
  have p2 : PostS K xc W σ ρ1 Fs1 H1 D ((forL (turnF t (exec cf s)) (lendAs l ρ1) xs (lendAs l ρ1)).bind fun f => .ok (unl l ρ1 f)) := by
    cases l with
    | all => exact absurd rfl hl
    | none => exact p1
    | slot j => exact p1
  have p3 := unl_post hl fr1 p2
  have frS : FrM K H1 σ (lendAs l ρ1) (lendF l Fs1) (MN (lendF l Fs1) H1) := (fr1.lend (l := l)).strongS fr1.lend (Stp.refl' _ _) (Kp.refl _ _)
  exact for_core frS (fun a z => .inl z) (walk_lent fr1 r1 (fun j e => by subst e; exact walked_slot eo) fun a z => z) (fun b hb hn => hb.elim (frS.own b) fun z => absurd z hn) (fun a z => .inr z) p3
theorem while_core {ec : E} {s : S} (fr0 : Fr K H σ ρ Fs) : ∀ n, PostS K xc W σ ρ Fs H D (whileL (evB cf ec) (exec cf s) ρ n ρ) → tWhile (tT K xc cf W ec) (tS K xc cf W s) D σ H := fun n p => by
  refine ⟨fun m σ1 H1 => ∃ ρ1 Fs1, Fr K H1 σ1 ρ1 Fs1 ∧ Stp (Mem Fs) (Mem Fs1) H H1 ∧ Kp σ σ1 ρ ρ1 ∧ PostS K xc W σ ρ Fs H D (whileL (evB cf ec) (exec cf s) ρ m ρ1), ⟨n, ρ, Fs, fr0, Stp.refl' _ _, Kp.refl _ _, p⟩, ?_⟩
  rintro m σ1 H1 ⟨ρ1, Fs1, fr1, st1, kp1, p⟩
  cases m with
  | zero => exact False.elim p
  | succ m =>
    have p : PostS K xc W σ ρ Fs H D ((evB cf ec ρ1).bind fun c => if c.1 then (exec cf s c.2).bind fun f => (match f with
    | .next ρ' => whileL (evB cf ec) (exec cf s) ρ m (mask ρ ρ')
    | .cont ρ' => whileL (evB cf ec) (exec cf s) ρ m (mask ρ ρ')
    | .brk ρ' => .ok (.next (mask ρ ρ'))
    | .ret r ρ' => .ok (.ret r ρ')) else .ok (.next c.2)) := p
    have p0 := PostS.rebase p st1 kp1
    refine ⟨ρ1, Fs1, fr1, PostS.bindE (rep1 := rpB) (Stp.refl' _ _) p0 fun b ρ2 eo bv H2 Fs2 F2 fr2 st2 nf2 kd2 rb p2 => ?_⟩
    obtain ⟨rfl, _⟩ := rb
    have stb := st1.trans st2
    have kpb := kp1.trans (kd2.kp σ1)
    rw [eo] at p
    cases bv with
    | false =>
      simp only [Bool.false_eq_true, if_false]
      exact p σ1 H2 Fs2 fr2 stb kpb
    | true =>
      simp only [if_true]
      have p : PostS K xc W σ ρ Fs H D ((exec cf s ρ2).bind fun f => (match f with
    | .next ρ' => whileL (evB cf ec) (exec cf s) ρ m (mask ρ ρ')
    | .cont ρ' => whileL (evB cf ec) (exec cf s) ρ m (mask ρ ρ')
    | .brk ρ' => .ok (.next (mask ρ ρ'))
    | .ret r ρ' => .ok (.ret r ρ'))) := p
      refine ⟨fun σ3 H3 => ∃ ρ3 Fs3, Fr K H3 σ3 ρ3 Fs3 ∧ Stp (Mem Fs) (Mem Fs3) H H3 ∧ Kp σ σ3 ρ ρ3 ∧ PostS K xc W σ ρ Fs H D (whileL (evB cf ec) (exec cf s) ρ m ρ3), fun σ3 H3 h => ⟨m, Nat.lt_succ_self m, h⟩, ρ2, Fs2, fr2, ?_⟩
      cases eo : exec cf s ρ2 with
      | stuck => rw [eo] at p; exact p
      | exc c => rw [eo] at p; exact fun σ3 H3 e k => p σ3 H3 (e.trans kpb.ls) (keep_trans stb k)
      | ok f =>
        rw [eo] at p
        cases f with
        | next ρ3 =>
          intro σ3 H3 Fs3 fr3 st3 kp3
          obtain ⟨Fs4, m1, m2, m3⟩ := mask_ok fr3 (kpb.trans kp3)
          exact ⟨_, Fs4, m1, (stb.trans st3).trans ⟨fun _ _ _ e => e, fun a z => .inl (m2 a z)⟩, m3, p⟩
        | cont ρ3 =>
          intro σ3 H3 Fs3 fr3 st3 kp3
          obtain ⟨Fs4, m1, m2, m3⟩ := mask_ok fr3 (kpb.trans kp3)
          exact ⟨_, Fs4, m1, (stb.trans st3).trans ⟨fun _ _ _ e => e, fun a z => .inl (m2 a z)⟩, m3, p⟩
        | brk ρ3 =>
          intro σ3 H3 Fs3 fr3 st3 kp3
          obtain ⟨Fs4, m1, m2, m3⟩ := mask_ok fr3 (kpb.trans kp3)
          exact p σ3 H3 Fs4 m1 ((stb.trans st3).trans ⟨fun _ _ _ e => e, fun a z => .inl (m2 a z)⟩) m3
        | ret r ρ3 =>
          intro v σ3 H3 Fs3 F fr3 st3 kp3 ro nd nm nf
          exact p v σ3 H3 Fs3 F fr3 (stb.trans st3) (kpb.trans kp3) ro nd nm fun a ha => back_new stb (nf a ha)
theorem while_sem {ec : E} {s : S} (h : tS K xc cf W (.while_ ec s) D σ H) : tWhile (tT K xc cf W ec) (tS K xc cf W s) D σ H := by
  obtain ⟨ρ, Fs, fr, p⟩ := h
  exact while_core fr _ p
end
section
variable {X : Cx} {xc : Nat → Value} {cf : CallT} {W : WX} {c tg iter e : Expr} {ec ei et ea : E} {sts : List Stmt} {s : S} {pos tpos : Pos} {ts : List Expr} {k : Nat}
theorem s_for (hp : PassesOwn (model X.prog X.w) X.A X.env X.xe) (hc : X.calm = true) (hi : PI X tg iter (tI X.K xc cf W ei)) (hg : PG X tg (tG X.K et)) (hb : PSs X sts (tS X.K xc cf W s)) (hs : ∀ x, foldedSetIterable iter X.env x = pure x) :
    PS X (.For tg iter sts [] pos) (tS X.K xc cf W (.for_ et ei s)) := PS.imp (ps_for hp hc hi hg hb hs) fun D σ H h => for_sem h
theorem s_while (hp : PassesOwn (model X.prog X.w) X.A X.env X.xe) (hc : PT X c (tT X.K xc cf W ec)) (hb : PSs X sts (tS X.K xc cf W s)) : PS X (.While c sts [] pos) (tS X.K xc cf W (.while_ ec s)) := PS.imp (ps_while hp hc hb) fun D σ H h => while_sem h
def isTup : Expr → Bool
  | .Tuple _ _ _ => true
  | _ => false
theorem stores_no {t : Expr} {env : PySem.Env} (h : isTup e = false) : swappedStores [t] e env = pure none := by
  cases t <;> cases e <;> first | rfl | cases h
theorem s_unp (he : PE X e (tE X.K xc cf W ea)) (hg : PG X (.Tuple ts k tpos) (tG X.K et)) (hn : isLC e = false) (hw : swappedStores [.Tuple ts k tpos] e X.env = pure none) : PS X (.Assign [.Tuple ts k tpos] e pos) (tS X.K xc cf W (.unp et ea)) :=
  PS.imp (ps_asg he hg (sole_no hn) hw rfl) fun D σ H h => unp_sem h
end
end Pv
/-! Pv20: what is written in place. -/
namespace Pv
open PySem PySem.Spec PyProof.Rows L2
section
variable {K : PySem.W.Frag} {xc : Nat → Value} {cf : CallT} {W : WX} {H H' H1 H2 Hz : Hp} {σ σ1 σ2 σz : L2.St} {ρ ρ' ρ1 ρ2 ρb ρL ρz : Env} {Fs Fs' Fs1 Fs2 FsL Fsz : Nat → List Addr} {v : V} {q : Q} {F F1 F2 : List Addr} {D : Ends} {l : Lent} {M : Addr → Prop} {j : Nat} {xs ys : List R} {a : Addr} {ws ws' : List V} {r : R}
theorem mut_done (st2 : Stp (Mem Fs) (Mem Fs2) H H2) (kd : Kd ρ ρ2) (fr : FrM K H2 σ ρ2 Fs2 (MN Fs H)) (hm : mutL ρ2 j = some xs) (hv : Vat σ j = some (.ref a)) (hj : a ∈ Fs2 j) (hr : RepOs K (upd H2 a (.lst ws')) ws' ys F1) (nd : (a :: F1).Nodup)
    (hF : ∀ b ∈ F1, b ∈ Fs2 j ∨ (¬ Mem Fs2 b ∧ MN Fs H b)) (p : PostS K xc W σ ρ Fs H D (.ok (.next (putL ρ2 j ys)))) : D.nx σ (upd H2 a (.lst ws')) := by
  have k := fr.putd (ys := ys) st2.new hm hv hj hr nd fun i n b hb z => (hF b hb).elim (fun w => n (fr.dj _ _ _ z w)) fun w => w.1 ⟨i, z⟩
  have sub : ∀ b, Mem (updF Fs2 j (a :: F1)) b → MN Fs H b := fun b z => (updF_mem z).elim (st2.new b) fun z => (List.mem_cons.mp z).elim (fun e => e ▸ st2.new a ⟨j, hj⟩) fun z => (hF b z).elim (fun w => st2.new b ⟨j, w⟩) (·.2)
  refine p σ _ _ (k.fr sub) ⟨fun b o n e => ?_, sub⟩ ((kd.trans (putL_kd ρ2 j hm ys)).kp σ)
  have hb : b ≠ a := fun z => by
    subst z
    rcases st2.new b ⟨j, hj⟩ with w | w
    · exact n w
    · rw [w] at e; cases e
  rw [upd_ne hb]
  exact st2.keep b o n e
theorem RepOs.revs : ∀ {xs : List R} {ws : List V} {F : List Addr}, RepOs K H ws xs F → ∃ F', RepOs K H ws.reverse xs.reverse F' ∧ F'.Perm F
  | [], _, _, h => by obtain ⟨rfl, rfl⟩ := h; exact ⟨[], ⟨rfl, rfl⟩, .refl _⟩
  | x :: xs, _, _, h => by
    obtain ⟨w, r, F1, F2, rfl, h1, h2, rfl⟩ := h
    obtain ⟨F', k, pm⟩ := RepOs.revs h2
    have := k.append (us := [w]) (ys := [x]) ⟨w, [], F1, [], rfl, h1, ⟨rfl, rfl⟩, rfl⟩
    rw [List.append_nil] at this
    rw [List.reverse_cons, List.reverse_cons]
    exact ⟨_, this, (pm.append_right F1).trans List.perm_append_comm⟩
theorem RepOs.put : ∀ {xs : List R} {ws : List V} {F : List Addr} {m : Nat} {v : V} {r : R} {Fr : List Addr}, RepOs K H ws xs F → m < xs.length → RepO K H v r Fr → ∃ Fx F1 F', RepOs K H (ws.set m v) (xs.set m r) F' ∧ F.Perm (Fx ++ F1) ∧ F'.Perm (Fr ++ F1)
  | [], _, _, _, _, _, _, _, e, _ => by simp at e
  | y :: xs, _, _, 0, v, r, Fr, h, e, hr => by
    obtain ⟨w, us, F1, F2, rfl, h1, h2, rfl⟩ := h
    exact ⟨F1, F2, Fr ++ F2, ⟨v, us, Fr, F2, rfl, hr, h2, rfl⟩, .refl _, .refl _⟩
  | y :: xs, _, _, m + 1, v, r, Fr, h, e, hr => by
    obtain ⟨w, us, F1, F2, rfl, h1, h2, rfl⟩ := h
    obtain ⟨Fx, F3, F', k, p1, p2⟩ := RepOs.put (m := m) h2 (by simpa using e) hr
    have sw : ∀ A : List Addr, (F1 ++ (A ++ F3)).Perm (A ++ (F1 ++ F3)) := fun A => by
      rw [← List.append_assoc, ← List.append_assoc]; exact (List.perm_append_comm).append_right F3
    exact ⟨Fx, F1 ++ F3, F1 ++ F', ⟨w, _, F1, F', rfl, h1, k, rfl⟩, (p1.append_left F1).trans (sw Fx), (p2.append_left F1).trans (sw Fr)⟩
/-- only the list at a is another one: all within it stays -/
theorem RepOs.at1 (h : RepOs K H ws xs F) (hH : ∃ us, H a = some (.lst us)) (n : a ∉ F) (us : List V) : RepOs K (upd H a (.lst us)) ws xs F :=
  h.keep (M := (· = a)) (fun b e => e ▸ hH) (fun b o n e => by rw [upd_ne n]; exact e) fun b hb e => n (e ▸ hb)
theorem RepO.at1 (h : RepO K H v r F) (hH : ∃ us, H a = some (.lst us)) (n : a ∉ F) (us : List V) : RepO K (upd H a (.lst us)) v r F :=
  h.keep (M := (· = a)) (fun b e => e ▸ hH) (fun b o n e => by rw [upd_ne n]; exact e) fun b hb e => n (e ▸ hb)
/-! ### append, reverse -/
theorem app_sem {ea : E} (h : tS K xc cf W (.app j ea) D σ H) : tBM K "list" rAppend (tVar j) (tCons (tE K xc cf W ea) tNil) σ H fun _ H1 => D.nx σ H1 := by
  obtain ⟨ρ, Fs, fr, p⟩ := h
  cases e0 : mutL ρ j with
  | none => unfold exec at p; rw [e0] at p; exact False.elim p
  | some xs0 =>
    have p : PostS K xc W σ ρ Fs H D ((ev cf ea ρ).bind fun x => (match x.1, mutL x.2 j with
      | .v r, some xs => if xs.length < line then .ok (.next (putL x.2 j (xs ++ [r]))) else .stuck
      | _, _ => .stuck)) := by unfold exec at p; rw [e0] at p; exact p
    obtain ⟨a0, ws0, F0, hv0, hH0, _, _⟩ := fr.m.mut e0
    refine ⟨.ref a0, vat_some hv0, .inl ⟨rfl, ws0, .inl (.inl hH0)⟩, ρ, Fs, fr, PostS.bindE (Stp.refl' _ _) p fun q2 ρ2 _ v2 H2 Fs2 F2 fr2 st2 nf2 kd rq p2 => ?_⟩
    cases q2 with
    | s i => exact False.elim p2
    | b r => exact False.elim p2
    | v r =>
      cases e1 : mutL ρ2 j with
      | none => simp only [e1] at p2; exact False.elim p2
      | some xs =>
        simp only [e1] at p2
        split at p2
        · rename_i hz
          obtain ⟨a, ws, F', hv, hH, ho, hFs⟩ := fr2.m.mut e1
          rw [hv0] at hv; cases hv
          have nd := fr2.nd j
          rw [hFs] at nd
          have nd' := List.nodup_cons.mp nd
          have aj : a0 ∈ Fs2 j := by rw [hFs]; exact List.mem_cons_self
          have sub : ∀ b ∈ F', b ∈ Fs2 j := fun b hb => by rw [hFs]; exact List.mem_cons_of_mem _ hb
          have rq : RepO K H2 v2 r F2 ∧ F2.Nodup ∧ ∀ a ∈ F2, ¬ Mem Fs2 a := rq
          have n2 : a0 ∉ F2 := fun z => rq.2.2 a0 z ⟨j, aj⟩
          have hr := (ho.at1 ⟨ws, hH⟩ nd'.1 (ws ++ [v2])).append (us := [v2]) (ys := [r]) ⟨v2, [], F2, [], rfl, rq.1.at1 ⟨ws, hH⟩ n2 (ws ++ [v2]), ⟨rfl, rfl⟩, rfl⟩
          rw [List.append_nil] at hr
          refine ⟨a0, ws, v2, rfl, rfl, hH, by rw [ho.len, ← line_eq]; exact hz, ?_⟩
          refine mut_done st2 kd (fr.strongS fr2 st2 (kd.kp σ)) e1 hv0 aj hr (List.nodup_cons.mpr ⟨fun z => (List.mem_append.mp z).elim nd'.1 n2, List.nodup_append.mpr ⟨nd'.2, rq.2.1, fun x hx y hy e => rq.2.2 y hy (e ▸ ⟨j, sub x hx⟩)⟩⟩) (fun b hb => (List.mem_append.mp hb).elim (fun w => .inl (sub b w)) fun w => .inr ⟨rq.2.2 b w, nf2 b w⟩) p2
        · exact False.elim p2
theorem rev_sem (h : tS K xc cf W (.rev j) D σ H) : tBM0 K "list" rReverse (tVar j) σ H fun _ H1 => D.nx σ H1 := by
  obtain ⟨ρ, Fs, fr, p⟩ := h
  cases e0 : mutL ρ j with
  | none => unfold exec at p; rw [e0] at p; exact False.elim p
  | some xs =>
    have p : PostS K xc W σ ρ Fs H D (.ok (.next (putL ρ j xs.reverse))) := by unfold exec at p; rw [e0] at p; exact p
    obtain ⟨a, ws, F', hv, hH, ho, hFs⟩ := fr.m.mut e0
    have nd := fr.nd j
    rw [hFs] at nd
    have nd' := List.nodup_cons.mp nd
    obtain ⟨F2, h2, pm⟩ := (ho.at1 ⟨ws, hH⟩ nd'.1 ws.reverse).revs
    refine ⟨.ref a, vat_some hv, .inl ⟨rfl, ws, .inl (.inl hH)⟩, a, ws, rfl, rfl, hH, ?_⟩
    exact mut_done (Stp.refl' _ _) (Kd.refl _) (fr.strongS fr (Stp.refl' _ _) (Kp.refl _ _)) e0 hv (by rw [hFs]; exact List.mem_cons_self) h2 (List.nodup_cons.mpr ⟨fun z => nd'.1 (pm.mem_iff.mp z), pm.nodup_iff.mpr nd'.2⟩) (fun b hb => .inl (by rw [hFs]; exact List.mem_cons_of_mem _ (pm.mem_iff.mp hb))) p
/-! ### x[i] = e -/
theorem setix_sem {ea ei : E} (h : tS K xc cf W (.setix j ei ea) D σ H) : tE K xc cf W ea σ H fun x H1 => gSub (tVar j) (tE K xc cf W ei) rSetL x σ H1 D.nx := by
  obtain ⟨ρ, Fs, fr, p⟩ := h
  refine ⟨ρ, Fs, fr, PostS.bindE (Stp.refl' _ _) p fun q2 ρ2 _ v2 H2 Fs2 F2 fr2 st2 nf2 kd2 rq p2 => ?_⟩
  cases q2 with
  | s i => exact False.elim p2
  | b r => exact False.elim p2
  | v r =>
    cases e0 : mutL ρ2 j with
    | none => simp only [e0] at p2; exact False.elim p2
    | some xs0 =>
      simp only [e0] at p2
      obtain ⟨a0, ws0, F0, hv0, hH0, _, _⟩ := fr2.m.mut e0
      refine ⟨.ref a0, vat_some hv0, ρ2, Fs2, fr2, PostS.bindE st2 p2 fun q3 ρ3 _ v3 H3 Fs3 F3 fr3 st3 nf3 kd3 ri p3 => ?_⟩
      have st := st2.trans st3
      have kd := kd2.trans kd3
      obtain ⟨rq, _⟩ := QRep.step (q := .v r) rq fr2.own st3 (F1 := F3) (fun a ha => (nf3 a ha).elim .inl fun z => .inr (.inr z)) (fun _ e => by cases e)
      cases q3 with
      | s i => exact False.elim p3
      | b r => exact False.elim p3
      | v g => cases g with
        | lst _ => exact False.elim p3
        | g g => cases g with
          | int n =>
            cases e1 : mutL ρ3 j with
            | none => simp only [e1] at p3; exact False.elim p3
            | some xs =>
              simp only [e1] at p3
              cases hm : ixN xs.length n with
              | none => rw [hm] at p3; exact False.elim p3
              | some m =>
                simp only [hm] at p3
                obtain rfl : v3 = .int n := ri.1.1
                obtain ⟨a, ws, F', hv, hH, ho, hFs⟩ := fr3.m.mut e1
                rw [hv0] at hv; cases hv
                have nd := fr3.nd j
                rw [hFs] at nd
                have nd' := List.nodup_cons.mp nd
                have aj : a0 ∈ Fs3 j := by rw [hFs]; exact List.mem_cons_self
                have sub : ∀ b ∈ F', b ∈ Fs3 j := fun b hb => by rw [hFs]; exact List.mem_cons_of_mem _ hb
                have n2 : a0 ∉ F2 := fun z => rq.2.2 a0 z ⟨j, aj⟩
                obtain ⟨_, s2, _, _⟩ := ixN_seq hm
                obtain ⟨Fx, Fr, Fn, k, pm1, pm2⟩ := (ho.at1 ⟨ws, hH⟩ nd'.1 (ws.set m v2)).put s2 (rq.1.at1 ⟨ws, hH⟩ n2 (ws.set m v2))
                have inF : ∀ b ∈ Fr, b ∈ F' := fun b hb => pm1.mem_iff.mpr (List.mem_append_right _ hb)
                have inN : ∀ b ∈ Fn, b ∈ F2 ∨ b ∈ F' := fun b hb => (List.mem_append.mp (pm2.mem_iff.mp hb)).imp_right (inF b)
                have ndr := (List.nodup_append.mp (pm1.nodup_iff.mp nd'.2)).2.1
                refine ⟨a0, ws, n, m, rfl, rfl, hH, by rw [ho.len]; exact hm, ?_⟩
                refine mut_done st kd (fr.strongS fr3 st (kd.kp σ)) e1 hv0 aj k (List.nodup_cons.mpr ⟨fun z => (inN _ z).elim n2 nd'.1, pm2.nodup_iff.mpr (List.nodup_append.mpr ⟨rq.2.1, ndr, fun x hx y hy e => rq.2.2 x hx (e ▸ ⟨j, sub y (inF y hy)⟩)⟩)⟩) (fun b hb => (inN b hb).symm.elim (fun w => .inl (sub b w)) fun w => .inr ⟨rq.2.2 b w, nf2 b w⟩) p3
          | non => exact False.elim p3
          | bl b => exact False.elim p3
          | str b => exact False.elim p3
          | tup b => exact False.elim p3
end
section
variable {X : Cx} {xc : Nat → Value} {cf : CallT} {W : WX} {e i : Expr} {ea ei : E} {pos p p1 apos cpos tpos : Pos} {j : Nat} {x : Str}
theorem s_app (hN : X.N[j]? = some x) (hv : Vis X.env.scope x) (hd : (x == ("__debug__" : Str)) = false) (hcd : (x == ("__classdict__" : Str)) = false) (ha : PE X e (tE X.K xc cf W ea)) (hs : ∀ y p, e ≠ .Starred y p)
    (hbase : attributeBase (.Name x p) "append" X.env (eval (.Name x p) X.env) = eval (.Name x p) X.env) (hline : (apos.endLine == cpos.line) = true) : PS X (.Expr (.Call (.Attribute (.Name x p) "append" apos) [e] [] cpos) pos) (tS X.K xc cf W (.app j ea)) := by
  have pa := pa_cons ha pa_nil (plain_star hs)
  have hst := plain_star (es := []) (env := X.env) hs
  refine PS.imp (ps_expr (pe_bm PySem.F.plainAttrs_list PySem.F.slot_list_append PySem.F.type_list_append mt_append (pe_var hN hv hd hcd) pa hbase (by rw [hst]; rfl) hline hst rfl) rfl) fun D σ H h => app_sem h
theorem s_rev (hN : X.N[j]? = some x) (hv : Vis X.env.scope x) (hd : (x == ("__debug__" : Str)) = false) (hcd : (x == ("__classdict__" : Str)) = false)
    (hbase : attributeBase (.Name x p) "reverse" X.env (eval (.Name x p) X.env) = eval (.Name x p) X.env) (hline : (apos.endLine == cpos.line) = true) : PS X (.Expr (.Call (.Attribute (.Name x p) "reverse" apos) [] [] cpos) pos) (tS X.K xc cf W (.rev j)) := by
  refine PS.imp (ps_expr (pe_bm0 PySem.F.plainAttrs_list PySem.F.slot_list_reverse PySem.F.type_list_reverse mt_reverse (pe_var hN hv hd hcd) hbase hline) rfl) fun D σ H h => rev_sem h
def isSl : Expr → Bool
  | .Slice _ _ _ _ => true
  | _ => false
theorem s_setix (hN : X.N[j]? = some x) (hv : Vis X.env.scope x) (hd : (x == ("__debug__" : Str)) = false) (hcd : (x == ("__classdict__" : Str)) = false) (hi : PE X i (tE X.K xc cf W ei)) (he : PE X e (tE X.K xc cf W ea)) (hn : isLC e = false) (hsl : isSl i = false) :
    PS X (.Assign [.Subscript (.Name x p) i tpos] e pos) (tS X.K xc cf W (.setix j ei ea)) := by
  refine PS.imp (ps_asg he (pg_sub (pe_var hN hv hd hcd) hi set_list (by intro v; cases i <;> first | rfl | cases hsl)) (sole_no hn) (by cases e <;> rfl) rfl) fun D σ H h => setix_sem h
end
end Pv
/-! Pv21: defs. -/
namespace Pv
open PySem PySem.Spec PyProof.Rows L2
theorem finals_fin : ∀ {as : List Slot} {ρ : Env} {fs : List R}, finals as ρ = .ok fs → ∀ i, slotAt (finS as fs) i = .no ∨ (slotAt (finS as fs) i = slotAt ρ i ∧ (∃ r, slotAt as i = .arg r) ∧ ∃ r, slotAt ρ i = .arg r)
  | [], ρ, fs, e, i => by cases fs <;> exact .inl rfl
  | .arg r0 :: as, [], fs, e, i => by cases e
  | .arg r0 :: as, .arg r :: ss, fs, e, i => by
    obtain ⟨rs, e1, e2⟩ := Out.bind_ok (show ((finals as ss).bind fun rs => .ok (r :: rs)) = _ from e)
    cases e2
    cases i with
    | zero => exact .inr ⟨rfl, ⟨_, rfl⟩, ⟨_, rfl⟩⟩
    | succ i => exact finals_fin e1 i
  | .arg r0 :: as, .own r :: ss, fs, e, i => by cases e
  | .arg r0 :: as, .bor r :: ss, fs, e, i => by cases e
  | .arg r0 :: as, .no :: ss, fs, e, i => by cases e
  | .own r0 :: as, [], fs, e, i => by cases e
  | .bor r0 :: as, [], fs, e, i => by cases e
  | .no :: as, [], fs, e, i => by cases e
  | .own r0 :: as, s :: ss, fs, e, i => by
    have e : finals as ss = .ok fs := e
    cases i with
    | zero => cases fs <;> exact .inl rfl
    | succ i => cases fs <;> exact finals_fin e i
  | .bor r0 :: as, s :: ss, fs, e, i => by
    have e : finals as ss = .ok fs := e
    cases i with
    | zero => cases fs <;> exact .inl rfl
    | succ i => cases fs <;> exact finals_fin e i
  | .no :: as, s :: ss, fs, e, i => by
    have e : finals as ss = .ok fs := e
    cases i with
    | zero => cases fs <;> exact .inl rfl
    | succ i => cases fs <;> exact finals_fin e i
theorem finals_nx : ∀ (as : List Slot) (ρ : Env) (c : Nat), finals as ρ ≠ .exc c
  | [], ρ, c => fun e => by cases e
  | .arg _ :: as, [], c => fun e => by cases e
  | .arg _ :: as, .arg r :: ss, c => Out.bind_nx (finals_nx as ss) (fun _ _ e => by cases e) c
  | .arg _ :: as, .own r :: ss, c => fun e => by cases e
  | .arg _ :: as, .bor r :: ss, c => fun e => by cases e
  | .arg _ :: as, .no :: ss, c => fun e => by cases e
  | .own r0 :: as, [], c => fun e => by cases e
  | .bor r0 :: as, [], c => fun e => by cases e
  | .no :: as, [], c => fun e => by cases e
  | .own r0 :: as, s :: ss, c => finals_nx as ss c
  | .bor r0 :: as, s :: ss, c => finals_nx as ss c
  | .no :: as, s :: ss, c => finals_nx as ss c
theorem slotAt_app (as : List Slot) (n i : Nat) : slotAt (as ++ List.replicate n .no) i = slotAt as i := by
  unfold slotAt
  simp only [List.getD_eq_getElem?_getD]
  by_cases h : i < as.length
  · rw [List.getElem?_append_left h]
  · rw [List.getElem?_append_right (Nat.le_of_not_lt h), List.getElem?_eq_none (l := as) (Nat.le_of_not_lt h), List.getElem?_replicate]
    split <;> rfl
section
variable {K : PySem.W.Frag} {xc : Nat → Value} {H H' : Hp} {σ' : L2.St} {ρ' : Env} {as : List Slot} {vs : List V} {Fa Fs' : Nat → List Addr} {N : List Str}
theorem start_at (N : List Str) (vs : List V) (i : Nat) : Vat (L2.start N vs) i = Vat (vs.map some) i := by
  unfold Vat L2.start
  by_cases h : i < (vs.map some).length
  · rw [List.getElem?_append_left h]
  · rw [List.getElem?_append_right (Nat.le_of_not_lt h), List.getElem?_eq_none (l := vs.map some) (Nat.le_of_not_lt h), List.getElem?_replicate]
    split <;> rfl
theorem fin_ok {fs : List R} (fr : Fr K H' σ' ρ' Fs') (kp : Kp (L2.start N vs) σ' (as ++ List.replicate (N.length - vs.length) .no) ρ') (e : finals as ρ' = .ok fs) : ∃ Ff, Fr K H' (vs.map some) (finS as fs) Ff ∧ ∀ a, Mem Ff a → Mem Fs' a := by
  have h := finals_fin e
  let Ff : Nat → List Addr := fun i => if (slotAt (finS as fs) i).isNo then [] else Fs' i
  have sub : ∀ a, Mem Ff a → Mem Fs' a := fun a ⟨i, z⟩ => by
    have z : a ∈ (if (slotAt (finS as fs) i).isNo then [] else Fs' i) := z
    split at z
    · cases z
    · exact ⟨i, z⟩
  refine ⟨Ff, ⟨fun i => ?_, fun i => ?_, fun i j a hi hj => ?_⟩, sub⟩
  · show SlotOk K H' _ _ _ (if (slotAt (finS as fs) i).isNo then [] else Fs' i)
    rcases h i with e1 | ⟨e1, ⟨r0, e2⟩, ⟨r, e3⟩⟩
    · rw [e1]; exact rfl
    · have z := fr.sl i
      obtain ⟨_, e4⟩ := kp.arg i r e3
      rw [start_at] at e4
      rw [e4, e3] at z
      rw [e1, e3]
      exact z
  · show (if (slotAt (finS as fs) i).isNo then [] else Fs' i).Nodup
    split
    · exact .nil
    · exact fr.nd i
  · have hi : a ∈ (if (slotAt (finS as fs) i).isNo then [] else Fs' i) := hi
    have hj : a ∈ (if (slotAt (finS as fs) j).isNo then [] else Fs' j) := hj
    split at hi
    · cases hi
    · split at hj
      · cases hj
      · exact fr.dj i j a hi hj
/-- a def's body answers its promise -/
theorem body_ok {cf : CallT} {fn : Fn} {Q : VK} {E : XK} (hn : fn.ns = N.length) (hl : vs.length = fn.np) (fra : Fr K H (vs.map some) as Fa) (p : PostF K xc vs as Fa H Q E (runFn cf fn as)) :
    tS K xc cf (fun cls d _ H => E cls d H) fn.body { nx := fun _ H' => Q .non H', rt := Q } (L2.start N vs) H := by
  unfold runFn at p
  split at p
  · rename_i ha
    have er : fn.ns - fn.np = N.length - vs.length := by rw [hn, hl]
    rw [er] at p
    refine ⟨as ++ List.replicate (N.length - vs.length) .no, Fa, ⟨fun i => ?_, fra.nd, fra.dj⟩, ?_⟩
    · rw [start_at, slotAt_app]; exact fra.sl i
    · cases eo : exec cf fn.body (as ++ List.replicate (N.length - vs.length) .no) with
      | stuck => rw [eo] at p; exact p
      | exc c => rw [eo] at p; exact fun σ' H' _ k => p H' k
      | ok f =>
        rw [eo] at p
        cases f with
        | brk ρ' => exact False.elim p
        | cont ρ' => exact False.elim p
        | next ρ' =>
          intro σ' H' Fs' fr st kp
          have p : PostF K xc vs as Fa H Q E ((finals as ρ').bind fun fs => .ok (.g .non, fs)) := p
          cases ef : finals as ρ' with
          | stuck => rw [ef] at p; exact False.elim p
          | exc c => exact absurd ef (finals_nx _ _ _)
          | ok fs =>
            rw [ef] at p
            obtain ⟨Ff, h1, h2⟩ := fin_ok fr kp ef
            exact p .non H' Ff [] h1 ⟨rfl, rfl⟩ .nil (fun _ z => nomatch z) ⟨st.keep, fun a z => st.new a (h2 a z)⟩ fun _ z => nomatch z
        | ret r ρ' =>
          intro v σ' H' Fs' F fr st kp ro nd nm nf
          have p : PostF K xc vs as Fa H Q E ((finals as ρ').bind fun fs => .ok (r, fs)) := p
          cases ef : finals as ρ' with
          | stuck => rw [ef] at p; exact False.elim p
          | exc c => exact absurd ef (finals_nx _ _ _)
          | ok fs =>
            rw [ef] at p
            obtain ⟨Ff, h1, h2⟩ := fin_ok fr kp ef
            exact p v H' Ff F h1 ro nd (fun a ha z => nm a ha (h2 a z)) ⟨st.keep, fun a z => st.new a (h2 a z)⟩ nf
  · exact False.elim p
end
/-- a def of the program keeps its promise -/
theorem fn_ok {P0 : Program} {w : World} {K : PySem.W.Frag} {mg : Str → Option Value} {base : Heap} {xc : Nat → Value} {P : List Fn} {fi n : Nat} {fn : Fn} {x qual : Str} {params : Arguments} {body : List Stmt} {scope : Scope} {dvs : List V} {kws : List (Str × V)} {f : Addr} {fd : FuncData} {N ps : List Str}
    (F : FunD K x qual params body scope dvs kws f fd) (S : FnScope N ps scope) (hf : P[fi]? = some fn) (hn : fn.ns = N.length) (hp : fn.np = ps.length)
    (hb : ∀ (cdv : Value) (A : Around) (outer : List PySem.Env) (s : Shared) (H : Hp) (E : XK), Room n (A.deeper (envOfC qual scope s.heap.objs.size f cdv)) →
      PSs (cxOf (L2.CX P0 w) P0 w K mg base N qual scope f cdv A outer s H E) body (tS K xc (callF P n) (fun cls d _ H => E cls d H) fn.body)) :
    FnOk P0 w K mg base (L2.CX P0 w) (n + 1) f fd ps (spF K xc (callF P (n + 1)) fi ps.length) := by
  refine FunD.ok F S (fun vs H Q E h => h.1) fun cdv A outer s H vs Q E hr hsp => ⟨_, hb cdv A outer s H E hr, ?_⟩
  obtain ⟨hl, as, Fa, ha, fra, p⟩ := hsp
  have p : PostF K xc vs as Fa H Q E (runFn (callF P n) fn as) := by
    have e : callF P (n + 1) fi as = runFn (callF P n) fn as := by
      show (match P[fi]? with
        | some fn => runFn (callF P n) fn as
        | none => .stuck) = _
      rw [hf]
    rw [e] at p
    exact p
  exact body_ok hn (hl.trans hp.symm) fra p
theorem fn_ok0 {P0 : Program} {w : World} {K : PySem.W.Frag} {mg : Str → Option Value} {base : Heap} {xc : Nat → Value} {P : List Fn} {fi np : Nat} {f : Addr} {fd : FuncData} {ps : List Str} (h : ps.length = np) : FnOk P0 w K mg base (L2.CX P0 w) 0 f fd ps (spF K xc (callF P 0) fi np) :=
  ⟨fun vs H Q E q => q.1.trans h.symm, fun A outer s H args us vs Q E _ _ _ _ ⟨_, as, Fa, _, _, p⟩ => False.elim p⟩
theorem callF_len {P : List Fn} {n fi : Nat} {fn : Fn} (hf : P[fi]? = some fn) (as : List Slot) (h : as.length ≠ fn.np) : callF P n fi as = .stuck := by
  cases n with
  | zero => rfl
  | succ n =>
    show (match P[fi]? with
      | some fn => runFn (callF P n) fn as
      | none => .stuck) = _
    rw [hf]
    show runFn (callF P n) fn as = _
    unfold runFn
    rw [if_neg h]
/-! ### plain parameters are bound -/
theorem zip_lookup : ∀ {ps : List Str} {us : List Value} {x : Str}, us.length = ps.length → x ∈ ps → ((ps.zip us).lookup x).isSome = true
  | p :: ps, [], x, h, hx => by simp at h
  | p :: ps, u :: us, x, h, hx => by
    rw [List.zip_cons_cons, List.lookup_cons]
    cases e : x == p with
    | true => rfl
    | false =>
      have : x ∈ ps := by
        rcases List.mem_cons.mp hx with q | q
        · subst q; simp at e
        · exact q
      exact zip_lookup (by simpa using h) this
  | [], us, x, h, hx => by cases hx
theorem fm_congr {α β : Type} {f g : α → Option β} : ∀ {l : List α}, (∀ x ∈ l, f x = g x) → l.filterMap f = l.filterMap g
  | [], _ => rfl
  | a :: l, h => by rw [List.filterMap_cons, List.filterMap_cons, h a List.mem_cons_self, fm_congr fun x hx => h x (List.mem_cons_of_mem _ hx)]
theorem zip_binds : ∀ {ps : List Str} {us : List Value}, us.length = ps.length → ps.Nodup → (ps.filterMap fun n => ((ps.zip us).lookup n).map (n, ·)) = ps.zip us
  | [], us, _, _ => rfl
  | p :: ps, [], h, _ => by simp at h
  | p :: ps, u :: us, h, nd => by
    have nd := List.nodup_cons.mp nd
    rw [List.zip_cons_cons, List.filterMap_cons]
    simp only [List.lookup_cons, beq_self_eq_true, Option.map_some]
    congr 1
    refine Eq.trans (fm_congr fun n hn => ?_) (zip_binds (ps := ps) (us := us) (by simpa using h) nd.2)
    have : (n == p) = false := by
      cases e : n == p with
      | false => rfl
      | true => have : n = p := by simpa using e
                subst this; exact absurd hn nd.1
    rw [this]
def plainA (params : Arguments) : Bool := params.posonlyargs.isEmpty && params.vararg.isNone && params.kwonlyargs.isEmpty && params.kwarg.isNone
theorem binds_plain {x qual : Str} {params : Arguments} {body : List Stmt} {scope : Scope} {kV doc pm : Value} {an : Option Addr} {cdv ct : Value} {us : List Value} (h : plainA params = true) (nd : (params.args.map (·.arg)).Nodup) (hl : us.length = (params.args.map (·.arg)).length) :
    bindArgs (PySem.W.fnOf x qual params body scope .none kV doc pm an cdv ct) ⟨us, []⟩ = pure ((params.args.map (·.arg)).zip us) := by
  unfold plainA at h
  simp only [Bool.and_eq_true, List.isEmpty_iff, Option.isNone_iff_eq_none] at h
  obtain ⟨⟨⟨h1, h2⟩, h3⟩, h4⟩ := h
  unfold bindArgs
  simp only [PySem.W.fnOf, h1, h2, h3, h4, List.map_nil, List.nil_append, List.append_nil]
  have hsq : seqItems? Value.none = pure none := rfl
  rw [List.forIn_nil, pure_bind, hsq, pure_bind]
  have hgt : (decide (us.length > (params.args.map (·.arg)).length)) = false := by simp [hl]
  have hmiss : (List.filter (fun n => (List.lookup n ((params.args.map (·.arg)).zip us)).isNone) (params.args.map (·.arg))) = [] := by
    rw [List.filter_eq_nil_iff]
    intro n hn
    have := zip_lookup hl hn
    cases e : List.lookup n ((params.args.map (·.arg)).zip us) with
    | none => rw [e] at this; cases this
    | some _ => simp
  simp only [hgt, Option.getD_none, Array.toList_empty, List.length_nil, Nat.zero_sub, List.drop_nil, List.drop_zero, Nat.sub_zero, List.take_length, hmiss, List.isEmpty_nil, Bool.not_true, Bool.false_and, Bool.false_eq_true, if_false, List.zip_nil_right, List.drop_length, List.zip_nil_left, List.forIn_nil, pure_bind, bind_pure_comp, map_pure]
  rw [zip_binds hl nd]
end Pv
/-! Pv22: the translation of expressions; what it gives is proved as it is made. -/
namespace Pv
open PySem PySem.Spec PyProof.Rows L2
/-- what the translation knows -/
structure Cc where
  N : List Str
  sc : Scope
  fnc : Str → Bool
  fns : List (Str × Nat × Nat)
  blt : List Str
  cs : List (Str × G)
  exs : List (Str × Nat)
  exm : List ((Nat × Str) × Bool)
  isx : List ((Nat × Str) × Bool)
/-- an own exception class, by its name -/
def ExcAt (X : Cx) (x : Str) (v : Value) : Prop := ∃ (C : Addr) (B newId initId : String) (bmB : List Value), v = .ref C ∧ ExcBaseFacts B newId initId bmB ∧ PySem.W.excIn X.K C bmB newId = true ∧ X.mg x = some (.ref C) ∧ PySem.W.keepIn X.K (.ref C) = true ∧ Raises X (.ref C)
/-- what a global or built-in name stands for -/
def Stands (X : Cx) (x : Str) (u : Value) : Prop := X.mg x = some u ∨ (X.mg x = none ∧ bootBuiltins x = some u ∧ x ≠ "__name__")
structure Cfg (X : Cx) (Γ : Cc) (xc : Nat → Value) (cf : CallT) (W : WX) : Prop where
  calm : X.calm = true
  nd : X.N.Nodup
  hN : X.N = Γ.N
  sc : X.env.scope = Γ.sc
  fn : X.fn = Γ.fnc
  hu : X.A.units + 66 < cLine
  fns : ∀ p ∈ Γ.fns, Fd X xc cf p.2.1 p.2.2 p.1
  blt : ∀ x ∈ Γ.blt, X.mg x = none
  cs : ∀ p ∈ Γ.cs, ∃ v u, X.mg p.1 = some u ∧ RelV v u ∧ ∀ H, RepG X.K H v p.2
  exs : ∀ p ∈ Γ.exs, ExcAt X p.1 (xc p.2)
  exm : ∀ p ∈ Γ.exm, ∃ u, Stands X p.1.2 u ∧ PySem.W.exmOne X.K (xc p.1.1) u = some p.2
  isx : ∀ p ∈ Γ.isx, ∃ (D : Addr) (z : V) (u : Value), xc p.1.1 = .ref D ∧ ExcC X.K D ∧ Stands X p.1.2 u ∧ RelV z u ∧ (∀ u', RelV z u' → u' = u) ∧ PySem.W.kitOne X.K (.ref D) u = some p.2
  tk : Takes X W
def W0 : WX := fun _ _ _ _ => False
structure OkE (Γ : Cc) (e : Expr) (ee : E) : Prop where
  pe : ∀ {X : Cx} {xc : Nat → Value} {cf : CallT} {W : WX}, Cfg X Γ xc cf W → PE X e (tE X.K xc cf W ee)
  pt : ∀ {X : Cx} {xc : Nat → Value} {cf : CallT} {W : WX}, Cfg X Γ xc cf W → PT X e (tT X.K xc cf W ee)
theorem OkE.val {Γ : Cc} {e : Expr} {ee : E} (h : ∀ {X : Cx} {xc : Nat → Value} {cf : CallT} {W : WX}, Cfg X Γ xc cf W → PE X e (tE X.K xc cf W ee)) (he : ∀ env whole, isTrue e env whole = (do let v ← whole; standAt e.pos; holding [v] (truthy v))) : OkE Γ e ee := ⟨h, fun c => t_val (h c) (he _)⟩
def OkA (Γ : Cc) (es : List Expr) (ees : E) : Prop := ∀ {X : Cx} {xc : Nat → Value} {cf : CallT} {W : WX}, Cfg X Γ xc cf W → PA X es (tA X.K xc cf W ees)
def OkI (Γ : Cc) (e : Expr) (ei : E) : Prop := ∀ {X : Cx} {xc : Nat → Value} {cf : CallT} {W : WX} {tg : Expr}, Cfg X Γ xc cf W → PI X tg e (tI X.K xc cf W ei)
def OkG (Γ : Cc) (e : Expr) (et : E) : Prop := ∀ {X : Cx} {xc : Nat → Value} {cf : CallT} {W : WX}, Cfg X Γ xc cf W → PG X e (tG X.K et)
def isStar : Expr → Bool
  | .Starred _ _ => true
  | _ => false
theorem notStar {e : Expr} (h : isStar e = false) : ∀ x p, e ≠ .Starred x p := fun x p z => by subst z; cases h
/-! ### names -/
/-- the slot of a name -/
def slotOf (Γ : Cc) (x : Str) : Option Nat := Γ.N.findIdx? (· == x)
def visB (Γ : Cc) (x : Str) : Bool := (match Γ.sc.names.lookup x with
  | some .local => true
  | some .cell => true
  | some .free => true
  | _ => false) && !(x == ("__debug__" : Str)) && !(x == ("__classdict__" : Str))
def locB (Γ : Cc) (x : Str) : Bool := match Γ.sc.names.lookup x with
  | some .local => true
  | some .cell => Γ.fnc x
  | _ => false
def glB (Γ : Cc) (x : Str) : Bool := (match Γ.sc.names.lookup x with
  | some .globalImplicit => true
  | _ => false) && !(x == ("__debug__" : Str))
theorem slotOf_ok {Γ : Cc} {x : Str} {j : Nat} (h : slotOf Γ x = some j) : Γ.N[j]? = some x := by
  unfold slotOf at h
  obtain ⟨h1, h2, _⟩ := List.findIdx?_eq_some_iff_getElem.mp h
  rw [List.getElem?_eq_getElem h1]
  exact congrArg some (by simpa using h2)
section
variable {X : Cx} {Γ : Cc} {xc : Nat → Value} {cf : CallT} {W : WX} {x : Str}
theorem vis_ok (c : Cfg X Γ xc cf W) (h : visB Γ x = true) : Vis X.env.scope x ∧ (x == ("__debug__" : Str)) = false ∧ (x == ("__classdict__" : Str)) = false := by
  unfold visB at h
  simp only [Bool.and_eq_true, Bool.not_eq_true'] at h
  obtain ⟨⟨h1, h2⟩, h3⟩ := h
  refine ⟨?_, h2, h3⟩
  unfold Vis
  rw [c.sc]
  split at h1
  · exact .inl (by assumption)
  · exact .inr (.inl (by assumption))
  · exact .inr (.inr (by assumption))
  · cases h1
theorem loc_ok (c : Cfg X Γ xc cf W) (h : locB Γ x = true) : Loc X.env.scope x ∧ (X.fn x = true ∨ X.env.scope.names.lookup x = some .local) := by
  unfold locB at h
  unfold L2.Loc
  rw [c.sc, c.fn]
  split at h
  · exact ⟨.inl (by assumption), .inr (by assumption)⟩
  · exact ⟨.inr (by assumption), .inl h⟩
  · cases h
theorem gl_ok (c : Cfg X Γ xc cf W) (h : glB Γ x = true) : Gl X x ∧ (x == ("__debug__" : Str)) = false := by
  unfold glB at h
  simp only [Bool.and_eq_true, Bool.not_eq_true'] at h
  refine ⟨?_, h.2⟩
  unfold Gl Env.kindOf
  rw [c.sc]
  have h1 := h.1
  split at h1
  · assumption
  · cases h1
theorem Fd.mono {fi np : Nat} {Y : Cx} (h : Fd X xc cf fi np x) (e : ∀ {k fa fd ps}, FnOk X.prog X.w X.K X.mg X.base (L2.CX X.prog X.w) k fa fd ps (spF X.K xc cf fi np) ∧ Room k X.A ∧ X.mg x = some (.ref fa) ∧ PySem.W.keepIn X.K (.ref fa) = true ∧ Binds X.K fd ps [] →
    FnOk Y.prog Y.w Y.K Y.mg Y.base (L2.CX Y.prog Y.w) k fa fd ps (spF Y.K xc cf fi np) ∧ Room k Y.A ∧ Y.mg x = some (.ref fa) ∧ PySem.W.keepIn Y.K (.ref fa) = true ∧ Binds Y.K fd ps []) : Fd Y xc cf fi np x := by
  obtain ⟨⟨k, fa, fd, ps, q⟩, hl⟩ := h
  exact ⟨⟨k, fa, fd, ps, e q⟩, hl⟩
/-- within a comprehension -/
def Cc.blk (Γ : Cc) (scope : Scope) : Cc := { Γ with sc := relS scope Γ.sc, fnc := fun x => scope.names.lookup x == some .cell }
theorem Cfg.blk (c : Cfg X Γ xc cf W) (scope : Scope) (s : Shared) (H : Hp) (C : Addr) (cl : List (Str × Addr)) (fp : List Addr) : Cfg (X.blk s H scope (compEnvC scope cl C X.env) fp) (Γ.blk scope) xc cf W0 :=
  ⟨c.calm, c.nd, c.hN, by show relS scope X.env.scope = relS scope Γ.sc; rw [c.sc], rfl, c.hu, fun p hp => Fd.mono (c.fns p hp) fun q => q, c.blt, c.cs, c.exs, c.exm, c.isx, fun u s' ⟨_, _, _, _, _, _, _, _, _, _, _, _, _, _, _, _, w⟩ => w.elim⟩
end
/-! ### targets -/
def noStars : List Expr → Bool
  | [] => true
  | e :: es => !isStar e && noStars es
theorem assign_each : ∀ {es : List Expr} {env : PySem.Env}, noStars es = true → (assignEach es env).length = es.length ∧ (assignEach es env).findIdx? (·.1) = none
  | [], _, _ => ⟨rfl, rfl⟩
  | e :: es, env, h => by
    unfold noStars at h
    simp only [Bool.and_eq_true, Bool.not_eq_true'] at h
    obtain ⟨h1, h2⟩ := assign_each (es := es) (env := env) h.2
    have e1 : assignEach (e :: es) env = (false, assign e env) :: assignEach es env := by cases e <;> first | rfl | cases h.1
    rw [e1]
    refine ⟨by simp [h1], ?_⟩
    rw [List.findIdx?_cons, h2]; rfl
theorem assign_cons {e : Expr} {es : List Expr} {env : PySem.Env} (h : isStar e = false) : (assignEach (e :: es) env).map (·.2) = assign e env :: (assignEach es env).map (·.2) := by cases e <;> first | rfl | cases h
abbrev RG (Γ : Cc) (e : Expr) := Option { et : E // OkG Γ e et }
def OkGs (Γ : Cc) (es : List Expr) (et : E) : Prop := ∀ {X : Cx} {xc : Nat → Value} {cf : CallT} {W : WX}, Cfg X Γ xc cf W → PGs X es (tGs X.K et) ∧ et.len = es.length
def cGs (Γ : Cc) (f : (e : Expr) → RG Γ e) : (es : List Expr) → Option { et : E // OkGs Γ es et }
  | [] => some ⟨.nil, fun _ => ⟨pgs_nil, rfl⟩⟩
  | e :: es => match f e, cGs Γ f es with
    | some a, some b => if h : isStar e = false then some ⟨.cons a.1 b.1, fun c => ⟨pgs_cons (a.2 c) (b.2 c).1 (assign_cons h), by show b.1.len + 1 = _; rw [(b.2 c).2]; rfl⟩⟩ else none
    | _, _ => none
def cG (Γ : Cc) : (n : Nat) → (e : Expr) → RG Γ e
  | 0, _ => none
  | n + 1, .Name x p => match h : slotOf Γ x with
    | some j => if hl : locB Γ x = true then some ⟨.var j, fun c => g_name c.nd (by rw [c.hN]; exact slotOf_ok h) (loc_ok c hl).1 (loc_ok c hl).2⟩ else none
    | none => none
  | n + 1, .Tuple es k p => match cGs Γ (cG Γ n) es with
    | some a => if h : noStars es = true then some ⟨.tup a.1, fun c => PG.imp (pg_tup c.calm (a.2 c).1 (assign_each h).1 (assign_each h).2) fun v σ H Q _ ⟨ad, ws, h1, h2, h3, h4⟩ => ⟨ad, ws, h1, h2, by rw [h3, (a.2 c).2], h4⟩⟩ else none
    | none => none
  | _ + 1, _ => none
/-! ### expressions -/
abbrev RE (Γ : Cc) (e : Expr) := Option { ee : E // OkE Γ e ee }
def cA (Γ : Cc) (f : (e : Expr) → RE Γ e) : (es : List Expr) → Option { ees : E // OkA Γ es ees }
  | [] => some ⟨.nil, fun _ => s_nil⟩
  | e :: es => match f e, cA Γ f es with
    | some a, some b => if h : isStar e = false then some ⟨.cons a.1 b.1, fun c => s_cons (a.2.pe c) (b.2 c) (notStar h)⟩ else none
    | _, _ => none
def ofOp (op : Operator) : Option { o : BOp // toOp o = op } :=
  match op with
  | .Add => some ⟨.add, rfl⟩ | .Sub => some ⟨.sub, rfl⟩ | .Mult => some ⟨.mul, rfl⟩ | .Mod => some ⟨.mod, rfl⟩ | .FloorDiv => some ⟨.fdiv, rfl⟩ | .Pow => some ⟨.pow, rfl⟩ | .LShift => some ⟨.shl, rfl⟩ | .RShift => some ⟨.shr, rfl⟩
  | .BitAnd => some ⟨.band, rfl⟩ | .BitXor => some ⟨.bxor, rfl⟩ | .BitOr => some ⟨.bor, rfl⟩ | _ => none
def ofC (op : CmpOp) : { o : COp // toC o = op } :=
  match op with
  | .Eq => ⟨.eq, rfl⟩ | .NotEq => ⟨.ne, rfl⟩ | .Lt => ⟨.lt, rfl⟩ | .LtE => ⟨.le, rfl⟩ | .Gt => ⟨.gt, rfl⟩ | .GtE => ⟨.ge, rfl⟩ | .Is => ⟨.is_, rfl⟩ | .IsNot => ⟨.isnt, rfl⟩ | .In => ⟨.in_, rfl⟩ | .NotIn => ⟨.nin, rfl⟩
/-- a chain of comparisons -/
structure OkC (Γ : Cc) (ops : List CmpOp) (cs : List Expr) (t : E) : Prop where
  nn : t.isNil = false
  ce : ∀ {X : Cx} {xc : Nat → Value} {cf : CallT} {W : WX} {pos : Pos}, Cfg X Γ xc cf W → ChE X pos ops cs (tCh X.K xc cf W t)
  ct : ∀ {X : Cx} {xc : Nat → Value} {cf : CallT} {W : WX} {pos : Pos}, Cfg X Γ xc cf W → ChT X pos ops cs (tCh X.K xc cf W t)
def cC (Γ : Cc) (f : (e : Expr) → RE Γ e) : (ops : List CmpOp) → (cs : List Expr) → Option { t : E // OkC Γ ops cs t }
  | [op], [e] => match f e, ofC op with
    | some b, ⟨o, h⟩ => some ⟨.cc o b.1 .nil, by subst h; exact ⟨rfl, fun c => che_last c.hu o (b.2.pe c), fun c => cht_last c.hu o (b.2.pe c)⟩⟩
    | none, _ => none
  | op :: op2 :: ops, e :: e2 :: es => match f e, cC Γ f (op2 :: ops) (e2 :: es), ofC op with
    | some b, some t, ⟨o, h⟩ => some ⟨.cc o b.1 t.1, by subst h; exact ⟨rfl, fun c => che_link c.hu o (b.2.pe c) t.2.nn (t.2.ce c), fun c => cht_link c.hu o (b.2.pe c) t.2.nn (t.2.ct c)⟩⟩
    | _, _, _ => none
  | _, _ => none
/-- and, or -/
structure OkB (Γ : Cc) (op : BoolOp) (es : List Expr) (pos : Pos) (ee : E) : Prop where
  pe : ∀ {X : Cx} {xc : Nat → Value} {cf : CallT} {W : WX}, Cfg X Γ xc cf W → PE X (.BoolOp op es pos) (tE X.K xc cf W ee)
  pw : ∀ {X : Cx} {xc : Nat → Value} {cf : CallT} {W : WX}, Cfg X Γ xc cf W → PW X (.BoolOp op es pos) (tT X.K xc cf W ee)
def cB (Γ : Cc) (f : (e : Expr) → RE Γ e) (pos : Pos) : (op : BoolOp) → (es : List Expr) → Option { ee : E // OkB Γ op es pos ee }
  | .And, [e] => match f e with
    | some a => some ⟨a.1, fun c => s_one (a.2.pe c), fun c => t_and1 (a.2.pt c)⟩
    | none => none
  | .Or, [e] => match f e with
    | some a => some ⟨a.1, fun c => s_one (a.2.pe c), fun c => t_or1 (a.2.pt c)⟩
    | none => none
  | .And, e :: e2 :: es => match f e, cB Γ f pos .And (e2 :: es) with
    | some a, some b => some ⟨.and a.1 b.1, fun c => s_and (a.2.pe c) (b.2.pe c), fun c => t_and (a.2.pt c) (b.2.pw c)⟩
    | _, _ => none
  | .Or, e :: e2 :: es => match f e, cB Γ f pos .Or (e2 :: es) with
    | some a, some b => some ⟨.or a.1 b.1, fun c => s_or (a.2.pe c) (b.2.pe c), fun c => t_or (a.2.pt c) (b.2.pw c)⟩
    | _, _ => none
  | _, [] => none
/-- the bounds of a slice -/
def OkO (Γ : Cc) (o : Option Expr) (ee : E) : Prop := ∀ {X : Cx} {xc : Nat → Value} {cf : CallT} {W : WX}, Cfg X Γ xc cf W → PO X o (tOpt X.K xc cf W ee)
def cO (Γ : Cc) (f : (e : Expr) → RE Γ e) : (o : Option Expr) → Option { ee : E // OkO Γ o ee }
  | none => some ⟨.nil, fun _ => po_nil⟩
  | some e => match f e with
    | some a => if h : a.1.isNil = false then some ⟨a.1, fun c => po_e (a.2.pe c) h⟩ else none
    | none => none
theorem plainIx {b : Expr} (h : isSl b = false) (h2 : isTup b = false) : PlainIx b := by
  intro o i
  cases b <;> first | rfl | cases h | cases h2
def b1Of (x : Str) : Option { f : B1 // bootBuiltins x = some (b1V f) ∧ x ≠ "__name__" } :=
  if h : x = "len" then some ⟨.len, by subst h; exact ⟨rfl, by decide⟩⟩
  else if h : x = "tuple" then some ⟨.tuple, by subst h; exact ⟨rfl, by decide⟩⟩
  else if h : x = "list" then some ⟨.list, by subst h; exact ⟨rfl, by decide⟩⟩
  else if h : x = "int" then some ⟨.int, by subst h; exact ⟨rfl, by decide⟩⟩
  else if h : x = "abs" then some ⟨.abs, by subst h; exact ⟨rfl, by decide⟩⟩
  else if h : x = "sum" then some ⟨.sum, by subst h; exact ⟨rfl, by decide⟩⟩
  else if h : x = "all" then some ⟨.all, by subst h; exact ⟨rfl, by decide⟩⟩
  else if h : x = "any" then some ⟨.any, by subst h; exact ⟨rfl, by decide⟩⟩
  else if h : x = "sorted" then some ⟨.sorted, by subst h; exact ⟨rfl, by decide⟩⟩
  else if h : x = "max" then some ⟨.max, by subst h; exact ⟨rfl, by decide⟩⟩
  else if h : x = "min" then some ⟨.min, by subst h; exact ⟨rfl, by decide⟩⟩
  else none
def b2Of (x : Str) : Option { f : B2 // bootBuiltins x = some (b2V f) ∧ x ≠ "__name__" } :=
  if h : x = "max" then some ⟨.max, by subst h; exact ⟨rfl, by decide⟩⟩
  else if h : x = "min" then some ⟨.min, by subst h; exact ⟨rfl, by decide⟩⟩
  else none
def tyOf (x : Str) : Option { t : Ty // bootBuiltins x = some (.type (tyN t)) ∧ x ≠ "__name__" } :=
  if h : x = "bool" then some ⟨.bool, by subst h; exact ⟨rfl, by decide⟩⟩
  else if h : x = "int" then some ⟨.int, by subst h; exact ⟨rfl, by decide⟩⟩
  else if h : x = "str" then some ⟨.str, by subst h; exact ⟨rfl, by decide⟩⟩
  else if h : x = "tuple" then some ⟨.tuple, by subst h; exact ⟨rfl, by decide⟩⟩
  else if h : x = "list" then some ⟨.list, by subst h; exact ⟨rfl, by decide⟩⟩
  else none
/-- a base whose attributes are looked up plainly -/
def baseB : Expr → Bool
  | .Call _ _ _ _ => false
  | _ => true
theorem base_ok {e : Expr} {m : Str} {env : PySem.Env} (h : baseB e = true) : attributeBase e m env (eval e env) = eval e env := by
  cases e <;> first | rfl | cases h
def inL (l : List Str) (x : Str) : Bool := l.any (· == x)
theorem inL_ok {l : List Str} {x : Str} (h : inL l x = true) : x ∈ l := by
  unfold inL at h
  obtain ⟨y, h1, h2⟩ := List.any_eq_true.mp h
  have : y = x := by simpa using h2
  exact this ▸ h1
theorem all_stars {es : List Expr} (h : noStars es = true) : ∀ y ∈ es, ∀ z p, y ≠ .Starred z p := by
  induction es with
  | nil => intro y hy; cases hy
  | cons e es ih =>
    unfold noStars at h
    simp only [Bool.and_eq_true, Bool.not_eq_true'] at h
    intro y hy
    rcases List.mem_cons.mp hy with q | q
    · subst q; exact notStar h.1
    · exact ih h.2 y q
def fnOf (Γ : Cc) (x : Str) : Option (Nat × Nat) := Γ.fns.lookup x
theorem fnOf_ok {Γ : Cc} {x : Str} {q : Nat × Nat} (h : fnOf Γ x = some q) : (x, q) ∈ Γ.fns := PySem.mem_of_lookup h
def csOf (Γ : Cc) (x : Str) : Option G := Γ.cs.lookup x
def isSet : Expr → Bool
  | .Set _ _ _ => true
  | _ => false
theorem no_fold {e : Expr} (h : isSet e = false) : ∀ env x, foldedSetIterable e env x = pure x := by
  intro env x
  cases e <;> first | rfl | cases h
abbrev RI (Γ : Cc) (e : Expr) := Option { ee : E // OkI Γ e ee }
/-- what is walked -/
def cI (Γ : Cc) (f : (e : Expr) → RE Γ e) (e : Expr) : RI Γ e :=
  let dflt : RI Γ e := match f e with
    | some a => some ⟨.it a.1, fun c => s_it (a.2.pe c)⟩
    | none => none
  match e with
  | .Call (.Name x p) [a] [] pos => if h : (x = "range" ∧ inL Γ.blt x = true ∧ glB Γ x = true) ∧ isStar a = false then (match f a with
      | some b => some ⟨.rng1 b.1, fun c => by obtain ⟨⟨rfl, h2, h3⟩, h4⟩ := h; exact s_rng1 (gl_ok c h3).1 (c.blt _ (inL_ok h2)) (b.2.pe c) (notStar h4)⟩
      | none => none) else (match f (.Call (.Name x p) [a] [] pos) with
    | some a => some ⟨.it a.1, fun c => s_it (a.2.pe c)⟩
    | none => none)
  | .Call (.Name x p) [a, b] [] pos => if h : (x = "range" ∧ inL Γ.blt x = true ∧ glB Γ x = true) ∧ isStar a = false ∧ isStar b = false then (match f a, f b with
      | some a', some b' => some ⟨.rng2 a'.1 b'.1, fun c => by obtain ⟨⟨rfl, h2, h3⟩, h4, h5⟩ := h; exact s_rng2 (gl_ok c h3).1 (c.blt _ (inL_ok h2)) (a'.2.pe c) (b'.2.pe c) (notStar h4) (notStar h5)⟩
      | _, _ => none) else (match f (.Call (.Name x p) [a, b] [] pos) with
    | some a => some ⟨.it a.1, fun c => s_it (a.2.pe c)⟩
    | none => none)
  | e => match f e with
    | some a => some ⟨.it a.1, fun c => s_it (a.2.pe c)⟩
    | none => none
/-- the tests of a clause -/
structure OkF (Γ : Cc) (ifs : List Expr) (ec : E) : Prop where
  ok : ∀ {X : Cx} {xc : Nat → Value} {cf : CallT} {W : WX}, Cfg X Γ xc cf W → PTs X ifs (if ec.isNil then tYes else tT X.K xc cf W ec)
def cF (Γ : Cc) (f : (e : Expr) → RE Γ e) : (ifs : List Expr) → Option { ec : E // OkF Γ ifs ec }
  | [] => some ⟨.nil, ⟨fun _ => pts_nil⟩⟩
  | [e] => match f e with
    | some a => if h : a.1.isNil = false then some ⟨a.1, ⟨fun c => by rw [h]; exact pts_one (a.2.pt c)⟩⟩ else none
    | none => none
  | _ => none
theorem condOk (K : PySem.W.Frag) (xc : Nat → Value) (cf : CallT) (Wf : WX) (ec : E) : CondOk K xc cf Wf ec (if ec.isNil then tYes else tT K xc cf Wf ec) := by
  unfold CondOk
  cases h : ec.isNil with
  | true => exact .inl ⟨rfl, rfl⟩
  | false => exact .inr ⟨rfl, rfl⟩
/-- the parts of a comprehension of one clause -/
structure Lc1 (Γ : Cc) (elt tg iter : Expr) (ifs : List Expr) (scope : Scope) where
  ee : E
  et : E
  ei : E
  ec : E
  hi : OkI Γ iter ei
  hg : OkG (Γ.blk scope) tg et
  hf : OkF (Γ.blk scope) ifs ec
  he : OkE (Γ.blk scope) elt ee
  hb : blkC Γ.N Γ.sc scope ((tgs et).map fun j => (Γ.N.getD j "", j)) = true
  hs : isSet iter = false
theorem own_map (N : List Str) (l : List Nat) : (l.map fun j => ((N.getD j "" : Str), j)).map (·.2) = l := by
  rw [List.map_map]; exact (List.map_congr_left fun _ _ => rfl).trans (List.map_id l)
theorem Lc1.ok {Γ : Cc} {elt tg iter : Expr} {ifs : List Expr} {scope : Scope} (l : Lc1 Γ elt tg iter ifs scope) {X : Cx} {xc : Nat → Value} {cf : CallT} {W : WX} (c : Cfg X Γ xc cf W) :
    LcOk X xc cf W0 scope ((tgs l.et).map fun j => (Γ.N.getD j "", j)) elt tg iter ifs (if l.ec.isNil then tYes else tT X.K xc cf W0 l.ec) l.ee l.et l.ec :=
  ⟨blkOk_by (by rw [c.hN, c.sc]; exact l.hb), fun s H C cl fp => l.hg (c.blk scope s H C cl fp), fun s H C cl fp => l.hf.ok (c.blk scope s H C cl fp), fun s H C cl fp => l.he.pe (c.blk scope s H C cl fp), condOk _ _ _ _ _, no_fold l.hs⟩
/-- .. of two clauses -/
structure Lc2 (Γ : Cc) (elt tg iter : Expr) (ifs : List Expr) (tg1 iter1 : Expr) (ifs1 : List Expr) (scope : Scope) where
  ee : E
  et : E
  ei : E
  ec : E
  et1 : E
  ei1 : E
  ec1 : E
  hi : OkI Γ iter ei
  hg : OkG (Γ.blk scope) tg et
  hf : OkF (Γ.blk scope) ifs ec
  hi1 : OkI (Γ.blk scope) iter1 ei1
  hg1 : OkG (Γ.blk scope) tg1 et1
  hf1 : OkF (Γ.blk scope) ifs1 ec1
  he : OkE (Γ.blk scope) elt ee
  hb : blkC Γ.N Γ.sc scope ((tgs et ++ tgs et1).map fun j => (Γ.N.getD j "", j)) = true
  hs : isSet iter = false
  hs1 : isSet iter1 = false
theorem Lc2.ok {Γ : Cc} {elt tg iter tg1 iter1 : Expr} {ifs ifs1 : List Expr} {scope : Scope} (l : Lc2 Γ elt tg iter ifs tg1 iter1 ifs1 scope) {X : Cx} {xc : Nat → Value} {cf : CallT} {W : WX} (c : Cfg X Γ xc cf W) :
    LcOk X xc cf W0 scope ((tgs l.et ++ tgs l.et1).map fun j => (Γ.N.getD j "", j)) elt tg iter ifs (if l.ec.isNil then tYes else tT X.K xc cf W0 l.ec) l.ee l.et l.ec :=
  ⟨blkOk_by (by rw [c.hN, c.sc]; exact l.hb), fun s H C cl fp => l.hg (c.blk scope s H C cl fp), fun s H C cl fp => l.hf.ok (c.blk scope s H C cl fp), fun s H C cl fp => l.he.pe (c.blk scope s H C cl fp), condOk _ _ _ _ _, no_fold l.hs⟩
end Pv
/-! Pv23: the translation of expressions. -/
namespace Pv
open PySem PySem.Spec PyProof.Rows L2
def mkLc1 (Γ : Cc) (scope : Scope) (f : (e : Expr) → RE Γ e) (g : (e : Expr) → RE (Γ.blk scope) e) (n : Nat) (elt tg iter : Expr) (ifs : List Expr) : Option (Lc1 Γ elt tg iter ifs scope) :=
  match cI Γ f iter, cG (Γ.blk scope) n tg, cF (Γ.blk scope) g ifs, g elt with
  | some a, some t, some c, some e => if h : blkC Γ.N Γ.sc scope ((tgs t.1).map fun j => (Γ.N.getD j "", j)) = true ∧ isSet iter = false then
      some ⟨e.1, t.1, a.1, c.1, a.2, t.2, c.2, e.2, h.1, h.2⟩ else none
  | _, _, _, _ => none
def mkLc2 (Γ : Cc) (scope : Scope) (f : (e : Expr) → RE Γ e) (g : (e : Expr) → RE (Γ.blk scope) e) (n : Nat) (elt tg iter : Expr) (ifs : List Expr) (tg1 iter1 : Expr) (ifs1 : List Expr) : Option (Lc2 Γ elt tg iter ifs tg1 iter1 ifs1 scope) :=
  match cI Γ f iter, cG (Γ.blk scope) n tg, cF (Γ.blk scope) g ifs, g elt with
  | some a, some t, some c, some e => (match cI (Γ.blk scope) g iter1, cG (Γ.blk scope) n tg1, cF (Γ.blk scope) g ifs1 with
    | some a1, some t1, some c1 => if h : blkC Γ.N Γ.sc scope ((tgs t.1 ++ tgs t1.1).map fun j => (Γ.N.getD j "", j)) = true ∧ isSet iter = false ∧ isSet iter1 = false then
        some ⟨e.1, t.1, a.1, c.1, t1.1, a1.1, c1.1, a.2, t.2, c.2, a1.2, t1.2, c1.2, e.2, h.1, h.2.1, h.2.2⟩ else none
    | _, _, _ => none)
  | _, _, _, _ => none
section
variable (Γ : Cc) (f : (e : Expr) → RE Γ e)
/-- x(..) of a built-in name -/
def cBlt1 (x : Str) (p : Pos) (a : Expr) (pos : Pos) : RE Γ (.Call (.Name x p) [a] [] pos) :=
  match b1Of x, f a with
  | some b, some r => if h : inL Γ.blt x = true ∧ glB Γ x = true ∧ isStar a = false then
      some ⟨.b1 b.1 r.1, OkE.val (fun c => s_b1 b.1 c.calm (gl_ok c h.2.1).1 (c.blt _ (inL_ok h.1)) b.2.1 (r.2.pe c) b.2.2 (gl_ok c h.2.1).2 (notStar h.2.2)) (fun _ _ => rfl)⟩ else none
  | _, _ => none
def cBlt2 (x : Str) (p : Pos) (a b : Expr) (pos : Pos) : RE Γ (.Call (.Name x p) [a, b] [] pos) :=
  match b2Of x, f a, f b with
  | some k, some r, some s => if h : inL Γ.blt x = true ∧ glB Γ x = true ∧ isStar a = false ∧ isStar b = false then
      some ⟨.b2 k.1 r.1 s.1, OkE.val (fun c => s_b2 k.1 c.calm (gl_ok c h.2.1).1 (c.blt _ (inL_ok h.1)) k.2.1 (r.2.pe c) (s.2.pe c) k.2.2 (gl_ok c h.2.1).2 (notStar h.2.2.1) (notStar h.2.2.2)) (fun _ _ => rfl)⟩ else none
  | _, _, _ => none
def cIsi (x : Str) (p : Pos) (a : Expr) (tn : Str) (p2 : Pos) (pos : Pos) : RE Γ (.Call (.Name x p) [a, .Name tn p2] [] pos) :=
  match tyOf tn, f a with
  | some t, some r => if h : x = "isinstance" ∧ inL Γ.blt "isinstance" = true ∧ glB Γ "isinstance" = true ∧ inL Γ.blt tn = true ∧ glB Γ tn = true ∧ isStar a = false then
      some ⟨.isi r.1 t.1, OkE.val (fun c => by
        obtain ⟨rfl, h2, h3, h4, h5, h6⟩ := h
        exact s_isi (gl_ok c h3).1 (c.blt _ (inL_ok h2)) rfl (gl_ok c h5).1 (c.blt _ (inL_ok h4)) t.2.1 t.2.2 (gl_ok c h5).2 (r.2.pe c) (notStar h6)) (fun _ _ => rfl)⟩ else none
  | _, _ => none
/-- a def of the program, called -/
def cDef (x : Str) (p : Pos) (args : List Expr) (pos : Pos) : RE Γ (.Call (.Name x p) args [] pos) :=
  match args with
  | [] => (match h0 : fnOf Γ x with
    | some q => if h : glB Γ x = true then some ⟨.call q.1 .nil, OkE.val (fun c => s_call0 (c.fns _ (fnOf_ok h0)) (gl_ok c h).1 c.tk (gl_ok c h).2) (fun _ _ => rfl)⟩ else none
    | none => none)
  | e :: es => (match h0 : fnOf Γ x, cA Γ f (e :: es) with
    | some q, some r => if h : glB Γ x = true ∧ noStars (e :: es) = true then
        some ⟨.call q.1 r.1, OkE.val (fun c => s_call (c.fns _ (fnOf_ok h0)) (gl_ok c h.1).1 c.tk (r.2 c) (gl_ok c h.1).2 (all_stars h.2)) (fun _ _ => rfl)⟩ else none
    | _, _ => none)
def cPop (x : Str) (p apos cpos : Pos) (m : Str) : RE Γ (.Call (.Attribute (.Name x p) m apos) [] [] cpos) :=
  match h0 : slotOf Γ x with
  | some j => if h : m = "pop" ∧ visB Γ x = true ∧ (apos.endLine == cpos.line) = true then
      some ⟨.pop j, OkE.val (fun c => by
        obtain ⟨rfl, h2, h3⟩ := h
        exact s_pop (by rw [c.hN]; exact slotOf_ok h0) (vis_ok c h2).1 (vis_ok c h2).2.1 (vis_ok c h2).2.2 (base_ok rfl) h3) (fun _ _ => rfl)⟩ else none
  | none => none
def cPopAt (x : Str) (p apos cpos : Pos) (m : Str) (a : Expr) : RE Γ (.Call (.Attribute (.Name x p) m apos) [a] [] cpos) :=
  match h0 : slotOf Γ x, f a with
  | some j, some r => if h : m = "pop" ∧ visB Γ x = true ∧ (apos.endLine == cpos.line) = true ∧ isStar a = false then
      some ⟨.popAt j r.1, OkE.val (fun c => by
        obtain ⟨rfl, h2, h3, h4⟩ := h
        exact s_popAt (by rw [c.hN]; exact slotOf_ok h0) (vis_ok c h2).1 (vis_ok c h2).2.1 (vis_ok c h2).2.2 (r.2.pe c) (notStar h4) (base_ok rfl) h3) (fun _ _ => rfl)⟩ else none
  | _, _ => none
def cMth (a : Expr) (apos cpos : Pos) (m : Str) (b : Expr) : RE Γ (.Call (.Attribute a m apos) [b] [] cpos) :=
  match f a, f b with
  | some r, some s =>
    if h : m = "index" ∧ baseB a = true ∧ (apos.endLine == cpos.line) = true ∧ isStar b = false then
      some ⟨.mth .index r.1 s.1, OkE.val (fun c => by
        obtain ⟨rfl, h2, h3, h4⟩ := h
        exact s_mth c.hu .index (r.2.pe c) (s.2.pe c) (notStar h4) (base_ok h2) h3) (fun _ _ => rfl)⟩
    else if h : m = "count" ∧ baseB a = true ∧ (apos.endLine == cpos.line) = true ∧ isStar b = false then
      some ⟨.mth .count r.1 s.1, OkE.val (fun c => by
        obtain ⟨rfl, h2, h3, h4⟩ := h
        exact s_mth c.hu .count (r.2.pe c) (s.2.pe c) (notStar h4) (base_ok h2) h3) (fun _ _ => rfl)⟩
    else none
  | _, _ => none
def orE {α : Type} : Option α → Option α → Option α
  | some a, _ => some a
  | none, b => b
def cCall (fn : Expr) (args : List Expr) (pos : Pos) : RE Γ (.Call fn args [] pos) :=
  match fn, args with
  | .Name x p, [] => cDef Γ f x p [] pos
  | .Name x p, [a] => orE (cDef Γ f x p [a] pos) (cBlt1 Γ f x p a pos)
  | .Name x p, [a, .Name tn p2] => orE (cDef Γ f x p [a, .Name tn p2] pos) (orE (cIsi Γ f x p a tn p2 pos) (cBlt2 Γ f x p a (.Name tn p2) pos))
  | .Name x p, [a, b] => orE (cDef Γ f x p [a, b] pos) (cBlt2 Γ f x p a b pos)
  | .Name x p, as => cDef Γ f x p as pos
  | .Attribute (.Name x p) m apos, [] => cPop Γ x p apos pos m
  | .Attribute (.Name x p) m apos, [a] => orE (cPopAt Γ f x p apos pos m a) (cMth Γ f (.Name x p) apos pos m a)
  | .Attribute o m apos, [a] => cMth Γ f o apos pos m a
  | _, _ => none
def cName (x : Str) (p : Pos) : RE Γ (.Name x p) :=
  match h0 : slotOf Γ x with
  | some j => if h : visB Γ x = true then some ⟨.var j, OkE.val (fun c => s_var (by rw [c.hN]; exact slotOf_ok h0) (vis_ok c h).1 (vis_ok c h).2.1 (vis_ok c h).2.2) (fun _ _ => rfl)⟩ else none
  | none => match h1 : csOf Γ x with
    | some g => if h : glB Γ x = true then some ⟨.k g, OkE.val (fun c => by
        obtain ⟨v, u, a1, a2, a3⟩ := c.cs _ (PySem.mem_of_lookup h1)
        exact s_glob (gl_ok c h).1 a1 a2 a3 (gl_ok c h).2) (fun _ _ => rfl)⟩ else none
    | none => none
def cSub (a s : Expr) (pos : Pos) : RE Γ (.Subscript a s pos) :=
  match s with
  | .Slice lo hi none p2 => (match f a, cO Γ f lo, cO Γ f hi with
    | some r, some l, some h => some ⟨.sl r.1 l.1 h.1, OkE.val (fun c => s_sl (r.2.pe c) (l.2 c) (h.2 c)) (fun _ _ => rfl)⟩
    | _, _, _ => none)
  | .Slice none none (some (.UnaryOp .USub (.Constant (.int i) k p1) p2)) p3 => (match f a with
    | some r => if h : i = 1 then some ⟨.back r.1, OkE.val (fun c => by subst h; exact s_back (r.2.pe c)) (fun _ _ => rfl)⟩ else none
    | none => none)
  | s => (match f a, f s with
    | some r, some i => if h : isSl s = false ∧ isTup s = false then some ⟨.ix r.1 i.1, OkE.val (fun c => s_ix (r.2.pe c) (i.2.pe c) (plainIx h.1 h.2)) (fun _ _ => rfl)⟩ else none
    | _, _ => none)
def cCmp (a : Expr) (ops : List CmpOp) (cs : List Expr) (pos : Pos) : RE Γ (.Compare a ops cs pos) :=
  match ops, cs with
  | [op], [b] => (match f a, f b, ofC op with
    | some r, some s, ⟨o, ho⟩ => if h : behindInMarks op b = false then some ⟨.cmp r.1 (.cc o s.1 .nil), by subst ho; exact ⟨fun c => s_cmp1 c.hu o (r.2.pe c) (s.2.pe c) h, fun c => t_cmp1 c.hu o (r.2.pe c) (s.2.pe c) h⟩⟩ else none
    | _, _, _ => none)
  | op1 :: op2 :: ops, b :: b2 :: bs => (match f a, cC Γ f (op1 :: op2 :: ops) (b :: b2 :: bs) with
    | some r, some t => if h : lastMarks (op1 :: op2 :: ops) (b :: b2 :: bs) = false then some ⟨.cmp r.1 t.1, fun c => s_cmpN (r.2.pe c) (t.2.ce c) h, fun c => t_cmpN (r.2.pe c) (t.2.ct c) h⟩ else none
    | _, _ => none)
  | _, _ => none
end
def cE : (n : Nat) → (Γ : Cc) → (e : Expr) → RE Γ e
  | 0, _, _ => none
  | n + 1, Γ, e => match e with
    | .Constant k j p => (match k with
      | .none => some ⟨.k .non, OkE.val (fun _ => s_non) (fun _ _ => rfl)⟩
      | .bool b => some ⟨.k (.bl b), OkE.val (fun _ => s_bl) (fun _ _ => rfl)⟩
      | .int i => some ⟨.k (.int i), OkE.val (fun _ => s_int) (fun _ _ => rfl)⟩
      | .str s => some ⟨.k (.str s), OkE.val (fun _ => s_str) (fun _ _ => rfl)⟩
      | _ => none)
    | .Name x p => cName Γ x p
    | .BinOp a op b p => (match cE n Γ a, ofOp op, cE n Γ b with
      | some r, some ⟨o, ho⟩, some s => some ⟨.bin o r.1 s.1, by subst ho; exact OkE.val (fun c => s_bin o (r.2.pe c) (s.2.pe c)) (fun _ _ => rfl)⟩
      | _, _, _ => none)
    | .UnaryOp .USub a p => (match cE n Γ a with
      | some r => some ⟨.neg r.1, OkE.val (fun c => s_neg (r.2.pe c)) (fun _ _ => rfl)⟩
      | none => none)
    | .UnaryOp .Not a p => (match cE n Γ a with
      | some r => some ⟨.not r.1, fun c => s_not (r.2.pe c), fun c => t_not (r.2.pt c)⟩
      | none => none)
    | .BoolOp op es p => (match cB Γ (cE n Γ) p op es with
      | some r => some ⟨r.1, fun c => r.2.pe c, fun c => (r.2.pw c).pt⟩
      | none => none)
    | .IfExp t a b p => (match cE n Γ t, cE n Γ a, cE n Γ b with
      | some q, some r, some s => some ⟨.ite q.1 r.1 s.1, fun c => t_ite (q.2.pt c) (r.2.pe c) (s.2.pe c), fun c => tt_ite (q.2.pt c) (r.2.pt c) (s.2.pt c)⟩
      | _, _, _ => none)
    | .Compare a ops cs p => cCmp Γ (cE n Γ) a ops cs p
    | .Tuple es k p => (match cA Γ (cE n Γ) es with
      | some r => some ⟨.tup r.1, OkE.val (fun c => s_tup (r.2 c)) (fun _ _ => rfl)⟩
      | none => none)
    | .List es p => (match cA Γ (cE n Γ) es with
      | some r => some ⟨.lst r.1, OkE.val (fun c => s_lst (r.2 c)) (fun _ _ => rfl)⟩
      | none => none)
    | .Subscript a s p => cSub Γ (cE n Γ) a s p
    | .Call fn args [] p => cCall Γ (cE n Γ) fn args p
    | .ListComp elt [⟨tg, iter, ifs, 0⟩] scope p => (match mkLc1 Γ scope (cE n Γ) (cE n (Γ.blk scope)) n elt tg iter ifs with
      | some l => some ⟨.comp l.ee l.et l.ei l.ec, OkE.val (fun c => s_comp c.calm c.nd (l.hi c) (l.ok c) (own_map _ _)) (fun _ _ => rfl)⟩
      | none => none)
    | .ListComp elt [⟨tg, iter, ifs, 0⟩, ⟨tg1, iter1, ifs1, 0⟩] scope p => (match mkLc2 Γ scope (cE n Γ) (cE n (Γ.blk scope)) n elt tg iter ifs tg1 iter1 ifs1 with
      | some l => some ⟨.comp2 l.ee l.et l.ei l.ec l.et1 l.ei1 l.ec1, OkE.val (fun c => s_comp2 c.calm c.nd (l.hi c) (l.ok c) (own_map _ _) (fun s H C cl fp => l.hi1 (c.blk scope s H C cl fp)) (fun s H C cl fp => l.hg1 (c.blk scope s H C cl fp)) (fun s H C cl fp => l.hf1.ok (c.blk scope s H C cl fp)) (condOk _ _ _ _ _) (no_fold l.hs1)) (fun _ _ => rfl)⟩
      | none => none)
    | _ => none
end Pv
/-! Pv24: the translation of statements. -/
namespace Pv
open PySem PySem.Spec PyProof.Rows L2
/-- what statements ask of the context besides -/
structure SC (X : Cx) : Prop where
  pw : PassesOwn (model X.prog X.w) X.A X.env X.xe
  stk : X.stack = X.env :: X.outer
  frm : X.env.frame = some X.env.locals
def OkS (Γ : Cc) (st : Stmt) (s : S) : Prop := ∀ {X : Cx} {xc : Nat → Value} {cf : CallT} {W : WX}, Cfg X Γ xc cf W → SC X → PS X st (tS X.K xc cf W s)
def OkSs (Γ : Cc) (sts : List Stmt) (s : S) : Prop := ∀ {X : Cx} {xc : Nat → Value} {cf : CallT} {W : WX}, Cfg X Γ xc cf W → SC X → PSs X sts (tS X.K xc cf W s)
abbrev RS (Γ : Cc) (st : Stmt) := Option { s : S // OkS Γ st s }
abbrev RSs (Γ : Cc) (sts : List Stmt) := Option { s : S // OkSs Γ sts s }
section
variable (Γ : Cc) (f : (st : Stmt) → RS Γ st)
def cSs : (sts : List Stmt) → RSs Γ sts
  | [] => some ⟨.skip, fun _ _ => s_skips⟩
  | [st] => match f st with
    | some a => some ⟨a.1, fun c hp => s_sole (a.2 c hp)⟩
    | none => none
  | st :: st2 :: sts => match f st, cSs (st2 :: sts) with
    | some a, some b => some ⟨.seq a.1 b.1, fun c hp => s_seq (a.2 c hp) (b.2 c hp)⟩
    | _, _ => none
variable (n : Nat)
/-- name = .. -/
def cSet (x : Str) (p : Pos) (e : Expr) (pos : Pos) : RS Γ (.Assign [.Name x p] e pos) :=
  match h0 : slotOf Γ x with
  | none => none
  | some j => if hl : locB Γ x = true then (match e with
    | .ListComp elt [⟨tg, iter, ifs, 0⟩] scope p2 => (match mkLc1 Γ scope (cE n Γ) (cE n (Γ.blk scope)) n elt tg iter ifs with
      | some l => some ⟨.set j (.comp l.ee l.et l.ei l.ec), fun c _ => s_setLc c.calm c.nd (by rw [c.hN]; exact slotOf_ok h0) (loc_ok c hl).1 (loc_ok c hl).2 (l.hi c) (l.ok c) (own_map _ _)⟩
      | none => none)
    | .ListComp elt [⟨tg, iter, ifs, 0⟩, ⟨tg1, iter1, ifs1, 0⟩] scope p2 => (match mkLc2 Γ scope (cE n Γ) (cE n (Γ.blk scope)) n elt tg iter ifs tg1 iter1 ifs1 with
      | some l => some ⟨.set j (.comp2 l.ee l.et l.ei l.ec l.et1 l.ei1 l.ec1), fun c _ => s_setLc2 c.calm c.nd (by rw [c.hN]; exact slotOf_ok h0) (loc_ok c hl).1 (loc_ok c hl).2 (l.hi c) (l.ok c) (own_map _ _) (fun s H C cl fp => l.hi1 (c.blk scope s H C cl fp)) (fun s H C cl fp => l.hg1 (c.blk scope s H C cl fp)) (fun s H C cl fp => l.hf1.ok (c.blk scope s H C cl fp)) (condOk _ _ _ _ _) (no_fold l.hs1)⟩
      | none => none)
    | e => (match cE n Γ e with
      | some a => if h : isLC e = false then some ⟨.set j a.1, fun c _ => s_set c.nd (by rw [c.hN]; exact slotOf_ok h0) (loc_ok c hl).1 (a.2.pe c) h (loc_ok c hl).2⟩ else none
      | none => none)) else none
/-- several names = .. -/
def cUnp (ts : List Expr) (k : Nat) (tp : Pos) (e : Expr) (pos : Pos) : RS Γ (.Assign [.Tuple ts k tp] e pos) :=
  match cG Γ n (.Tuple ts k tp), cE n Γ e with
  | some t, some a => if h : isLC e = false ∧ isTup e = false then some ⟨.unp t.1 a.1, fun c _ => s_unp (a.2.pe c) (t.2 c) h.1 (stores_no h.2)⟩ else none
  | _, _ => none
/-- x[i] = .. -/
def cSetIx (x : Str) (p : Pos) (i : Expr) (tp : Pos) (e : Expr) (pos : Pos) : RS Γ (.Assign [.Subscript (.Name x p) i tp] e pos) :=
  match h0 : slotOf Γ x, cE n Γ i, cE n Γ e with
  | some j, some a, some b => if h : visB Γ x = true ∧ isLC e = false ∧ isSl i = false then
      some ⟨.setix j a.1 b.1, fun c _ => s_setix (by rw [c.hN]; exact slotOf_ok h0) (vis_ok c h.1).1 (vis_ok c h.1).2.1 (vis_ok c h.1).2.2 (a.2.pe c) (b.2.pe c) h.2.1 h.2.2⟩ else none
  | _, _, _ => none
def cApp (x m : Str) (p apos : Pos) (e : Expr) (cpos pos : Pos) : RS Γ (.Expr (.Call (.Attribute (.Name x p) m apos) [e] [] cpos) pos) :=
  match h0 : slotOf Γ x, cE n Γ e with
  | some j, some a => if h : m = "append" ∧ visB Γ x = true ∧ (apos.endLine == cpos.line) = true ∧ isStar e = false then
      some ⟨.app j a.1, fun c _ => by
        obtain ⟨rfl, h2, h3, h4⟩ := h
        exact s_app (by rw [c.hN]; exact slotOf_ok h0) (vis_ok c h2).1 (vis_ok c h2).2.1 (vis_ok c h2).2.2 (a.2.pe c) (notStar h4) (base_ok rfl) h3⟩ else none
  | _, _ => none
def cRev (x m : Str) (p apos cpos pos : Pos) : RS Γ (.Expr (.Call (.Attribute (.Name x p) m apos) [] [] cpos) pos) :=
  match h0 : slotOf Γ x with
  | some j => if h : m = "reverse" ∧ visB Γ x = true ∧ (apos.endLine == cpos.line) = true then
      some ⟨.rev j, fun c _ => by
        obtain ⟨rfl, h2, h3⟩ := h
        exact s_rev (by rw [c.hN]; exact slotOf_ok h0) (vis_ok c h2).1 (vis_ok c h2).2.1 (vis_ok c h2).2.2 (base_ok rfl) h3⟩ else none
  | none => none
def cExp (e : Expr) (pos : Pos) : RS Γ (.Expr e pos) :=
  match cE n Γ e with
  | some a => if h : isLC e = false then some ⟨.exp a.1, fun c _ => s_exp (a.2.pe c) h⟩ else none
  | none => none
theorem s_doc {X : Cx} {xc : Nat → Value} {cf : CallT} {W : WX} {x : Str} {j : Nat} {p p2 : Pos} : PS X (.Expr (.Constant (.str x) j p) p2) (tS X.K xc cf W .skip) := PS.imp ps_doc fun D σ H ⟨ρ, Fs, fr, p⟩ => p σ H Fs fr (Stp.refl' _ _) (Kp.refl _ _)
def cExpr (e : Expr) (pos : Pos) : RS Γ (.Expr e pos) :=
  match e with
  | .Constant (.str x) j p => some ⟨.skip, fun _ _ => s_doc⟩
  | .Call (.Attribute (.Name x p) m apos) [a] [] cpos => orE (cApp Γ n x m p apos a cpos pos) (cExp Γ n _ pos)
  | .Call (.Attribute (.Name x p) m apos) [] [] cpos => orE (cRev Γ x m p apos cpos pos) (cExp Γ n _ pos)
  | e => cExp Γ n e pos
def cAsg (ts : List Expr) (e : Expr) (pos : Pos) : RS Γ (.Assign ts e pos) :=
  match ts with
  | [.Name x p] => cSet Γ n x p e pos
  | [.Tuple ts k tp] => cUnp Γ n ts k tp e pos
  | [.Subscript (.Name x p) i tp] => cSetIx Γ n x p i tp e pos
  | _ => none
end
/-! ### raise -/
theorem s_raise {X : Cx} {xc : Nat → Value} {cf : CallT} {W : WX} {x m : Str} {k j : Nat} {p p2 pos pos2 : Pos} (hc : X.calm = true) (tk : Takes X W) (h : ExcAt X x (xc k)) (hg : Gl X x) (hd : (x == ("__debug__" : Str)) = false) :
    PS X (.Raise (some (.Call (.Name x p) [.Constant (.str m) j p2] [] pos2)) none pos) (tS X.K xc cf W (.raise k)) := by
  obtain ⟨C, B, newId, initId, bmB, e, F, q, gC, kC, r⟩ := h
  refine PS.imp (ps_raise hc tk (pmk_own F q gC kC r hg hd)) fun D σ H ⟨ρ, Fs, fr, p⟩ => ?_
  have p : PostS X.K xc W σ ρ Fs H D (.exc k) := p
  show W (.ref C) none σ H
  rw [← e]
  exact p σ H rfl fun _ _ _ e => e
def cRaise (Γ : Cc) (e : Expr) (pos : Pos) : RS Γ (.Raise (some e) none pos) :=
  match e with
  | .Call (.Name x p) [.Constant (.str m) j p2] [] pos2 => (match h0 : Γ.exs.lookup x with
    | some k => if h : glB Γ x = true then some ⟨.raise k, fun c _ => s_raise c.calm c.tk (c.exs _ (PySem.mem_of_lookup h0)) (gl_ok c h).1 (gl_ok c h).2⟩ else none
    | none => none)
  | _ => none
/-! ### try -/
theorem lookup_mem {α β : Type} [BEq α] [LawfulBEq α] : ∀ {l : List (α × β)} {k : α} {v : β}, l.lookup k = some v → (k, v) ∈ l
  | [], _, _, h => by cases h
  | (k', v') :: r, k, v, h => by
    rw [List.lookup_cons] at h
    cases e : k == k' with
    | true => rw [e] at h; cases h; have : k = k' := by simpa using e
              subst this; exact List.mem_cons_self
    | false => rw [e] at h; exact List.mem_cons_of_mem _ (lookup_mem h)
def tX (i : Nat) (a : Addr) (b : Bool) : TE := fun σ H C => σ[i]? = some (some (.ref a)) ∧ C (.bl b) H
def OkX (Γ : Cc) (n : Str) (c : Nat) (e : Expr) (b : Bool) : Prop := ∀ {X : Cx} {xc : Nat → Value} {cf : CallT} {W : WX} {i : Nat} {a : Addr} {oe : Obj} {pn : List (Addr × Obj)}, Cfg X Γ xc cf W → X.N[i]? = some n → Zc (xc c) none oe → (∃ vs, oe.data = .fields vs) → PE (X.suite a ((a, oe) :: pn)) e (tX i a b)
theorem pe_stands {X : Cx} {x : Str} {u : Value} {z : V} {pos : Pos} (h : Stands X x u) (hg : Gl X x) (hd : (x == ("__debug__" : Str)) = false) (r : RelV z u) : PE X (.Name x pos) (tC z) := by
  rcases h with h | ⟨h1, h2, h3⟩
  · exact pe_glob hg h r hd
  · exact pe_bltn hg h1 h2 r h3 hd
theorem x_isi {Γ : Cc} {n : Str} {c : Nat} {z : Str} {b : Bool} {p p2 p3 pos : Pos} (h0 : ((c, z), b) ∈ Γ.isx) (h : glB Γ "isinstance" = true ∧ inL Γ.blt "isinstance" = true ∧ glB Γ z = true ∧ visB Γ n = true) : OkX Γ n c (.Call (.Name "isinstance" p) [.Name n p2, .Name z p3] [] pos) b := by
  intro X xc cf W i a oe pn cf' hi hz hf
  obtain ⟨D, zV, u, e1, C, st, r, ru, k⟩ := cf'.isx _ h0
  have e1 : xc c = .ref D := e1
  rw [e1] at hz
  have g1 := gl_ok cf' h.1
  have g2 := gl_ok cf' h.2.2.1
  have v := vis_ok cf' h.2.2.2
  have hz2 : PE (X.suite a ((a, oe) :: pn)) (.Name z p3) (tC zV) := pe_stands (X := X.suite a ((a, oe) :: pn)) st g2.1 g2.2 r
  have hv : PE (X.suite a ((a, oe) :: pn)) (.Name n p2) (tVar i) := pe_var hi v.1 v.2.1 v.2.2
  refine PE.imp (pe_callB (call_isE C hz hf) g1.1 (cf'.blt _ (inL_ok h.2.1)) rfl (pa_cons hv (pa_cons hz2 pa_nil rfl) rfl) (by decide) (by decide) rfl rfl) fun σ H C h => ?_
  exact ⟨.ref a, h.1, zV, u, b, rfl, ru, k, h.2⟩
theorem x_and {Γ : Cc} {n : Str} {c : Nat} {e1 e2 : Expr} {b1 b2 : Bool} {pos : Pos} (h1 : OkX Γ n c e1 b1) (h2 : OkX Γ n c e2 b2) : OkX Γ n c (.BoolOp .And [e1, e2] pos) (b1 && b2) := by
  intro X xc cf W i a oe pn cf' hi hz hf
  refine PE.imp (pe_and (h1 cf' hi hz hf) (pe_one (h2 cf' hi hz hf))) fun σ H C h => ⟨h.1, b1, rfl, ?_⟩
  cases b1 with
  | true => exact h
  | false => exact h.2
/-- what a suite answers, by the class -/
def cXs (Γ : Cc) (n : Str) (c : Nat) : (e : Expr) → Option { b : Bool // OkX Γ n c e b }
  | .Constant (.bool b) j p => some ⟨b, fun _ _ _ _ => PE.imp pe_bl fun σ H C h => h.2⟩
  | .Call (.Name x p) [.Name y p2, .Name z p3] [] pos => (match h0 : Γ.isx.lookup (c, z) with
    | some b => if h : (x = "isinstance" ∧ y = n) ∧ glB Γ "isinstance" = true ∧ inL Γ.blt "isinstance" = true ∧ glB Γ z = true ∧ visB Γ n = true then some ⟨b, by obtain ⟨⟨rfl, rfl⟩, h⟩ := h; exact x_isi (lookup_mem h0) h⟩ else none
    | none => none)
  | .BoolOp .And [a, b] p => (match cXs Γ n c a, cXs Γ n c b with
    | some a, some b => some ⟨a.1 && b.1, x_and a.2 b.2⟩
    | _, _ => none)
  | _ => none
def OkT (Γ : Cc) (x n : Str) (re : Expr) (tbl : List (Nat × Option Bool)) : Prop := ∀ c r, tbl.lookup c = some r → (match r with
  | some b => ((c, x), true) ∈ Γ.exm ∧ OkX Γ n c re b
  | none => ((c, x), false) ∈ Γ.exm)
theorem OkT.cons {Γ : Cc} {x n : Str} {re : Expr} {tbl : List (Nat × Option Bool)} {c : Nat} {r : Option Bool} (t : OkT Γ x n re tbl) (h : match r with
  | some b => ((c, x), true) ∈ Γ.exm ∧ OkX Γ n c re b
  | none => ((c, x), false) ∈ Γ.exm) : OkT Γ x n re ((c, r) :: tbl) := by
  intro c' r' e
  rw [List.lookup_cons] at e
  cases ec : c' == c with
  | true =>
    rw [ec] at e
    have : c' = c := by simpa using ec
    subst this
    cases e
    exact h
  | false => rw [ec] at e; exact t c' r' e
def cTbl (Γ : Cc) (x n : Str) (re : Expr) : List Nat → Option { tbl : List (Nat × Option Bool) // OkT Γ x n re tbl }
  | [] => some ⟨[], fun c r e => by cases e⟩
  | c :: cs => match h0 : Γ.exm.lookup (c, x), cTbl Γ x n re cs with
    | some true, some t => (match cXs Γ n c re with
      | some b => some ⟨(c, some b.1) :: t.1, t.2.cons ⟨lookup_mem h0, b.2⟩⟩
      | none => none)
    | some false, some t => some ⟨(c, none) :: t.1, t.2.cons (lookup_mem h0)⟩
    | _, _ => none
theorem dropL_ok {K : PySem.W.Frag} {H H' : Hp} {σ : L2.St} {ρ : Env} {Fs : Nat → List Addr} (fr : Fr K H σ ρ Fs) (k : ∀ b o, ¬ Mem Fs b → H b = some o → H' b = some o) : Fr K H' σ (dropL ρ) (fun _ => []) ∧ Kp σ σ ρ (dropL ρ) := by
  have at' : ∀ i, slotAt (dropL ρ) i = (match slotAt ρ i with
    | .own (.lst _) => .no
    | .arg _ => .no
    | s => s) := fun i => slotAt_map _ rfl ρ i
  refine ⟨⟨fun i => ?_, fun _ => .nil, fun _ _ _ z => nomatch z⟩, ⟨rfl, List.length_map .., fun i r e => ?_, fun i r e => ?_⟩⟩
  · have z := fr.sl i
    rw [at']
    cases es : slotAt ρ i with
    | no => exact rfl
    | arg r => exact rfl
    | own r => cases r with
      | lst xs => exact rfl
      | g g =>
        rw [es] at z
        obtain ⟨v, e1, r1⟩ := z
        exact ⟨v, e1, r1.1.keep fr.own k, rfl⟩
    | bor r =>
      rw [es] at z
      obtain ⟨_, v, F', e1, r1, n⟩ := z
      exact ⟨rfl, v, F', e1, r1.keep fr.own k n, fun a _ => nomem a⟩
  · rw [at'] at e
    cases es : slotAt ρ i with
    | no => rw [es] at e; cases e
    | arg r => rw [es] at e; cases e
    | own r => rw [es] at e; cases r <;> cases e
    | bor r => rw [es] at e; cases e
  · rw [at'] at e
    cases es : slotAt ρ i with
    | no => rw [es] at e; cases e
    | arg r => rw [es] at e; cases e
    | own r => rw [es] at e; cases r <;> cases e
    | bor r => rw [es] at e; exact ⟨e, rfl⟩
theorem Cfg.tr {X : Cx} {Γ : Cc} {xc : Nat → Value} {cf : CallT} {W W' : WX} (c : Cfg X Γ xc cf W) (pn : List (Addr × Obj)) (xe : Value → Shared → Prop) (tk : Takes (X.tr pn xe) W') : Cfg (X.tr pn xe) Γ xc cf W' :=
  ⟨c.calm, c.nd, c.hN, c.sc, c.fn, c.hu, fun p hp => Fd.mono (c.fns p hp) fun q => q, c.blt, c.cs, c.exs, c.exm, c.isx, tk⟩
theorem s_tryx {Γ : Cc} {x n : Str} {e re : Expr} {ee : E} {tbl : List (Nat × Option Bool)} {i : Nat} {np ep rp hp pos : Pos} (he : OkE Γ e ee) (hl : isLC e = false) (ht : OkT Γ x n re tbl) (hi : slotOf Γ n = some i) (hn : Γ.sc.names.lookup n = some .local) (hx : glB Γ x = true) (hne : ∃ b c, ((c, x), b) ∈ Γ.exm) :
    OkS Γ (.Try [.Expr e ep] [.ExceptHandler (some (.Name x np)) (some n) [.Return (some re) rp] hp] [] [] pos) (.tryx ee tbl) := by
  intro X xc cf W c sc
  obtain ⟨b0, c0, hm0⟩ := hne
  obtain ⟨u, st, _⟩ := c.exm _ hm0
  have hg := gl_ok c hx
  have names : Names X x u := ⟨hg.1, hg.2, st⟩
  have hN : X.N[i]? = some n := by rw [c.hN]; exact slotOf_ok hi
  have uniq : ∀ {c' b'}, ((c', x), b') ∈ Γ.exm → PySem.W.exmOne X.K (xc c') u = some b' := fun {c' b'} hm => by
    obtain ⟨u', st', h⟩ := c.exm _ hm
    have : u' = u := by
      rcases st with a | ⟨a1, a2, _⟩ <;> rcases st' with b | ⟨b1, b2, _⟩
      · exact Option.some.inj (b.symm.trans a)
      · rw [show X.mg x = none from b1] at a; cases a
      · rw [show X.mg x = some u' from b] at a1; cases a1
      · exact Option.some.inj (b2.symm.trans a2)
    rw [this] at h
    exact h
  let ts : Addr → Value → Option Addr → TS := fun a cls d => fun D σ H => ∃ c' b, cls = xc c' ∧ d = none ∧ tbl.lookup c' = some (some b) ∧ σ[i]? = some (some (.ref a)) ∧ D.rt (.bl b) H
  refine PS.impL (ps_try_as (tb := fun W' => tDrop (tE X.K xc cf W' ee)) (ts := ts) sc.stk sc.frm c.nd hN (by show X.env.scope.names.lookup n = _; rw [c.sc]; exact hn) names c.tk
    (fun W' pn xe tk' _ => pss_one (ps_expr (he.pe (c.tr pn xe tk')) (swaps_no hl)))
    fun a oe cls d pn hz hf => ⟨fun pins s σ H D I w => ?_⟩) fun D σ H hlen w => ?_
  · obtain ⟨c', b, e1, e2, e3, e4, e5⟩ := w
    subst e1 e2
    have h := ht c' (some b) e3
    exact (pss_one (ps_ret (h.2 c hN hz hf))).run pins s σ H D I ⟨e4, e5⟩
  · obtain ⟨ρ, Fs, fr, p⟩ := w
    refine ⟨ρ, Fs, fr, ?_⟩
    have p : PostS X.K xc W σ ρ Fs H D (match ev cf ee ρ with
    | .ok x => .ok (.next x.2)
    | .exc c => (match tbl.lookup c with
      | some (some b) => .ok (.ret (.g (.bl b)) (dropL ρ))
      | some none => .exc c
      | none => .stuck)
    | .stuck => .stuck) := p
    cases eo : ev cf ee ρ with
    | stuck => rw [eo] at p; exact p
    | ok x =>
      rw [eo] at p
      intro v H' Fs' F fr' st' nf kd rq
      exact p σ H' Fs' fr' st' (kd.kp σ)
    | exc c' =>
      simp only [eo] at p
      intro H' k
      cases el : tbl.lookup c' with
      | none => rw [el] at p; exact False.elim p
      | some r =>
        have h := ht c' r el
        rw [el] at p
        cases r with
        | none => exact ⟨false, uniq h, (fun z => by cases z), fun _ => p σ H' rfl k⟩
        | some b =>
          refine ⟨true, uniq h.1, fun _ a na => ?_, fun z => by cases z⟩
          refine ⟨c', b, rfl, rfl, el, ?_, ?_⟩
          · have hlt : i < σ.length := by rw [hlen]; exact (List.getElem?_eq_some_iff.mp hN).1
            rw [List.getElem?_set_self hlt]
          · obtain ⟨d1, d2⟩ := dropL_ok fr k
            exact p (.bl b) σ H' (fun _ => []) [] d1 ⟨k, fun a z => absurd z (nomem a)⟩ d2 ⟨rfl, rfl⟩ .nil (fun _ z => nomatch z) (fun _ z => nomatch z)
def cTry (Γ : Cc) (n : Nat) (e : Expr) (ep : Pos) (x : Str) (np : Pos) (nm : Str) (re : Expr) (rp hp pos : Pos) : RS Γ (.Try [.Expr e ep] [.ExceptHandler (some (.Name x np)) (some nm) [.Return (some re) rp] hp] [] [] pos) :=
  match hi : slotOf Γ nm, cE n Γ e, cTbl Γ x nm re (Γ.exs.map (·.2)) with
  | some i, some a, some t => (match hm : Γ.exm.find? (fun p => p.1.2 == x) with
    | some p => if h : isLC e = false ∧ Γ.sc.names.lookup nm = some .local ∧ glB Γ x = true then some ⟨.tryx a.1 t.1, s_tryx a.2 h.1 t.2 hi h.2.1 h.2.2 ⟨p.2, p.1.1, by
        have h1 := List.mem_of_find?_eq_some hm
        have h2 := List.find?_some hm
        have : p.1.2 = x := by simpa using h2
        rw [← this]; exact h1⟩⟩ else none
    | none => none)
  | _, _, _ => none
def cS (Γ : Cc) : (n : Nat) → (st : Stmt) → RS Γ st
  | 0, _ => none
  | n + 1, st => match st with
    | .Pass p => some ⟨.skip, fun _ _ => s_pass⟩
    | .Break p => some ⟨.brk, fun _ _ => s_brk⟩
    | .Continue p => some ⟨.cont, fun _ _ => s_cont⟩
    | .Return none p => some ⟨.ret (.k .non), fun _ _ => s_retN⟩
    | .Return (some e) p => (match cE n Γ e with
      | some a => some ⟨.ret a.1, fun c _ => s_ret (a.2.pe c)⟩
      | none => none)
    | .Expr e p => cExpr Γ n e p
    | .Assign ts e p => cAsg Γ n ts e p
    | .Raise (some e) none p => cRaise Γ e p
    | .Try [.Expr e ep] [.ExceptHandler (some (.Name x np)) (some nm) [.Return (some re) rp] hp] [] [] pos => cTry Γ n e ep x np nm re rp hp pos
    | .If t a b p => (match cE n Γ t, cSs Γ (cS Γ n) a, cSs Γ (cS Γ n) b with
      | some t, some a, some b => some ⟨.ifs t.1 a.1 b.1, fun c hp => s_if (t.2.pt c) (a.2 c hp) (b.2 c hp)⟩
      | _, _, _ => none)
    | .For tg it body [] p => (match cG Γ n tg, cI Γ (cE n Γ) it, cSs Γ (cS Γ n) body with
      | some t, some i, some b => if h : isSet it = false then some ⟨.for_ t.1 i.1 b.1, fun c hp => s_for hp.pw c.calm (i.2 c) (t.2 c) (b.2 c hp) (no_fold h _)⟩ else none
      | _, _, _ => none)
    | .While t body [] p => (match cE n Γ t, cSs Γ (cS Γ n) body with
      | some t, some b => some ⟨.while_ t.1 b.1, fun c hp => s_while hp.pw (t.2.pt c) (b.2 c hp)⟩
      | _, _ => none)
    | _ => none
end Pv
/-! Pv25: all defs of a program together; the law's end. -/
namespace Pv
open PySem PySem.Spec PyProof.Rows L2
/-- a def: its name, its text, its names, its translation -/
structure Row where
  x : Str
  st : Stmt
  N : List Str
  s : S
def Row.ps (r : Row) : List Str := (defArgs r.st).args.map (·.arg)
def Row.fn (r : Row) : Fn := ⟨r.ps.length, r.N.length, r.s⟩
def Row.dd (r : Row) : He.DefD := ⟨(r.x, none), r.x, r.x, defArgs r.st, defBody r.st, defScope r.st, [], []⟩
/-- what is known of the names -/
structure Known where
  fns : List (Str × Nat × Nat)
  blt : List Str
  cs : List (Str × G)
  exs : List (Str × Nat)
  exm : List ((Nat × Str) × Bool)
  isx : List ((Nat × Str) × Bool)
def Known.cc (k : Known) (N : List Str) (sc : Scope) : Cc := ⟨N, sc, fun _ => true, k.fns, k.blt, k.cs, k.exs, k.exm, k.isx⟩
/-- a def is translated -/
def Row.tr (r : Row) (k : Known) : Option S := (cSs (k.cc r.N (defScope r.st)) (cS (k.cc r.N (defScope r.st)) 60) (defBody r.st)).map (·.1)
structure RowOk (k : Known) (r : Row) : Prop where
  ok : OkSs (k.cc r.N (defScope r.st)) (defBody r.st) r.s
  sc : FnScope r.N r.ps (defScope r.st)
  pl : plainA (defArgs r.st) = true
  nd : r.ps.Nodup
theorem rowOk {k : Known} {r : Row} (h1 : r.tr k = some r.s) (h2 : C8.scC r.N r.ps (defScope r.st) = true) (h3 : plainA (defArgs r.st) = true) (h4 : decide r.ps.Nodup = true) : RowOk k r := by
  unfold Row.tr at h1
  cases e : cSs (k.cc r.N (defScope r.st)) (cS (k.cc r.N (defScope r.st)) 60) (defBody r.st) with
  | none => rw [e] at h1; cases h1
  | some z =>
    rw [e] at h1
    have : z.1 = r.s := Option.some.inj h1
    exact ⟨this ▸ z.2, C8.fnScope_by h2, h3, of_decide_eq_true h4⟩
/-- the facts of the names -/
def StandsM (mg : Str → Option Value) (x : Str) (u : Value) : Prop := mg x = some u ∨ (mg x = none ∧ bootBuiltins x = some u ∧ x ≠ "__name__")
structure Facts (k : Known) (K : PySem.W.Frag) (mg : Str → Option Value) (xc : Nat → Value) : Prop where
  blt : ∀ x ∈ k.blt, mg x = none
  cs : ∀ p ∈ k.cs, ∃ v u, mg p.1 = some u ∧ RelV v u ∧ ∀ H, RepG K H v p.2
  exs : ∀ p ∈ k.exs, ∃ (C : Addr) (B newId initId : String) (bmB : List Value), xc p.2 = .ref C ∧ ExcBaseFacts B newId initId bmB ∧ PySem.W.excIn K C bmB newId = true ∧ mg p.1 = some (.ref C) ∧ PySem.W.keepIn K (.ref C) = true ∧ PySem.W.subIn K (.ref C) (.type "BaseException") = some true ∧ PySem.W.typeIn K (.ref C) = some (.type "type")
  exm : ∀ p ∈ k.exm, ∃ u, StandsM mg p.1.2 u ∧ PySem.W.exmOne K (xc p.1.1) u = some p.2
  isx : ∀ p ∈ k.isx, ∃ (D : Addr) (z : V) (u : Value), xc p.1.1 = .ref D ∧ ExcC K D ∧ StandsM mg p.1.2 u ∧ RelV z u ∧ (∀ u', RelV z u' → u' = u) ∧ PySem.W.kitOne K (.ref D) u = some p.2
section
variable {P0 : Program} {w : World} {K : PySem.W.Frag} {mg : Str → Option Value} {base : Heap} {xc : Nat → Value} {k : Known} {rows : List Row}
/-- every def keeps its promise, at each depth -/
theorem all_ok (fa : Facts k K mg xc) (hr : ∀ r ∈ rows, RowOk k r) (hd : ∀ r ∈ rows, ∃ fd, FunD K r.x r.x (defArgs r.st) (defBody r.st) (defScope r.st) [] [] (He.ga K r.x) fd) (hg : ∀ r ∈ rows, mg r.x = some (.ref (He.ga K r.x)))
    (hk : ∀ p ∈ k.fns, ∃ r, rows[p.2.1]? = some r ∧ r.x = p.1 ∧ r.ps.length = p.2.2) :
    ∀ (n i : Nat) (r : Row), rows[i]? = some r → ∀ fd, FunD K r.x r.x (defArgs r.st) (defBody r.st) (defScope r.st) [] [] (He.ga K r.x) fd → FnOk P0 w K mg base (L2.CX P0 w) n (He.ga K r.x) fd r.ps (spF K xc (callF (rows.map Row.fn) n) i r.ps.length)
  | 0, i, r, h, fd, F => fn_ok0 rfl
  | n + 1, i, r, h, fd, F => by
    have ro := hr r (List.mem_of_getElem? h)
    have hf : (rows.map Row.fn)[i]? = some r.fn := by rw [List.getElem?_map, h]; rfl
    refine fn_ok F ro.sc hf rfl rfl fun cdv A outer s H E room => ?_
    refine ro.ok ⟨rfl, ro.sc.nd, rfl, rfl, rfl, ?_, fun p hp => ?_, fa.blt, fa.cs, fun p hp => ?_, fa.exm, fa.isx, takes_of rfl rfl rfl rfl⟩ ⟨passes_of rfl, rfl, rfl⟩
    · have := room.un
      show (A.deeper _).units + 66 < cLine
      omega
    · obtain ⟨r', h1, h2, h3⟩ := hk p hp
      obtain ⟨fd', F'⟩ := hd r' (List.mem_of_getElem? h1)
      have G := all_ok fa hr hd hg hk n p.2.1 r' h1 fd' F'
      have hf' : (rows.map Row.fn)[p.2.1]? = some r'.fn := by rw [List.getElem?_map, h1]; rfl
      have ro' := hr r' (List.mem_of_getElem? h1)
      refine ⟨⟨n, _, fd', r'.ps, by rw [← h3]; exact G, room, by rw [← h2]; exact hg r' (List.mem_of_getElem? h1), F'.kp, ?_⟩, fun as ha => callF_len hf' as (by show as.length ≠ r'.ps.length; rw [h3]; exact ha)⟩
      exact FunD.bindsN F' fun kV doc pm an cdv ct us hl => binds_plain ro'.pl ro'.nd hl
    · obtain ⟨C, B, newId, initId, bmB, e1, e2, e3, e4, e5, e6, e7⟩ := fa.exs p hp
      exact ⟨C, B, newId, initId, bmB, e1, e2, e3, e4, e5, raises_own e6 e7⟩
end
theorem rep_ints {K : PySem.W.Frag} {H : Hp} : ∀ ns : List Int, RepGs K H (ns.map V.int) (ns.map G.int)
  | [] => rfl
  | n :: ns => ⟨_, _, rfl, rfl, rep_ints ns⟩
/-- what the law is asked, in plain values -/
def LawIs (P : List Fn) (n i : Nat) : Prop := ∀ ns : List Int, ns.length ≤ 63 → callF P n i [.bor (fl (ns.map G.int))] = .ok (.g (.bl true), [])
theorem law_sp {K : PySem.W.Frag} {xc : Nat → Value} {P : List Fn} {n i : Nat} (h : LawIs P n i) {H : Hp} {a : Addr} {ns : List Int} (hl : ns.length ≤ 63) (hs : SqL K H a (ns.map V.int)) : spF K xc (callF P n) i 1 [.ref a] H (fun v _ => v = .bl true) fun _ _ _ => False := by
  obtain ⟨F, hF⟩ := Pv.SqL.ft hs []
  refine ⟨rfl, [.bor (fl (ns.map G.int))], fun _ => [], rfl, ⟨fun j => ?_, fun _ => .nil, fun _ _ _ z => nomatch z⟩, ?_⟩
  · cases j with
    | zero => exact ⟨rfl, .ref a, F, rfl, ⟨a, _, [], rfl, hs, (rep_ints ns).rs, hF⟩, fun b _ => nomem b⟩
    | succ j => exact rfl
  · rw [h ns hl]
    intro v H' Fs' F' _ ro _ _ _ _
    exact ro.1
/-! ### own looks at the written part -/
abbrev AlP : Type := He.AlD × Bool
def obsP (n : Nat) (fa : List He.Fa) (fn : List He.DefD) (ex : PySem.W.Frag → Bool) (g : Addr → Option Obj) : AlP := (He.obsD fa fn (He.frG g (He.asD g n)), ex (He.frG g (He.asD g n)))
def hookP (n : Nat) (fa : List He.Fa) (fn : List He.DefD) (ex : PySem.W.Frag → Bool) : PySem.W.Hook where
  α := AlP
  obs := fun s => obsP n fa fn ex s.heap.get?
  val := fun _ => (He.valD fn, true)
  says := fun _ h => ∃ K : PySem.W.Frag, K.In h ∧ He.SaysD fa fn K ∧ ex K = true
  of := fun _ _ e => ⟨_, He.frG_in, congrArg (fun z : AlP => z.1) e, congrArg (fun z : AlP => z.2) e⟩
  keeps := fun _ _ _ ⟨K, hK, c⟩ k => ⟨K, PySem.W.Frag.In.keeps hK k, c⟩
theorem obsP_eq {n : Nat} {fa : List He.Fa} {fn : List He.DefD} {ex : PySem.W.Frag → Bool} {g : Addr → Option Obj} {s : Shared} (h : ∀ a, g a = s.heap.get? a) : obsP n fa fn ex g = (hookP n fa fn ex).obs s := by
  have e : g = s.heap.get? := funext h
  rw [e] <;> rfl
/-- the class looked at by isinstance -/
def excCB (K : PySem.W.Frag) (D : Addr) : Bool :=
  decide (PySem.W.findIn K (.ref D) "__getattribute__" = some (some (.builtin "BaseException.__getattribute__"))) && (decide (PySem.W.findIn K (.ref D) "__getattr__" = some none) && (decide (PySem.W.subIn K (.ref D) (.type "BaseException") = some true) && (PySem.W.hasDictIn K D && (decide (PySem.W.findIn K (.ref D) "__class__" = some (some (.builtin "object.__class__"))) &&
    (decide (PySem.W.specialIn K (.builtin "object.__class__") "__get__" = some (some (.builtin "getset_descriptor.__get__"))) && (decide (PySem.W.takesIn K (.builtin "object.__class__") = some true) && decide (PySem.W.mroIn K D (.type "object") = some true)))))))
theorem excC_ok {K : PySem.W.Frag} {D : Addr} (h : excCB K D = true) : ExcC K D := by
  unfold excCB at h
  simp only [Bool.and_eq_true, decide_eq_true_eq] at h
  obtain ⟨h1, h2, h3, h4, h5, h6, h7, h8⟩ := h
  exact ⟨h1, h2, h3, h4, h5, h6, h7, h8⟩
/-- the law's end -/
theorem law_walk {l : PySem.W.OpenLaw} {n m : Nat} {q : Program} {loose : List Str} {XP : (Str → Option Value) → Heap → Prop} {d : DefRec} {fal : List He.Fa} {fn : List He.DefD} {ex : PySem.W.Frag → Bool} {k : Known} {rows : List Row} {i : Nat} {r : Row}
    (hn : l.most = some 63) (hdf : d.params.defaults = []) (hroom : Room n callerA) (hname : d.name = r.x) (hi : rows[i]? = some r) (hps : r.ps = [("script" : Str)]) (hr : ∀ r ∈ rows, RowOk k r) (hfn : ∀ r ∈ rows, r.dd ∈ fn) (hgl : ∀ r ∈ rows, He.Fa.glo r.x ∈ fal)
    (hk : ∀ p ∈ k.fns, ∃ r, rows[p.2.1]? = some r ∧ r.x = p.1 ∧ r.ps.length = p.2.2) (hfacts : ∀ (K : PySem.W.Frag) (h : Heap) (mg : Str → Option Value), K.In h → h.Ns mainGlobals mg → He.SaysD fal fn K → ex K = true → ∃ xc, Facts k K mg xc)
    (hlaw : LawIs (rows.map Row.fn) n i) :
    PySem.W.WalkO q loose XP (hookP m fal fn ex).says l.row.toRowW d [] (fun f vs => PySem.call f vs) := by
  refine Att.attach_call hn hdf fun w s₀ s₁ mg mb fa o pm cd doc a vs ns G Y ho hd hcd hmg hobj hints hlen hg => ?_
  obtain ⟨K, KX, c, he⟩ := Y
  obtain ⟨xc, fs⟩ := hfacts K _ mg KX G.T.g c he
  have hdef : ∀ r ∈ rows, ∃ fd, FunD K r.x r.x (defArgs r.st) (defBody r.st) (defScope r.st) [] [] (He.ga K r.x) fd := fun r hm => c.defs (hfn r hm)
  have hglo : ∀ r ∈ rows, mg r.x = some (.ref (He.ga K r.x)) := fun r hm => He.glo_ok KX G.T.g (c.facts (hgl r hm))
  have hmem := List.mem_of_getElem? hi
  have efa : fa = He.ga K r.x := by
    have := hglo r hmem
    rw [hname] at hmg
    exact Value.ref.inj (Option.some.inj (hmg.symm.trans this))
  subst efa
  obtain ⟨fd, F⟩ := hdef r hmem
  have ro := hr r hmem
  have hb : ∀ (s : Shared) (u : Value), BindsTo s fd ⟨[u], []⟩ [(("script" : Str), u)] := fun s u => by
    have := FunD.bindsA (ps := r.ps) F (fun kV doc pm an cdv ct us hl => binds_plain ro.pl ro.nd hl) s [u] (by rw [hps]; rfl)
    rw [hps] at this
    exact this
  refine law_call (CX := L2.CX l.prog w) (sp := spF K xc (callF (rows.map Row.fn) n) i 1) KX G.T.g G.T.b G.T.builtins G.T.nolimit hg hobj hints (Nat.le_trans hlen (by rw [sizeLine_eq]; decide)) hroom (fun base KB GB => ?_) hb (fun H _ hS => law_sp hlaw hlen hS) fun H e s' z => ?_
  · have := all_ok (P0 := l.prog) (w := w) (base := base) fs hr hdef hglo hk n i r hi fd F
    rw [hps] at this
    exact this
  · obtain ⟨_, _, _, _, _, _, _, _, _, _, _, _, w⟩ := z
    exact w
end Pv
/-! Lv0: reckoning with translated texts. -/
namespace Pv
open PySem
abbrev T (xs : List Int) : R := .g (.tup (xs.map G.int))
abbrev I (i : Int) : R := .g (.int i)
@[simp] theorem ok_bind {α β : Type} (a : α) (f : α → Out β) : (Out.ok a).bind f = f a := id rfl
@[simp] theorem exc_bind {α β : Type} (c : Nat) (f : α → Out β) : (Out.exc c).bind f = .exc c := id rfl
@[simp] theorem stuck_bind {α β : Type} (f : α → Out β) : (Out.stuck : Out α).bind f = .stuck := id rfl
@[simp] theorem noexc_ok' {α : Type} (a : α) : noexc (Out.ok a) = .ok a := id rfl
@[simp] theorem ofOpt_some {α : Type} (a : α) : ofOpt (some a) = .ok a := id rfl
@[simp] theorem slotAt_zero (s : Slot) (r : Env) : slotAt (s :: r) 0 = s := id rfl
@[simp] theorem slotAt_succ (s : Slot) (r : Env) (n : Nat) : slotAt (s :: r) (n + 1) = slotAt r n := id rfl
@[simp] theorem behind_v (x : R) (ρ : Env) (f : Env → Out (Q × Env)) : behind (.v x) ρ f = f ρ := id rfl
@[simp] theorem behind_s (j : Nat) (ρ : Env) (f : Env → Out (Q × Env)) : behind (.s j) ρ f = f ρ := id rfl
@[simp] theorem behinds_v (x : R) (ρ : Env) (f : Env → Out (List Q × Env)) : behinds (.v x) ρ f = f ρ := id rfl
@[simp] theorem behinds_s (j : Nat) (ρ : Env) (f : Env → Out (List Q × Env)) : behinds (.s j) ρ f = f ρ := id rfl
@[simp] theorem deref_v (x : R) (ρ : Env) : deref ρ (.v x) = .ok x := id rfl
@[simp] theorem deref_s (j : Nat) (ρ : Env) : deref ρ (.s j) = ofOpt (slotAt ρ j).r? := id rfl
@[simp] theorem r_own (r : R) : (Slot.own r).r? = some r := id rfl
@[simp] theorem r_arg (r : R) : (Slot.arg r).r? = some r := id rfl
@[simp] theorem r_bor (r : R) : (Slot.bor r).r? = some r := id rfl
theorem toGs_map (xs : List G) : toGs (xs.map R.g) = some xs := by
  induction xs with
  | nil => rfl
  | cons x xs ih => simp [toGs, ih]
theorem toInts_map (xs : List Int) : toInts (xs.map G.int) = some xs := by
  induction xs with
  | nil => rfl
  | cons x xs ih => simp [toInts, ih]
theorem toBls_map (xs : List Bool) : toBls (xs.map G.bl) = some xs := by
  induction xs with
  | nil => rfl
  | cons x xs ih => simp [toBls, ih]
/-- a comprehension whose turns leave the slots as they are -/
theorem compL_same {turn : R → Env → Out (List R × Env)} {ρ : Env} (g : R → List R) : ∀ (xs : List R), (∀ x ∈ xs, turn x ρ = .ok (g x, ρ)) → compL turn xs ρ = .ok (xs.flatMap g, ρ)
  | [], _ => rfl
  | x :: xs, h => by
    show ((turn x ρ).bind fun y => (compL turn xs y.2).bind fun z => .ok (y.1 ++ z.1, z.2)) = _
    rw [h x List.mem_cons_self]
    simp only [ok_bind]
    rw [compL_same g xs fun y hy => h y (List.mem_cons_of_mem _ hy)]
    rfl
theorem compL_range {turn : R → Env → Out (List R × Env)} {ρ : Env} (lo : Int) (n : Nat) (g : Nat → List R) (h : ∀ i, i < n → turn (I (lo + (i : Int))) ρ = .ok (g i, ρ)) : compL turn (rangeL lo n) ρ = .ok ((List.range n).flatMap g, ρ) := by
  have : ∀ (l : List Nat), (∀ i ∈ l, i < n) → compL turn (l.map fun (i : Nat) => I (lo + (i : Int))) ρ = .ok (l.flatMap g, ρ) := by
    intro l
    induction l with
    | nil => intro _; rfl
    | cons a l ih =>
      intro hl
      show ((turn (I (lo + (a : Int))) ρ).bind fun y => (compL turn (l.map fun (i : Nat) => I (lo + (i : Int))) y.2).bind fun z => .ok (y.1 ++ z.1, z.2)) = _
      rw [h a (hl a List.mem_cons_self)]
      simp only [ok_bind]
      rw [ih fun i hi => hl i (List.mem_cons_of_mem _ hi)]
      rfl
  exact this _ fun i hi => List.mem_range.mp hi
theorem flat_single {α β : Type} (f : α → β) (l : List α) : (l.flatMap fun x => [f x]) = l.map f := by
  induction l with
  | nil => rfl
  | cons a l ih => simp [ih]
theorem flat_if {α β : Type} (p : α → Bool) (f : α → β) (l : List α) : (l.flatMap fun x => if p x then [f x] else []) = (l.filter p).map f := by
  induction l with
  | nil => rfl
  | cons a l ih => cases h : p a <;> simp [h, ih]
theorem ixN_of {n i : Nat} (h : i < n) : L2.ixN n (i : Int) = some i := by
  unfold L2.ixN
  rw [if_pos (by omega), if_pos (by omega)]
  simp
theorem ix_at {xs : List Int} {i : Nat} (h : i < xs.length) (o : Bool) : ixop o (T xs) (I i) = .ok (.v (I xs[i])) := by
  unfold ixop T I
  have : atI (xs.map G.int) (i : Int) = some (G.int xs[i]) := by
    show (L2.ixN _ _).bind _ = _
    rw [List.length_map, ixN_of h]
    simp [h]
  simp only [this]
theorem b62_nat {n : Nat} (h : n ≤ 1000000) : b62 (n : Int) = true := by
  unfold b62
  simp only [Bool.and_eq_true, decide_eq_true_eq]
  omega
section
variable (cf : CallT) (ρ : Env)
@[simp] theorem ev_k (g : G) : ev cf (.k g) ρ = .ok (.v (.g g), ρ) := id rfl
@[simp] theorem ev_var (j : Nat) : ev cf (.var j) ρ = evVar ρ j := id rfl
@[simp] theorem ev_tup (es : E) : ev cf (.tup es) ρ = (evs cf es ρ).bind fun x => (match gsOf x.1 with
    | some gs => if gs.length ≤ line then .ok (.v (.g (.tup gs)), x.2) else .stuck
    | none => .stuck) := id rfl
@[simp] theorem ev_lst (es : E) : ev cf (.lst es) ρ = (evs cf es ρ).bind fun x => (match rsOf x.1 with
    | some rs => if rs.length ≤ line then .ok (.v (.lst rs), x.2) else .stuck
    | none => .stuck) := id rfl
@[simp] theorem ev_bin (op : BOp) (a b : E) : ev cf (.bin op a b) ρ = (ev cf a ρ).bind fun x => (behind x.1 x.2 (ev cf b)).bind fun y => (deref y.2 x.1).bind fun r => (deref y.2 y.1).bind fun s => (if mulBad op x.1 r then .stuck else binop op r s).bind fun z => .ok (.v z, y.2) := id rfl
@[simp] theorem ev_neg (a : E) : ev cf (.neg a) ρ = (ev cf a ρ).bind fun x => (match x.1 with
    | .v (.g (.int i)) => .ok (.v (.g (.int (-i))), x.2)
    | _ => .stuck) := id rfl
@[simp] theorem ev_not (a : E) : ev cf (.not a) ρ = (ev cf a ρ).bind fun x => (deref x.2 x.1).bind fun r => (truth r).bind fun t => .ok (.v (bl (!t)), x.2) := id rfl
@[simp] theorem ev_and (a b : E) : ev cf (.and a b) ρ = (ev cf a ρ).bind fun x => (deref x.2 x.1).bind fun r => (asB r).bind fun t => if t then ev cf b x.2 else .ok (.v (bl false), x.2) := id rfl
@[simp] theorem ev_or (a b : E) : ev cf (.or a b) ρ = (ev cf a ρ).bind fun x => (deref x.2 x.1).bind fun r => (asB r).bind fun t => if t then .ok (.v (bl true), x.2) else ev cf b x.2 := id rfl
@[simp] theorem ev_ite (c a b : E) : ev cf (.ite c a b) ρ = (ev cf c ρ).bind fun x => (deref x.2 x.1).bind fun r => (truth r).bind fun t => if t then ev cf a x.2 else ev cf b x.2 := id rfl
@[simp] theorem ev_cmp (a t : E) : ev cf (.cmp a t) ρ = (ev cf a ρ).bind fun x => (evc cf t x.1 x.2).bind fun y => .ok (.v (bl y.1), y.2) := id rfl
@[simp] theorem evc_cc (op : COp) (b t : E) (q : Q) : evc cf (.cc op b t) q ρ = (behind q ρ (ev cf b)).bind fun y => (deref y.2 q).bind fun r => (deref y.2 y.1).bind fun s => (cmpop op r s).bind fun c => if c && !t.isNil then evc cf t y.1 y.2 else .ok (c, y.2) := id rfl
@[simp] theorem ev_ix (a i : E) : ev cf (.ix a i) ρ = (ev cf a ρ).bind fun x => (behind x.1 x.2 (ev cf i)).bind fun y => (deref y.2 x.1).bind fun r => (deref y.2 y.1).bind fun s => (ixop true r s).bind fun z => .ok (z, y.2) := id rfl
@[simp] theorem ev_sl (a lo hi : E) : ev cf (.sl a lo hi) ρ = (ev cf a ρ).bind fun x => (optE x.1 x.2 lo (ev cf lo)).bind fun y => (optE x.1 y.2 hi (ev cf hi)).bind fun z => (deref z.2 x.1).bind fun r => (slop2 r y.1 z.1).bind fun w => .ok (.v w, z.2) := id rfl
@[simp] theorem ev_back (a : E) : ev cf (.back a) ρ = (ev cf a ρ).bind fun x => (deref x.2 x.1).bind fun r => (backop r).bind fun z => .ok (.v z, x.2) := id rfl
@[simp] theorem ev_call (f : Nat) (es : E) : ev cf (.call f es) ρ = (evs cf es ρ).bind fun x => doCall cf f x.1 x.2 := id rfl
@[simp] theorem ev_b1 (f : B1) (a : E) : ev cf (.b1 f a) ρ = (ev cf a ρ).bind fun x => (deref x.2 x.1).bind fun r => (b1op f r).bind fun z => .ok (.v z, x.2) := id rfl
@[simp] theorem ev_b2 (f : B2) (a b : E) : ev cf (.b2 f a b) ρ = (ev cf a ρ).bind fun x => (behind x.1 x.2 (ev cf b)).bind fun y => (deref y.2 x.1).bind fun r => (deref y.2 y.1).bind fun s => (b2op f r s).bind fun z => .ok (.v z, y.2) := id rfl
@[simp] theorem ev_isi (a : E) (t : Ty) : ev cf (.isi a t) ρ = (ev cf a ρ).bind fun x => (deref x.2 x.1).bind fun r => .ok (.v (bl (isiop r t)), x.2) := id rfl
@[simp] theorem ev_mth (m : M1) (a b : E) : ev cf (.mth m a b) ρ = (ev cf a ρ).bind fun x => (deref x.2 x.1).bind fun r0 => (recv r0).bind fun l0 => (behind x.1 x.2 (ev cf b)).bind fun y => (deref y.2 x.1).bind fun r => (deref y.2 y.1).bind fun s => (mthop2 l0 m r s).bind fun z => .ok (.v z, y.2) := id rfl
@[simp] theorem ev_pop (j : Nat) : ev cf (.pop j) ρ = (match mutL ρ j with
    | some xs => (match xs.getLast? with
      | some x => .ok (.v x, putL ρ j xs.dropLast)
      | none => .stuck)
    | none => .stuck) := id rfl
@[simp] theorem ev_comp (elt tg it cond : E) : ev cf (.comp elt tg it cond) ρ = (evIt cf it ρ).bind fun w =>
      (compL (compT tg cond.isNil (ev cf cond) (ev cf elt)) w.1.1 (wipeS (lendAs w.1.2 w.2) (tgs tg))).bind fun z =>
        if z.1.length ≤ line then .ok (.v (.lst z.1), backC w.1.2 w.2 z.2 (tgs tg)) else .stuck := id rfl
@[simp] theorem ev_comp2 (elt tg it cond tg1 it1 cond1 : E) : ev cf (.comp2 elt tg it cond tg1 it1 cond1) ρ = (evIt cf it ρ).bind fun w =>
      (compL (compT2 tg tg1 cond.isNil (ev cf cond) (evIt cf it1) (compT tg1 cond1.isNil (ev cf cond1) (ev cf elt))) w.1.1 (wipeS (lendAs w.1.2 w.2) (tgs tg ++ tgs tg1))).bind fun z =>
        if z.1.length ≤ line then .ok (.v (.lst z.1), backC w.1.2 w.2 z.2 (tgs tg ++ tgs tg1)) else .stuck := id rfl
@[simp] theorem evs_nil : evs cf .nil ρ = .ok ([], ρ) := id rfl
@[simp] theorem evs_cons (e es : E) : evs cf (.cons e es) ρ = (ev cf e ρ).bind fun x => (behinds x.1 x.2 (evs cf es)).bind fun y => .ok (x.1 :: y.1, y.2) := id rfl
@[simp] theorem evIt_rng1 (a : E) : evIt cf (.rng1 a) ρ = (ev cf a ρ).bind fun x => (match x.1 with
    | .v (.g (.int n)) => if b62 n then .ok ((rangeL 0 n.toNat, .none), x.2) else .stuck
    | _ => .stuck) := id rfl
@[simp] theorem evIt_it (e : E) : evIt cf (.it e) ρ = (ev cf e ρ).bind fun x => (walked x.2 x.1).bind fun w => .ok (w, x.2) := id rfl
@[simp] theorem exec_skip : exec cf .skip ρ = .ok (.next ρ) := id rfl
@[simp] theorem exec_seq (s t : S) : exec cf (.seq s t) ρ = (exec cf s ρ).bind fun f => (match f with
    | .next ρ' => exec cf t ρ'
    | f => .ok f) := id rfl
@[simp] theorem exec_exp (e : E) : exec cf (.exp e) ρ = (ev cf e ρ).bind fun x => .ok (.next x.2) := id rfl
@[simp] theorem exec_set (j : Nat) (e : E) : exec cf (.set j e) ρ = (ev cf e ρ).bind fun x => (take x.2 x.1).bind fun y => .ok (.next (y.2.set j (.own y.1))) := id rfl
@[simp] theorem exec_ifs (c : E) (s t : S) : exec cf (.ifs c s t) ρ = (evB cf c ρ).bind fun b => if b.1 then exec cf s b.2 else exec cf t b.2 := id rfl
@[simp] theorem exec_ret (e : E) : exec cf (.ret e) ρ = (ev cf e ρ).bind fun x => (take x.2 x.1).bind fun y => .ok (.ret y.1 y.2) := id rfl
@[simp] theorem exec_raise (c : Nat) : exec cf (.raise c) ρ = .exc c := id rfl
@[simp] theorem evB_eq (e : E) : evB cf e ρ = (ev cf e ρ).bind fun x => (deref x.2 x.1).bind fun r => (truth r).bind fun t => .ok (t, x.2) := id rfl
@[simp] theorem exec_for (tg it : E) (s : S) : exec cf (.for_ tg it s) ρ = (evIt cf it ρ).bind fun w =>
      (if w.1.2.some? then forL (turnF tg (exec cf s)) (lendAs w.1.2 w.2) w.1.1 (lendAs w.1.2 w.2) else .stuck).bind fun f => .ok (unl w.1.2 w.2 f) := id rfl
@[simp] theorem compT_eq (tg : E) (c : Bool) (fc fe : Env → Out (Q × Env)) (r : R) : compT tg c fc fe r ρ =
  noexc ((bindC tg r ρ).bind fun ρ1 => (condE c fc ρ1).bind fun c => if c.1 then (fe c.2).bind fun y => (match y.1 with
    | .v r => .ok ([r], wipeS y.2 (tgs tg))
    | _ => .stuck) else .ok ([], wipeS c.2 (tgs tg))) := id rfl
@[simp] theorem condE_true (f : Env → Out (Q × Env)) : condE true f ρ = .ok (true, ρ) := id rfl
@[simp] theorem condE_false (f : Env → Out (Q × Env)) : condE false f ρ = (f ρ).bind fun x => (deref x.2 x.1).bind fun r => (truth r).bind fun t => .ok (t, x.2) := id rfl
@[simp] theorem tgs_var (j : Nat) : tgs (.var j) = [j] := id rfl
@[simp] theorem isNil_nil : E.nil.isNil = true := id rfl
@[simp] theorem take_v (r : R) : take ρ (.v r) = .ok (r, ρ) := id rfl
@[simp] theorem bindC_g (t : E) (x : G) : bindC t (.g x) ρ = bindT t x ρ := id rfl
@[simp] theorem bindT_var (j : Nat) (x : G) : bindT (.var j) x ρ = .ok (ρ.set j (.own (.g x))) := id rfl
@[simp] theorem lend_none : lendAs .none ρ = ρ := id rfl
@[simp] theorem wipe_nil : wipeS ρ [] = ρ := id rfl
@[simp] theorem wipe_cons (j : Nat) (js : List Nat) : wipeS ρ (j :: js) = (wipeS ρ js).set j .no := id rfl
@[simp] theorem backC_none (old : Env) (js : List Nat) : backC .none old ρ js = backS old ρ js := id rfl
@[simp] theorem back_nil (old : Env) : backS old ρ [] = ρ := id rfl
@[simp] theorem back_cons (old : Env) (j : Nat) (js : List Nat) : backS old ρ (j :: js) = (backS old ρ js).set j (slotAt old j) := id rfl
@[simp] theorem some_none : Lent.none.some? = true := id rfl
@[simp] theorem some_slot (j : Nat) : (Lent.slot j).some? = true := id rfl
@[simp] theorem var_own (ρ : Env) (j : Nat) {x : G} (h : slotAt ρ j = .own (.g x)) : evVar ρ j = .ok (.v (.g x), ρ) := by unfold evVar; rw [h]
@[simp] theorem var_ownL (ρ : Env) (j : Nat) {x : List R} (h : slotAt ρ j = .own (.lst x)) : evVar ρ j = .ok (.s j, ρ) := by unfold evVar; rw [h]
@[simp] theorem var_argL (ρ : Env) (j : Nat) {x : List R} (h : slotAt ρ j = .arg (.lst x)) : evVar ρ j = .ok (.s j, ρ) := by unfold evVar; rw [h]
@[simp] theorem var_borL (ρ : Env) (j : Nat) {x : List R} (h : slotAt ρ j = .bor (.lst x)) : evVar ρ j = .ok (.s j, ρ) := by unfold evVar; rw [h]
@[simp] theorem isNil_cc (op : COp) (a b : E) : (E.cc op a b).isNil = false := id rfl
@[simp] theorem isNil_cmp (a b : E) : (E.cmp a b).isNil = false := id rfl
@[simp] theorem isNil_and (a b : E) : (E.and a b).isNil = false := id rfl
@[simp] theorem fin_nil (ρ : Env) : finals [] ρ = .ok [] := id rfl
@[simp] theorem fin_own (r : R) (as : List Slot) (s : Slot) (ss : Env) : finals (.own r :: as) (s :: ss) = finals as ss := id rfl
@[simp] theorem fin_bor (r : R) (as : List Slot) (s : Slot) (ss : Env) : finals (.bor r :: as) (s :: ss) = finals as ss := id rfl
@[simp] theorem fin_arg (r r' : R) (as : List Slot) (ss : Env) : finals (.arg r :: as) (.arg r' :: ss) = (finals as ss).bind fun rs => .ok (r' :: rs) := id rfl
end
theorem run_of {P : List Fn} {n i np ns : Nat} {b : S} {as : List Slot} {r : R} {ρ : Env} {fs : List R} (hp : P[i]? = some ⟨np, ns, b⟩) (h : as.length = np) (e : exec (callF P n) b (as ++ List.replicate (ns - np) .no) = .ok (.ret r ρ)) (ef : finals as ρ = .ok fs) : callF P (n + 1) i as = .ok (r, fs) := by
  have : callF P (n + 1) i as = runFn (callF P n) ⟨np, ns, b⟩ as := by
    show (match P[i]? with
      | some fn => runFn (callF P n) fn as
      | none => .stuck) = _
    rw [hp]
  rw [this]
  unfold runFn
  rw [if_pos h, e]
  simp [ef]
theorem run_next {P : List Fn} {n i np ns : Nat} {b : S} {as : List Slot} {ρ : Env} {fs : List R} (hp : P[i]? = some ⟨np, ns, b⟩) (h : as.length = np) (e : exec (callF P n) b (as ++ List.replicate (ns - np) .no) = .ok (.next ρ)) (ef : finals as ρ = .ok fs) : callF P (n + 1) i as = .ok (.g .non, fs) := by
  have : callF P (n + 1) i as = runFn (callF P n) ⟨np, ns, b⟩ as := by
    show (match P[i]? with
      | some fn => runFn (callF P n) fn as
      | none => .stuck) = _
    rw [hp]
  rw [this]
  unfold runFn
  rw [if_pos h, e]
  simp [ef]
/-- the list of ground items that a list of theirs stands for -/
theorem toGs_mapf {α : Type} (f : α → G) (xs : List α) : toGs (xs.map fun x => R.g (f x)) = some (xs.map f) := by
  induction xs with
  | nil => rfl
  | cons x xs ih => simp [toGs, ih]
@[simp] theorem tuple_of {α : Type} (f : α → G) (xs : List α) : b1op .tuple (.lst (xs.map fun x => R.g (f x))) = .ok (.g (.tup (xs.map f))) := by
  unfold b1op; simp only [toGs_mapf]
@[simp] theorem len_tup (xs : List G) : b1op .len (.g (.tup xs)) = .ok (.g (.int xs.length)) := id rfl
@[simp] theorem len_lst (xs : List R) : b1op .len (.lst xs) = .ok (.g (.int xs.length)) := id rfl
theorem ix_g {xs : List G} {i : Nat} (h : i < xs.length) (o : Bool) : ixop o (.g (.tup xs)) (.g (.int i)) = .ok (.v (.g xs[i])) := by
  unfold ixop
  have : atI xs (i : Int) = some xs[i] := by
    show (L2.ixN _ _).bind _ = _
    rw [ixN_of h]
    simp [h]
  simp only [this]
@[simp] theorem bxor_ii (i j : Int) : binop .bxor (.g (.int i)) (.g (.int j)) = .ok (.g (.int (PySem.Builtin.bitXor i j))) := id rfl
@[simp] theorem band_ii (i j : Int) : binop .band (.g (.int i)) (.g (.int j)) = .ok (.g (.int (PySem.Builtin.bitAnd i j))) := id rfl
@[simp] theorem add_ii (i j : Int) : binop .add (.g (.int i)) (.g (.int j)) = .ok (.g (.int (i + j))) := id rfl
@[simp] theorem sub_ii (i j : Int) : binop .sub (.g (.int i)) (.g (.int j)) = .ok (.g (.int (i - j))) := id rfl
@[simp] theorem mb_bxor (q : Q) (r : R) : mulBad .bxor q r = false := id rfl
@[simp] theorem mb_band (q : Q) (r : R) : mulBad .band q r = false := id rfl
@[simp] theorem mb_add (q : Q) (r : R) : mulBad .add q r = false := id rfl
@[simp] theorem mb_sub (q : Q) (r : R) : mulBad .sub q r = false := id rfl
@[simp] theorem mb_mod (q : Q) (r : R) : mulBad .mod q r = false := id rfl
@[simp] theorem mb_fdiv (q : Q) (r : R) : mulBad .fdiv q r = false := id rfl
@[simp] theorem mb_pow (q : Q) (r : R) : mulBad .pow q r = false := id rfl
@[simp] theorem mb_mul (r s : R) : mulBad .mul (.v r) s = false := by cases r <;> rfl
theorem line_le {n : Nat} (h : n ≤ 1000) : n ≤ line := Nat.le_trans h (by decide)
theorem compL_map {α : Type} {turn : R → Env → Out (List R × Env)} {ρ : Env} (f : α → R) (g : α → List R) : ∀ (xs : List α), (∀ x ∈ xs, turn (f x) ρ = .ok (g x, ρ)) → compL turn (xs.map f) ρ = .ok (xs.flatMap g, ρ)
  | [], _ => rfl
  | x :: xs, h => by
    show ((turn (f x) ρ).bind fun y => (compL turn (xs.map f) y.2).bind fun z => .ok (y.1 ++ z.1, z.2)) = _
    rw [h x List.mem_cons_self]
    simp only [ok_bind]
    rw [compL_map f g xs fun y hy => h y (List.mem_cons_of_mem _ hy)]
    rfl
theorem fit_int (i : Int) : fit (.int i) = true := rfl
theorem lays_ints (xs : List Int) : G.lays (xs.map G.int) = true := by
  induction xs with
  | nil => rfl
  | cons x xs ih => simp [G.lays, G.lay, ih]
theorem deps_ints (xs : List Int) : G.deps (xs.map G.int) = 0 := by
  induction xs with
  | nil => rfl
  | cons x xs ih => simp [G.deps, G.dep, ih]
theorem fits_ints (xs : List Int) : fits (xs.map G.int) = true := by
  unfold fits; rw [lays_ints, deps_ints]; rfl
@[simp] theorem eqv_ii (i j : Int) : G.eqv (.int i) (.int j) = (i == j) := id rfl
@[simp] theorem eq_ii (i j : Int) : cmpop .eq (.g (.int i)) (.g (.int j)) = .ok (i == j) := id rfl
@[simp] theorem ne_ii (i j : Int) : cmpop .ne (.g (.int i)) (.g (.int j)) = .ok (!(i == j)) := id rfl
@[simp] theorem lt_ii (i j : Int) : cmpop .lt (.g (.int i)) (.g (.int j)) = .ok (decide (i < j)) := id rfl
@[simp] theorem le_ii (i j : Int) : cmpop .le (.g (.int i)) (.g (.int j)) = .ok (decide (i ≤ j)) := id rfl
@[simp] theorem gt_ii (i j : Int) : cmpop .gt (.g (.int i)) (.g (.int j)) = .ok (decide (j < i)) := id rfl
@[simp] theorem ge_ii (i j : Int) : cmpop .ge (.g (.int i)) (.g (.int j)) = .ok (decide (j ≤ i)) := id rfl
theorem pyIn_ints (x : Int) (ys : List Int) : pyIn (.int x) (ys.map G.int) = .ok (ys.any fun y => y == x) := by
  unfold pyIn
  rw [fits_ints, fit_int]
  simp [List.any_map, Function.comp_def]
@[simp] theorem in_ints (x : Int) (ys : List Int) : cmpop .in_ (.g (.int x)) (.g (.tup (ys.map G.int))) = .ok (ys.any fun y => y == x) := by
  show pyIn _ _ = _
  exact pyIn_ints x ys
@[simp] theorem nin_ints (x : Int) (ys : List Int) : cmpop .nin (.g (.int x)) (.g (.tup (ys.map G.int))) = .ok (!(ys.any fun y => y == x)) := by
  show (pyIn _ _).bind _ = _
  rw [pyIn_ints]; rfl
@[simp] theorem in_two (x a b : Int) : cmpop .in_ (.g (.int x)) (.g (.tup [.int a, .int b])) = .ok (a == x || b == x) := by
  have := in_ints x [a, b]
  simpa using this
@[simp] theorem is_non : cmpop .is_ (.g .non) (.g .non) = .ok true := id rfl
@[simp] theorem is_non_int (i : Int) : cmpop .is_ (.g (.int i)) (.g .non) = .ok false := id rfl
@[simp] theorem is_non_tup (i : List G) : cmpop .is_ (.g (.tup i)) (.g .non) = .ok false := id rfl
@[simp] theorem isnt_non : cmpop .isnt (.g .non) (.g .non) = .ok false := id rfl
@[simp] theorem truth_bl (b : Bool) : truth (.g (.bl b)) = .ok b := id rfl
@[simp] theorem truth_bl' (b : Bool) : truth (bl b) = .ok b := id rfl
@[simp] theorem asB_bl (b : Bool) : asB (bl b) = .ok b := id rfl
@[simp] theorem int_bl (b : Bool) : b1op .int (bl b) = .ok (.g (.int (if b then 1 else 0))) := id rfl
@[simp] theorem int_int (i : Int) : b1op .int (.g (.int i)) = .ok (.g (.int i)) := id rfl
@[simp] theorem abs_int (i : Int) : b1op .abs (.g (.int i)) = .ok (.g (.int (if i < 0 then -i else i))) := id rfl
@[simp] theorem sum_ints (xs : List Int) : b1op .sum (.g (.tup (xs.map G.int))) = .ok (.g (.int xs.sum)) := by
  show (match (some (xs.map G.int)).bind toInts with
    | some ns => Out.ok (R.g (.int ns.sum))
    | none => .stuck) = _
  rw [Option.bind_some, toInts_map]
theorem toBls_mapf {α : Type} (f : α → Bool) (xs : List α) : toBls (xs.map fun x => G.bl (f x)) = some (xs.map f) := by
  induction xs with
  | nil => rfl
  | cons x xs ih => simp [toBls, ih]
@[simp] theorem all_of {α : Type} (f : α → Bool) (xs : List α) : b1op .all (.lst (xs.map fun x => bl (f x))) = .ok (bl (xs.all f)) := by
  show (match (toGs (xs.map fun x => R.g (.bl (f x)))).bind toBls with
    | some bs => Out.ok (R.g (.bl (bs.all id)))
    | none => .stuck) = _
  rw [toGs_mapf (fun x => G.bl (f x)), Option.bind_some, toBls_mapf]
  simp [List.all_map, Function.comp_def, bl]
theorem mod_ii (i j : Int) (h : 0 < j) : binop .mod (.g (.int i)) (.g (.int j)) = .ok (.g (.int (i % j))) := by
  show (if 0 < j then _ else _) = _
  rw [if_pos h]
theorem mul_ii (i j : Int) (h : (i64 i || i64 j) = true) : binop .mul (.g (.int i)) (.g (.int j)) = .ok (.g (.int (i * j))) := by
  show (if i64 i || i64 j then _ else _) = _
  rw [if_pos h]
@[simp] theorem add_tt (xs ys : List Int) (h : xs.length + ys.length ≤ line) : binop .add (.g (.tup (xs.map G.int))) (.g (.tup (ys.map G.int))) = .ok (.g (.tup ((xs ++ ys).map G.int))) := by
  show (if (xs.map G.int).length + (ys.map G.int).length ≤ line then _ else _) = _
  rw [if_pos (by simpa using h), List.map_append]
theorem rep_flat (k : Nat) (x : G) : (List.replicate k [x]).flatten = List.replicate k x := by
  induction k with
  | zero => rfl
  | succ k ih => simp [List.replicate_succ, ih]
theorem mul_one (x : G) (k : Nat) (h : k ≤ 1000) : binop .mul (.g (.tup [x])) (.g (.int k)) = .ok (.g (.tup (List.replicate k x))) := by
  show (if -1000 ≤ (k : Int) ∧ (k : Int) ≤ 1000 ∧ [x].length ≤ 1000 then Out.ok (R.g (.tup (List.replicate (k : Int).toNat [x]).flatten)) else .stuck) = _
  rw [if_pos ⟨by omega, by omega, by simp⟩, Int.toNat_natCast, rep_flat]
@[simp] theorem walked_tup (ρ : Env) (xs : List G) : walked ρ (.v (.g (.tup xs))) = .ok (xs.map R.g, .none) := id rfl
theorem rep_ints' (k : Nat) : (List.replicate k (G.int 0)) = (List.replicate k (0 : Int)).map G.int := by simp
theorem count_ints (xs : List Int) (x : Int) : mthop2 false .count (.g (.tup (xs.map G.int))) (.g (.int x)) = .ok (.g (.int (xs.countP fun y => y == x))) := by
  show (if fit (.int x) && fits (xs.map G.int) then Out.ok (R.g (.int ((xs.map G.int).countP fun y => G.eqv y (.int x)))) else .stuck) = _
  rw [fits_ints, fit_int]
  simp [List.countP_map, Function.comp_def]
@[simp] theorem recv_tup (xs : List G) : recv (.g (.tup xs)) = .ok false := id rfl
theorem firstAt_ints (x : Int) : ∀ (xs : List Int) (n : Nat), firstAt (.int x) (xs.map G.int) n = (xs.findIdx? fun y => y == x).map (· + n)
  | [], n => rfl
  | y :: xs, n => by
    show (if (y == x) = true then some n else firstAt (.int x) (xs.map G.int) (n + 1)) = _
    rw [List.findIdx?_cons]
    cases h : y == x with
    | true => simp
    | false =>
      simp only [Bool.false_eq_true, if_false]
      rw [firstAt_ints x xs (n + 1)]
      cases xs.findIdx? fun y => y == x with
      | none => rfl
      | some k => simp; omega
theorem index_ints (xs : List Int) (x : Int) {k : Nat} (h : xs.findIdx? (fun y => y == x) = some k) : mthop2 false .index (.g (.tup (xs.map G.int))) (.g (.int x)) = .ok (.g (.int k)) := by
  show (if fit (.int x) && fits (xs.map G.int) then (match firstAt (.int x) (xs.map G.int) 0 with
      | some n => Out.ok (R.g (.int n))
      | none => .stuck) else .stuck) = _
  rw [fits_ints, fit_int, firstAt_ints, h]
  simp
/-- a list of ints -/
abbrev L (xs : List Int) : R := .lst (xs.map fun i => R.g (.int i))
theorem forL_range {turn : R → Env → Out Fl} {ρ0 ρ : Env} (n : Nat) (Inv : Nat → Env → Prop) (h0 : Inv 0 ρ) (step : ∀ i, i < n → ∀ ρ, Inv i ρ → ∃ ρ', turn (I ((0 : Int) + (i : Int))) ρ = .ok (.next ρ') ∧ Inv (i + 1) (mask ρ0 ρ')) :
    ∃ ρ', forL turn ρ0 (rangeL 0 n) ρ = .ok (.next ρ') ∧ Inv n ρ' := by
  have key : ∀ (m i : Nat) (ρ : Env), i + m = n → Inv i ρ → ∃ ρ', forL turn ρ0 ((List.range' i m).map fun (i : Nat) => I ((0 : Int) + (i : Int))) ρ = .ok (.next ρ') ∧ Inv n ρ' := by
    intro m
    induction m with
    | zero => intro i ρ hi h; exact ⟨ρ, rfl, by rw [← hi]; exact h⟩
    | succ m ih =>
      intro i ρ hi h
      obtain ⟨ρ1, e1, h1⟩ := step i (by omega) ρ h
      obtain ⟨ρ2, e2, h2⟩ := ih (i + 1) (mask ρ0 ρ1) (by omega) h1
      refine ⟨ρ2, ?_, h2⟩
      rw [List.range'_succ, List.map_cons]
      show ((turn (I ((0 : Int) + (i : Int))) ρ).bind _) = _
      rw [e1]
      exact e2
  have := key n 0 ρ (by omega) h0
  rw [← List.range_eq_range'] at this
  exact this
theorem forL_list {α : Type} {turn : R → Env → Out Fl} {ρ0 : Env} (f : α → R) (Inv : List α → Env → Prop) (step : ∀ x xs ρ, Inv (x :: xs) ρ → ∃ ρ', turn (f x) ρ = .ok (.next ρ') ∧ Inv xs (mask ρ0 ρ')) : ∀ (xs : List α) (ρ : Env), Inv xs ρ →
    ∃ ρ', forL turn ρ0 (xs.map f) ρ = .ok (.next ρ') ∧ Inv [] ρ'
  | [], ρ, h => ⟨ρ, rfl, h⟩
  | x :: xs, ρ, h => by
    obtain ⟨ρ1, e1, h1⟩ := step x xs ρ h
    obtain ⟨ρ2, e2, h2⟩ := forL_list f Inv step xs _ h1
    refine ⟨ρ2, ?_, h2⟩
    show ((turn (f x) ρ).bind _) = _
    rw [e1]
    exact e2
/-- a comprehension whose turns change the slots -/
theorem compL_inv {turn : R → Env → Out (List R × Env)} {ρ : Env} (n : Nat) (Inv : Nat → List R → Env → Prop) (h0 : Inv 0 [] ρ) (step : ∀ i, i < n → ∀ ys ρ, Inv i ys ρ → ∃ zs ρ', turn (I ((0 : Int) + (i : Int))) ρ = .ok (zs, ρ') ∧ Inv (i + 1) (ys ++ zs) ρ') :
    ∃ ys ρ', compL turn (rangeL 0 n) ρ = .ok (ys, ρ') ∧ Inv n ys ρ' := by
  have key : ∀ (m i : Nat) (ys : List R) (ρ : Env), i + m = n → Inv i ys ρ → ∃ zs ρ', compL turn ((List.range' i m).map fun (i : Nat) => I ((0 : Int) + (i : Int))) ρ = .ok (zs, ρ') ∧ Inv n (ys ++ zs) ρ' := by
    intro m
    induction m with
    | zero => intro i ys ρ hi h; exact ⟨[], ρ, rfl, by rw [List.append_nil, ← hi]; exact h⟩
    | succ m ih =>
      intro i ys ρ hi h
      obtain ⟨z1, ρ1, e1, h1⟩ := step i (by omega) ys ρ h
      obtain ⟨z2, ρ2, e2, h2⟩ := ih (i + 1) (ys ++ z1) ρ1 (by omega) h1
      refine ⟨z1 ++ z2, ρ2, ?_, by rw [← List.append_assoc]; exact h2⟩
      rw [List.range'_succ, List.map_cons]
      show ((turn (I ((0 : Int) + (i : Int))) ρ).bind _) = _
      rw [e1]
      simp only [ok_bind]
      rw [e2]; rfl
  obtain ⟨zs, ρ', e, h⟩ := key n 0 [] ρ (by omega) h0
  rw [← List.range_eq_range'] at e
  exact ⟨zs, ρ', e, h⟩
@[simp] theorem optE_nil (q : Q) (ρ : Env) (f : Env → Out (Q × Env)) : optE q ρ .nil f = .ok (none, ρ) := id rfl
theorem optE_e (q : Q) (ρ : Env) (e : E) (f : Env → Out (Q × Env)) (h : e.isNil = false) : optE q ρ e f = (behind q ρ f).bind fun y => (deref y.2 y.1).bind fun r => match r with
    | .g (.int i) => .ok (some i, y.2)
    | _ => .stuck := by unfold optE; rw [h]; rfl
@[simp] theorem isNil_var (j : Nat) : (E.var j).isNil = false := id rfl
@[simp] theorem isNil_bin (op : BOp) (a b : E) : (E.bin op a b).isNil = false := id rfl
@[simp] theorem isNil_k (g : G) : (E.k g).isNil = false := id rfl
@[simp] theorem slop2_t (xs : List G) (l h : Option Int) : slop2 (.g (.tup xs)) l h = .ok (.g (.tup (cutL xs l h))) := id rfl
theorem cut_to {α : Type} {ys : List α} {p : Nat} (h : p ≤ ys.length) : cutL ys none (some (p : Int)) = ys.take p := by
  show (ys.drop (HT.sIx ys.length 0 none)).take (HT.sIx ys.length ys.length (some (p : Int)) - HT.sIx ys.length 0 none) = _
  rw [HT.sIx_none, HT.sIx_nat, Nat.min_eq_left h]; simp
theorem cut_from {α : Type} {ys : List α} {p : Nat} (h : p ≤ ys.length) : cutL ys (some (p : Int)) none = ys.drop p := by
  show (ys.drop (HT.sIx ys.length 0 (some (p : Int)))).take (HT.sIx ys.length ys.length none - HT.sIx ys.length 0 (some (p : Int))) = _
  rw [HT.sIx_none, HT.sIx_nat, Nat.min_eq_left h]
  exact List.take_of_length_le (by simp)
theorem ix_L {xs : List Int} {i : Nat} (h : i < xs.length) (o : Bool) : ixop o (L xs) (.g (.int i)) = .ok (.v (I xs[i])) := by
  unfold ixop
  have : atI (xs.map fun i => R.g (.int i)) (i : Int) = some (I xs[i]) := by
    show (L2.ixN _ _).bind _ = _
    rw [List.length_map, ixN_of h]
    simp [h]
  simp only [this]
theorem pow_ii (i : Int) (k : Nat) (h : k ≤ 1000000) (h2 : i64 i = true) : binop .pow (.g (.int i)) (.g (.int k)) = .ok (.g (.int (i ^ k))) := by
  show (if 0 ≤ (k : Int) ∧ (k : Int) ≤ 1000000 ∧ i64 i then Out.ok (R.g (.int (i ^ (k : Int).toNat))) else .stuck) = _
  rw [if_pos ⟨by omega, by omega, h2⟩, Int.toNat_natCast]
@[simp] theorem p10_18 : binop .pow (.g (.int 10)) (.g (.int 18)) = .ok (.g (.int (10 ^ 18))) := pow_ii 10 18 (by omega) (by decide)
@[simp] theorem p10_30 : binop .pow (.g (.int 10)) (.g (.int 30)) = .ok (.g (.int (10 ^ 30))) := pow_ii 10 30 (by omega) (by decide)
theorem fdiv_ii (i j : Int) (h : 0 < j ∧ j < 1073741824) : binop .fdiv (.g (.int i)) (.g (.int j)) = .ok (.g (.int (i / j))) := by
  show (if 0 < j ∧ j < 1073741824 then _ else _) = _
  rw [if_pos h]
section
variable (cf : CallT) (ρ : Env)
@[simp] theorem exec_app (j : Nat) (e : E) : exec cf (.app j e) ρ = (match mutL ρ j with
    | some _ => (ev cf e ρ).bind fun x => (match x.1, mutL x.2 j with
      | .v r, some xs => if xs.length < line then .ok (.next (putL x.2 j (xs ++ [r]))) else .stuck
      | _, _ => .stuck)
    | none => .stuck) := id rfl
@[simp] theorem exec_rev (j : Nat) : exec cf (.rev j) ρ = (match mutL ρ j with
    | some xs => .ok (.next (putL ρ j xs.reverse))
    | none => .stuck) := id rfl
@[simp] theorem exec_setix (j : Nat) (i e : E) : exec cf (.setix j i e) ρ = (ev cf e ρ).bind fun x => (match x.1, mutL x.2 j with
    | .v r, some _ => (ev cf i x.2).bind fun y => (match y.1, mutL y.2 j with
      | .v (.g (.int n)), some xs => (match ixN xs.length n with
        | some m => .ok (.next (putL y.2 j (xs.set m r)))
        | none => .stuck)
      | _, _ => .stuck)
    | _, _ => .stuck) := id rfl
@[simp] theorem mutL_own (j : Nat) {xs : List R} (h : slotAt ρ j = .own (.lst xs)) : mutL ρ j = some xs := by unfold mutL; rw [h]
@[simp] theorem mutL_arg (j : Nat) {xs : List R} (h : slotAt ρ j = .arg (.lst xs)) : mutL ρ j = some xs := by unfold mutL; rw [h]
@[simp] theorem putL_own (j : Nat) {xs ys : List R} (h : slotAt ρ j = .own (.lst xs)) : putL ρ j ys = ρ.set j (.own (.lst ys)) := by unfold putL; rw [h]
@[simp] theorem putL_arg (j : Nat) {xs ys : List R} (h : slotAt ρ j = .arg (.lst xs)) : putL ρ j ys = ρ.set j (.arg (.lst ys)) := by unfold putL; rw [h]
@[simp] theorem take_s (j : Nat) {r : R} (h : slotAt ρ j = .own r) : take ρ (.s j) = .ok (r, ρ.set j .no) := by unfold take; simp only [h]
@[simp] theorem walked_bor (j : Nat) {xs : List R} (h : slotAt ρ j = .bor (.lst xs)) : walked ρ (.s j) = .ok (xs, .slot j) := by unfold walked; simp only [h, r_bor, r_own]
@[simp] theorem walked_own (j : Nat) {xs : List R} (h : slotAt ρ j = .own (.lst xs)) : walked ρ (.s j) = .ok (xs, .slot j) := by unfold walked; simp only [h, r_bor, r_own]
@[simp] theorem lend_slot (j : Nat) : lendAs (.slot j) ρ = ρ.set j (frz (slotAt ρ j)) := id rfl
@[simp] theorem backC_slot (j : Nat) (old : Env) (js : List Nat) : backC (.slot j) old ρ js = (backS old ρ js).set j (slotAt old j) := id rfl
@[simp] theorem frz_bor (r : R) : frz (.bor r) = .bor r := id rfl
@[simp] theorem frz_own (r : R) : frz (.own r) = .bor r := id rfl
end
@[simp] theorem list_of {α : Type} (f : α → G) (xs : List α) : b1op .list (.lst (xs.map fun x => R.g (f x))) = .ok (.lst (xs.map fun x => R.g (f x))) := by
  show (match toGs (xs.map fun x => R.g (f x)) with
    | some ys => Out.ok (fl ys)
    | none => .stuck) = _
  rw [toGs_mapf]
  simp [fl, Function.comp_def]
theorem cut_from1 {α : Type} {ys : List α} {p : Nat} (h : p + 1 ≤ ys.length) : cutL ys (some ((p : Int) + 1)) none = ys.drop (p + 1) := by
  have := cut_from (ys := ys) (p := p + 1) h
  rw [show (((p + 1 : Nat) : Int)) = (p : Int) + 1 from by omega] at this
  exact this
theorem add_gg (xs ys : List G) (h : xs.length + ys.length ≤ line) : binop .add (.g (.tup xs)) (.g (.tup ys)) = .ok (.g (.tup (xs ++ ys))) := by
  show (if xs.length + ys.length ≤ line then _ else _) = _
  rw [if_pos h]
theorem cmod (i n : Nat) : ((i : Int) % (n : Int)) = ((i % n : Nat) : Int) := by omega
theorem slot5 (a b c d e f : Slot) (r : Env) : slotAt (a :: b :: c :: d :: e :: f :: r) 5 = f := rfl
@[simp] theorem asB_g (b : Bool) : asB (.g (.bl b)) = .ok b := id rfl
@[simp] theorem int_g (b : Bool) : b1op .int (.g (.bl b)) = .ok (.g (.int (if b then 1 else 0))) := id rfl
@[simp] theorem ln1 : 1 ≤ line := by decide
@[simp] theorem ln2 : 2 ≤ line := by decide
@[simp] theorem ln3 : 3 ≤ line := by decide
@[simp] theorem ln4 : 4 ≤ line := by decide
@[simp] theorem ln5 : 5 ≤ line := by decide
@[simp] theorem ln6 : 6 ≤ line := by decide
@[simp] theorem ln7 : 7 ≤ line := by decide
@[simp] theorem ln8 : 8 ≤ line := by decide
theorem seq_next {cf : CallT} {s t : S} {ρ ρ' : Env} (h : exec cf s ρ = .ok (.next ρ')) : exec cf (.seq s t) ρ = exec cf t ρ' := by
  rw [exec_seq, h]; rfl
end Pv
namespace K00
open Pv
/-- are_bits(row); names: row, bit -/
def b0 : S := (.ret (.b1 .all (.comp (.cmp (.var 1) (.cc .in_ (.tup (.cons (.k (.int 0)) (.cons (.k (.int 1)) .nil))) .nil)) (.var 1) (.it (.var 0)) .nil)))
/-- check_row(row); names: row -/
def b1 : S := (.ifs (.not (.call 0 (.cons (.var 0) .nil))) (.raise 0) .skip)
/-- nothing(many); names: many -/
def b2 : S := (.ret (.bin .mul (.tup (.cons (.k (.int 0)) .nil)) (.var 0)))
/-- is_nothing(row); names: row -/
def b3 : S := (.ret (.cmp (.k (.int 1)) (.cc .nin (.var 0) .nil)))
/-- sum_of(one, other); names: one, other, place -/
def b4 : S := (.ret (.b1 .tuple (.comp (.bin .bxor (.ix (.var 0) (.var 2)) (.ix (.var 1) (.var 2))) (.var 2) (.rng1 (.b1 .len (.var 0))) .nil)))
/-- sum_of_rows(rows, many); names: rows, many, found, row -/
def b5 : S := (.seq (.set 2 (.call 2 (.cons (.var 1) .nil)))
  (.seq (.for_ (.var 3) (.it (.var 0))
  (.set 2 (.call 4 (.cons (.var 2) (.cons (.var 3) .nil)))))
  (.ret (.var 2))))
/-- common_bits(one, other); names: one, other, place -/
def b6 : S := (.ret (.b1 .tuple (.comp (.bin .band (.ix (.var 0) (.var 2)) (.ix (.var 1) (.var 2))) (.var 2) (.rng1 (.b1 .len (.var 0))) .nil)))
/-- do_meet(one, other); names: one, other -/
def b7 : S := (.ret (.cmp (.bin .mod (.b1 .sum (.call 6 (.cons (.var 0) (.cons (.var 1) .nil)))) (.k (.int 2))) (.cc .eq (.k (.int 1)) .nil)))
/-- ones_of(row); names: row, place -/
def b8 : S := (.ret (.b1 .tuple (.comp (.var 1) (.var 1) (.rng1 (.b1 .len (.var 0))) (.cmp (.ix (.var 0) (.var 1)) (.cc .eq (.k (.int 1)) .nil)))))
/-- row_of(places, many); names: places, many, place -/
def b9 : S := (.ret (.b1 .tuple (.comp (.b1 .int (.cmp (.var 2) (.cc .in_ (.var 0) .nil))) (.var 2) (.rng1 (.var 1)) .nil)))
/-- weight_of(row); names: row -/
def b10 : S := (.ret (.mth .count (.var 0) (.k (.int 1))))
/-- head_of(row); names: row -/
def b11 : S := (.ret (.ite (.cmp (.k (.int 1)) (.cc .in_ (.var 0) .nil)) (.mth .index (.var 0) (.k (.int 1))) (.k .non)))
/-- opposite_of(row); names: row, bit -/
def b12 : S := (.ret (.b1 .tuple (.comp (.bin .sub (.k (.int 1)) (.var 1)) (.var 1) (.it (.var 0)) .nil)))
/-- bit_changed(row, place); names: row, place -/
def b13 : S := (.ret (.bin .add (.bin .add (.sl (.var 0) .nil (.var 1)) (.tup (.cons (.bin .sub (.k (.int 1)) (.ix (.var 0) (.var 1))) .nil))) (.sl (.var 0) (.bin .add (.var 1) (.k (.int 1))) .nil)))
/-- all_rows(many); names: many, found, place, row, bit -/
def b14 : S := (.seq (.set 1 (.lst (.cons (.tup .nil) .nil)))
  (.seq (.for_ (.var 2) (.rng1 (.var 0))
  (.set 1 (.comp2 (.bin .add (.var 3) (.tup (.cons (.var 4) .nil))) (.var 3) (.it (.var 1)) .nil (.var 4) (.it (.tup (.cons (.k (.int 0)) (.cons (.k (.int 1)) .nil)))) .nil)))
  (.ret (.b1 .tuple (.var 1)))))
/-- _law_draws(script, many); names: script, many, cells, rest, draws, k, at, cell, once -/
def b15 : S := (.seq (.set 2 (.comp (.b1 .int (.var 7)) (.var 7) (.it (.var 0)) .nil))
  (.seq (.ifs (.cmp (.b1 .len (.var 2)) (.cc .eq (.k (.int 0)) .nil)) (.app 2 (.k (.int 0))) .skip)
  (.seq (.set 3 (.b1 .list (.var 2)))
  (.seq (.set 4 (.lst .nil))
  (.seq (.for_ (.var 5) (.rng1 (.var 1))
  (.seq (.set 6 (.bin .mod (.var 5) (.b1 .len (.var 2))))
  (.ifs (.and (.cmp (.ix (.var 2) (.var 6)) (.cc .ge (.bin .pow (.k (.int 10)) (.k (.int 18))) .nil)) (.cmp (.ix (.var 3) (.var 6)) (.cc .gt (.k (.int 0)) .nil))) (.seq (.app 4 (.bin .mod (.b1 .int (.ix (.var 3) (.var 6))) (.k (.int 1000))))
  (.setix 3 (.var 6) (.bin .fdiv (.ix (.var 3) (.var 6)) (.k (.int 1000))))) (.seq (.set 8 (.bin .mod (.b1 .int (.bin .add (.bin .add (.bin .mul (.ix (.var 2) (.var 6)) (.k (.int 48271))) (.bin .mul (.var 5) (.k (.int 69621)))) (.k (.int 11)))) (.k (.int 2147483647))))
  (.app 4 (.bin .mod (.b1 .int (.bin .add (.bin .add (.bin .mul (.var 8) (.var 8)) (.bin .mul (.k (.int 3)) (.var 8))) (.var 5))) (.k (.int 1000003))))))))
  (.seq (.rev 4)
  (.ret (.var 4))))))))
/-- _law_take(draws, many); names: draws, many -/
def b16 : S := (.seq (.ifs (.cmp (.b1 .len (.var 0)) (.cc .eq (.k (.int 0)) .nil)) (.ret (.k (.int 0))) .skip)
  (.ret (.bin .mod (.b1 .int (.pop 0)) (.var 1))))
/-- _law_cell(script); names: script, cell -/
def b17 : S := (.seq (.ifs (.cmp (.b1 .len (.var 0)) (.cc .eq (.k (.int 0)) .nil)) (.ret (.k (.int 0))) .skip)
  (.seq (.set 1 (.b1 .int (.ix (.var 0) (.k (.int 0)))))
  (.ret (.bin .mul (.bin .mod (.b1 .int (.b1 .abs (.var 1))) (.bin .pow (.k (.int 10)) (.k (.int 30)))) (.ix (.lst (.cons (.k (.int 1)) (.cons (.neg (.k (.int 1))) .nil))) (.b1 .int (.cmp (.var 1) (.cc .lt (.k (.int 0)) .nil))))))))
/-- _law_same(actual, due); names: actual, due, k -/
def b18 : S := (.seq (.ifs (.isi (.var 1) .bool) (.ret (.and (.isi (.var 0) .bool) (.cmp (.var 0) (.cc .eq (.var 1) .nil)))) .skip)
  (.seq (.ifs (.isi (.var 1) .int) (.ret (.and (.isi (.var 0) .int) (.and (.not (.isi (.var 0) .bool)) (.cmp (.var 0) (.cc .eq (.var 1) .nil))))) .skip)
  (.seq (.ifs (.isi (.var 1) .str) (.ret (.and (.isi (.var 0) .str) (.cmp (.var 0) (.cc .eq (.var 1) .nil)))) .skip)
  (.seq (.ifs (.cmp (.var 1) (.cc .is_ (.k .non) .nil)) (.ret (.cmp (.var 0) (.cc .is_ (.k .non) .nil))) .skip)
  (.seq (.ifs (.or (.not (.isi (.var 0) .tuple)) (.cmp (.b1 .len (.var 0)) (.cc .ne (.b1 .len (.var 1)) .nil))) (.ret (.k (.bl false))) .skip)
  (.seq (.for_ (.var 2) (.rng1 (.b1 .len (.var 1)))
  (.ifs (.not (.call 18 (.cons (.ix (.var 0) (.var 2)) (.cons (.ix (.var 1) (.var 2)) .nil)))) (.ret (.k (.bl false))) .skip))
  (.ret (.k (.bl true)))))))))
/-- _law_sum(one, other); names: one, other, k -/
def b19 : S := (.ret (.b1 .tuple (.comp (.b1 .int (.cmp (.ix (.var 0) (.var 2)) (.cc .ne (.ix (.var 1) (.var 2)) .nil))) (.var 2) (.rng1 (.b1 .len (.var 0))) .nil)))
/-- _law_bits(draws, many); names: draws, many, k -/
def b20 : S := (.ret (.b1 .tuple (.comp (.call 16 (.cons (.var 0) (.cons (.k (.int 2)) .nil))) (.var 2) (.rng1 (.var 1)) .nil)))
/-- _law_all(many); names: many, rows, k, longer, row -/
def b21 : S := (.seq (.set 1 (.lst (.cons (.tup .nil) .nil)))
  (.seq (.for_ (.var 2) (.rng1 (.var 0))
  (.seq (.set 3 (.lst .nil))
  (.seq (.for_ (.var 4) (.it (.var 1))
  (.set 3 (.bin .add (.var 3) (.lst (.cons (.bin .add (.var 4) (.tup (.cons (.k (.int 0)) .nil))) (.cons (.bin .add (.var 4) (.tup (.cons (.k (.int 1)) .nil))) .nil))))))
  (.set 1 (.var 3)))))
  (.ret (.var 1))))
/-- _law_meet(one, other); names: one, other, k -/
def b22 : S := (.ret (.b1 .int (.bin .mod (.b1 .len (.comp (.var 2) (.var 2) (.rng1 (.b1 .len (.var 0))) (.and (.cmp (.ix (.var 0) (.var 2)) (.cc .eq (.k (.int 1)) .nil)) (.cmp (.ix (.var 1) (.var 2)) (.cc .eq (.k (.int 1)) .nil))))) (.k (.int 2)))))
/-- _law_is_refused(row); names: row, e -/
def b23 : S := (.seq (.tryx (.call 1 (.cons (.var 0) .nil)) [(0, some true)])
  (.ret (.k (.bl false))))
/-- _law_is_told(one, other); names: one, other, many, both, places, k, due, j, bit -/
def b24 : S := (.seq (.set 2 (.b1 .len (.var 0)))
  (.seq (.set 3 (.b1 .tuple (.comp (.b1 .int (.and (.cmp (.ix (.var 0) (.var 5)) (.cc .eq (.k (.int 1)) .nil)) (.cmp (.ix (.var 1) (.var 5)) (.cc .eq (.k (.int 1)) .nil)))) (.var 5) (.rng1 (.var 2)) .nil)))
  (.seq (.ifs (.or (.cmp (.call 1 (.cons (.var 0) .nil)) (.cc .isnt (.k .non) .nil)) (.not (.call 18 (.cons (.tup (.cons (.call 4 (.cons (.var 0) (.cons (.var 1) .nil))) (.cons (.call 6 (.cons (.var 0) (.cons (.var 1) .nil))) (.cons (.call 7 (.cons (.var 0) (.cons (.var 1) .nil))) .nil)))) (.cons (.tup (.cons (.call 19 (.cons (.var 0) (.cons (.var 1) .nil))) (.cons (.var 3) (.cons (.cmp (.call 22 (.cons (.var 0) (.cons (.var 1) .nil))) (.cc .eq (.k (.int 1)) .nil)) .nil)))) .nil))))) (.ret (.k (.bl false))) .skip)
  (.seq (.set 4 (.b1 .tuple (.comp (.var 5) (.var 5) (.rng1 (.var 2)) (.cmp (.ix (.var 0) (.var 5)) (.cc .eq (.k (.int 1)) .nil)))))
  (.seq (.ifs (.not (.call 18 (.cons (.tup (.cons (.call 8 (.cons (.var 0) .nil)) (.cons (.call 10 (.cons (.var 0) .nil)) (.cons (.call 11 (.cons (.var 0) .nil)) (.cons (.call 3 (.cons (.var 0) .nil)) .nil))))) (.cons (.tup (.cons (.var 4) (.cons (.b1 .len (.var 4)) (.cons (.ix (.bin .add (.var 4) (.tup (.cons (.k .non) .nil))) (.k (.int 0))) (.cons (.cmp (.b1 .len (.var 4)) (.cc .eq (.k (.int 0)) .nil)) .nil))))) .nil)))) (.ret (.k (.bl false))) .skip)
  (.seq (.ifs (.not (.call 18 (.cons (.tup (.cons (.call 9 (.cons (.var 4) (.cons (.var 2) .nil))) (.cons (.call 12 (.cons (.var 0) .nil)) (.cons (.call 2 (.cons (.var 2) .nil)) .nil)))) (.cons (.tup (.cons (.var 0) (.cons (.b1 .tuple (.comp (.b1 .int (.cmp (.var 8) (.cc .eq (.k (.int 0)) .nil))) (.var 8) (.it (.var 0)) .nil)) (.cons (.bin .mul (.tup (.cons (.k (.int 0)) .nil)) (.var 2)) .nil)))) .nil)))) (.ret (.k (.bl false))) .skip)
  (.seq (.for_ (.var 5) (.rng1 (.var 2))
  (.seq (.set 6 (.b1 .tuple (.comp (.b1 .int (.cmp (.ix (.var 0) (.var 7)) (.cc .ne (.b1 .int (.cmp (.var 7) (.cc .eq (.var 5) .nil))) .nil))) (.var 7) (.rng1 (.var 2)) .nil)))
  (.ifs (.not (.call 18 (.cons (.call 13 (.cons (.var 0) (.cons (.var 5) .nil))) (.cons (.var 6) .nil)))) (.ret (.k (.bl false))) .skip)))
  (.ret (.k (.bl true))))))))))
/-- law(script); names: script, draws, cell, turn, many, rows, due, row, at, bad, k -/
def b25 : S := (.seq (.set 1 (.call 15 (.cons (.var 0) (.cons (.k (.int 200)) .nil))))
  (.seq (.set 2 (.call 17 (.cons (.var 0) .nil)))
  (.seq (.for_ (.var 3) (.rng1 (.k (.int 4)))
  (.seq (.set 4 (.call 16 (.cons (.var 1) (.cons (.k (.int 10)) .nil))))
  (.seq (.set 5 (.b1 .tuple (.comp (.call 20 (.cons (.var 1) (.cons (.var 4) .nil))) (.var 10) (.rng1 (.call 16 (.cons (.var 1) (.cons (.k (.int 6)) .nil)))) .nil)))
  (.seq (.set 6 (.bin .mul (.tup (.cons (.k (.int 0)) .nil)) (.var 4)))
  (.seq (.for_ (.var 7) (.it (.var 5))
  (.set 6 (.call 19 (.cons (.var 6) (.cons (.var 7) .nil)))))
  (.seq (.ifs (.not (.call 18 (.cons (.tup (.cons (.call 5 (.cons (.var 5) (.cons (.var 4) .nil))) (.cons (.call 5 (.cons (.bin .add (.var 5) (.var 5)) (.cons (.var 4) .nil))) .nil))) (.cons (.tup (.cons (.var 6) (.cons (.bin .mul (.tup (.cons (.k (.int 0)) .nil)) (.var 4)) .nil))) .nil)))) (.ret (.k (.bl false))) .skip)
  (.seq (.ifs (.or (.not (.call 24 (.cons (.call 20 (.cons (.var 1) (.cons (.var 4) .nil))) (.cons (.call 20 (.cons (.var 1) (.cons (.var 4) .nil))) .nil)))) (.not (.call 24 (.cons (.bin .mul (.tup (.cons (.k (.int 0)) .nil)) (.var 4)) (.cons (.var 6) .nil))))) (.ret (.k (.bl false))) .skip)
  (.seq (.set 8 (.call 16 (.cons (.var 1) (.cons (.bin .add (.var 4) (.k (.int 1))) .nil))))
  (.for_ (.var 9) (.it (.tup (.cons (.k (.int 2)) (.cons (.neg (.k (.int 1))) (.cons (.bin .add (.k (.int 2)) (.b1 .abs (.var 2))) (.cons (.bin .sub (.neg (.k (.int 1))) (.b1 .abs (.var 2))) .nil))))))
  (.ifs (.not (.call 23 (.cons (.bin .add (.bin .add (.sl (.var 6) .nil (.var 8)) (.tup (.cons (.var 9) .nil))) (.sl (.var 6) (.var 8) .nil)) .nil))) (.ret (.k (.bl false))) .skip))))))))))
  (.seq (.for_ (.var 4) (.rng1 (.k (.int 5)))
  (.ifs (.not (.call 18 (.cons (.call 14 (.cons (.var 4) .nil)) (.cons (.b1 .tuple (.call 21 (.cons (.var 4) .nil))) .nil)))) (.ret (.k (.bl false))) .skip))
  (.seq (.ifs (.not (.call 18 (.cons (.tup (.cons (.call 4 (.cons (.tup (.cons (.k (.int 0)) (.cons (.k (.int 1)) (.cons (.k (.int 1)) .nil)))) (.cons (.tup (.cons (.k (.int 1)) (.cons (.k (.int 1)) (.cons (.k (.int 0)) .nil)))) .nil))) (.cons (.call 11 (.cons (.tup (.cons (.k (.int 0)) (.cons (.k (.int 0)) (.cons (.k (.int 1)) (.cons (.k (.int 1)) .nil))))) .nil)) (.cons (.call 11 (.cons (.tup (.cons (.k (.int 0)) (.cons (.k (.int 0)) .nil))) .nil)) (.cons (.call 8 (.cons (.tup (.cons (.k (.int 1)) (.cons (.k (.int 0)) (.cons (.k (.int 1)) .nil)))) .nil)) .nil))))) (.cons (.tup (.cons (.tup (.cons (.k (.int 1)) (.cons (.k (.int 0)) (.cons (.k (.int 1)) .nil)))) (.cons (.k (.int 2)) (.cons (.k .non) (.cons (.tup (.cons (.k (.int 0)) (.cons (.k (.int 2)) .nil))) .nil))))) .nil)))) (.ret (.k (.bl false))) .skip)
  (.ret (.and (.call 18 (.cons (.tup (.cons (.call 5 (.cons (.tup .nil) (.cons (.k (.int 3)) .nil))) (.cons (.call 9 (.cons (.tup (.cons (.k (.int 1)) .nil)) (.cons (.k (.int 3)) .nil))) (.cons (.call 7 (.cons (.tup (.cons (.k (.int 1)) (.cons (.k (.int 1)) .nil))) (.cons (.tup (.cons (.k (.int 1)) (.cons (.k (.int 1)) .nil))) .nil))) (.cons (.call 10 (.cons (.tup .nil) .nil)) .nil))))) (.cons (.tup (.cons (.tup (.cons (.k (.int 0)) (.cons (.k (.int 0)) (.cons (.k (.int 0)) .nil)))) (.cons (.tup (.cons (.k (.int 0)) (.cons (.k (.int 1)) (.cons (.k (.int 0)) .nil)))) (.cons (.k (.bl false)) (.cons (.k (.int 0)) .nil))))) .nil))) (.call 24 (.cons (.tup .nil) (.cons (.tup .nil) .nil))))))))))
def P : List Fn := [⟨1, 2, b0⟩, ⟨1, 1, b1⟩, ⟨1, 1, b2⟩, ⟨1, 1, b3⟩, ⟨2, 3, b4⟩, ⟨2, 4, b5⟩, ⟨2, 3, b6⟩, ⟨2, 2, b7⟩, ⟨1, 2, b8⟩, ⟨2, 3, b9⟩, ⟨1, 1, b10⟩, ⟨1, 1, b11⟩, ⟨1, 2, b12⟩, ⟨2, 2, b13⟩, ⟨1, 5, b14⟩, ⟨2, 9, b15⟩, ⟨2, 2, b16⟩, ⟨1, 2, b17⟩, ⟨2, 3, b18⟩, ⟨2, 3, b19⟩, ⟨2, 3, b20⟩, ⟨1, 5, b21⟩, ⟨2, 3, b22⟩, ⟨1, 2, b23⟩, ⟨2, 9, b24⟩, ⟨1, 11, b25⟩]
theorem b62_n {n : Nat} (h : n ≤ 1000) : b62 (n : Int) = true := b62_nat (by omega)
def isBits (xs : List Int) : Bool := xs.all fun x => 0 == x || 1 == x
/-- are_bits -/
theorem f0 (n : Nat) {xs : List Int} (hz : xs.length ≤ 1000) : callF P (n + 1) 0 [.own (T xs)] = .ok (bl (isBits xs), []) := by
  refine run_of (b := b0) (ns := 2) (ρ := [.own (T xs), .no]) rfl rfl ?_ rfl
  simp [b0]
  rw [compL_map (R.g ∘ G.int) (fun x => [bl (0 == x || 1 == x)])]
  · simp [flat_single, line_le hz, isBits]
  · intro x _
    simp [gsOf, line]
/-- check_row -/
theorem f1 (n : Nat) {xs : List Int} (hz : xs.length ≤ 1000) (h : isBits xs = true) : callF P (n + 2) 1 [.own (T xs)] = .ok (.g .non, []) := by
  refine run_next (b := b1) (ns := 1) (ρ := [.own (T xs)]) rfl rfl ?_ rfl
  simp [b1, doCall, hasB, toArgs, f0 n hz, giveBack, h]
theorem f1x (n : Nat) {xs : List Int} (hz : xs.length ≤ 1000) (h : isBits xs = false) : callF P (n + 2) 1 [.own (T xs)] = .exc 0 := by
  have : callF P (n + 2) 1 [.own (T xs)] = runFn (callF P (n + 1)) ⟨1, 1, b1⟩ [.own (T xs)] := id rfl
  rw [this]
  unfold runFn
  simp [b1, doCall, hasB, toArgs, f0 n hz, giveBack, h]
/-- nothing -/
theorem f2 (n : Nat) {k : Nat} (hz : k ≤ 1000) : callF P (n + 1) 2 [.own (I k)] = .ok (T (List.replicate k 0), []) := by
  refine run_of (b := b2) (ns := 1) (ρ := [.own (I k)]) rfl rfl ?_ rfl
  simp [b2, gsOf, line, mul_one _ _ hz]
/-- is_nothing -/
theorem f3 (n : Nat) (xs : List Int) : callF P (n + 1) 3 [.own (T xs)] = .ok (bl (!(xs.any fun y => y == 1)), []) := by
  refine run_of (b := b3) (ns := 1) (ρ := [.own (T xs)]) rfl rfl ?_ rfl
  simp [b3]
/-- sum_of -/
def sumOf (xs ys : List Int) : List Int := (List.range xs.length).map fun i => PySem.Builtin.bitXor (xs.getD i 0) (ys.getD i 0)
theorem f4 (n : Nat) {xs ys : List Int} (hl : xs.length = ys.length) (hz : xs.length ≤ 1000) : callF P (n + 1) 4 [.own (T xs), .own (T ys)] = .ok (T (sumOf xs ys), []) := by
  refine run_of (b := b4) (ns := 3) (ρ := [.own (T xs), .own (T ys), .no]) rfl rfl ?_ rfl
  simp [b4, b62_n hz]
  rw [compL_range 0 xs.length (fun i => [I (PySem.Builtin.bitXor (xs.getD i 0) (ys.getD i 0))])]
  · simp [flat_single, line_le hz, sumOf, Function.comp_def]
  · intro i hi
    have hj : i < ys.length := by omega
    simp [ix_g, hi, hj]
/-- common_bits -/
def comOf (xs ys : List Int) : List Int := (List.range xs.length).map fun i => PySem.Builtin.bitAnd (xs.getD i 0) (ys.getD i 0)
theorem f6 (n : Nat) {xs ys : List Int} (hl : xs.length = ys.length) (hz : xs.length ≤ 1000) : callF P (n + 1) 6 [.own (T xs), .own (T ys)] = .ok (T (comOf xs ys), []) := by
  refine run_of (b := b6) (ns := 3) (ρ := [.own (T xs), .own (T ys), .no]) rfl rfl ?_ rfl
  simp [b6, b62_n hz]
  rw [compL_range 0 xs.length (fun i => [I (PySem.Builtin.bitAnd (xs.getD i 0) (ys.getD i 0))])]
  · simp [flat_single, line_le hz, comOf, Function.comp_def]
  · intro i hi
    have hj : i < ys.length := by omega
    simp [ix_g, hi, hj]
/-- do_meet -/
theorem f7 (n : Nat) {xs ys : List Int} (hl : xs.length = ys.length) (hz : xs.length ≤ 1000) : callF P (n + 2) 7 [.own (T xs), .own (T ys)] = .ok (bl ((comOf xs ys).sum % 2 == 1), []) := by
  refine run_of (b := b7) (ns := 2) (ρ := [.own (T xs), .own (T ys)]) rfl rfl ?_ rfl
  simp [b7, doCall, hasB, toArgs, f6 n hl hz, giveBack, mod_ii]
/-- ones_of -/
def onesOf (xs : List Int) : List Int := ((List.range xs.length).filter fun i => xs.getD i 0 == 1).map fun i : Nat => (i : Int)
theorem f8 (n : Nat) {xs : List Int} (hz : xs.length ≤ 1000) : callF P (n + 1) 8 [.own (T xs)] = .ok (T (onesOf xs), []) := by
  refine run_of (b := b8) (ns := 2) (ρ := [.own (T xs), .no]) rfl rfl ?_ rfl
  simp [b8, b62_n hz]
  rw [compL_range 0 xs.length (fun i => if (xs.getD i 0 == 1) then [I i] else [])]
  · have : ((List.range xs.length).filter fun i => xs.getD i 0 == 1).length ≤ line := Nat.le_trans (List.length_filter_le _ _) (by simpa using line_le hz)
    rw [flat_if]
    simp only [ok_bind, List.length_map, if_pos this, deref_v, tuple_of, take_v, onesOf, List.set]
    simp only [T, List.map_map, Function.comp_def]
  · intro i hi
    simp [ix_g, hi]
    split <;> simp
/-- row_of -/
def rowOf (ps : List Int) (k : Nat) : List Int := (List.range k).map fun i : Nat => if ps.any (fun y => y == (i : Int)) then 1 else 0
theorem f9 (n : Nat) (ps : List Int) {k : Nat} (hz : k ≤ 1000) : callF P (n + 1) 9 [.own (T ps), .own (I k)] = .ok (T (rowOf ps k), []) := by
  refine run_of (b := b9) (ns := 3) (ρ := [.own (T ps), .own (I k), .no]) rfl rfl ?_ rfl
  simp [b9, b62_n hz]
  rw [compL_range 0 k (fun i => [I (if ps.any (fun y => y == (i : Int)) then 1 else 0)])]
  · simp [flat_single, line_le hz, rowOf, Function.comp_def]
  · intro i hi
    simp
/-- weight_of -/
theorem f10 (n : Nat) (xs : List Int) : callF P (n + 1) 10 [.own (T xs)] = .ok (I (xs.countP fun y => y == 1), []) := by
  refine run_of (b := b10) (ns := 1) (ρ := [.own (T xs)]) rfl rfl ?_ rfl
  simp [b10, count_ints]
/-- head_of -/
def headOf (xs : List Int) : G := match xs.findIdx? (fun y => y == 1) with
  | some k => .int k
  | none => .non
theorem f11 (n : Nat) (xs : List Int) : callF P (n + 1) 11 [.own (T xs)] = .ok (.g (headOf xs), []) := by
  refine run_of (b := b11) (ns := 1) (ρ := [.own (T xs)]) rfl rfl ?_ rfl
  cases h : xs.findIdx? (fun y => y == 1) with
  | none =>
    have : (xs.any fun y => y == 1) = false := by
      rw [List.findIdx?_eq_none_iff] at h
      simpa using h
    simp [b11, this, headOf, h]
  | some k =>
    have : (xs.any fun y => y == 1) = true := by
      have := List.findIdx?_isSome (xs := xs) (p := fun y => y == (1 : Int))
      rw [h] at this
      simpa using this.symm
    simp [b11, this, headOf, h, index_ints xs 1 h]
/-- opposite_of -/
theorem f12 (n : Nat) {xs : List Int} (hz : xs.length ≤ 1000) : callF P (n + 1) 12 [.own (T xs)] = .ok (T (xs.map fun x => 1 - x), []) := by
  refine run_of (b := b12) (ns := 2) (ρ := [.own (T xs), .no]) rfl rfl ?_ rfl
  simp [b12]
  rw [compL_map (R.g ∘ G.int) (fun x => [I (1 - x)])]
  · simp [flat_single, line_le hz, Function.comp_def]
  · intro x _
    simp
/-- _law_sum -/
def lawSum (xs ys : List Int) : List Int := (List.range xs.length).map fun i => if xs.getD i 0 == ys.getD i 0 then 0 else 1
theorem f19 (n : Nat) {xs ys : List Int} (hl : xs.length = ys.length) (hz : xs.length ≤ 1000) : callF P (n + 1) 19 [.own (T xs), .own (T ys)] = .ok (T (lawSum xs ys), []) := by
  refine run_of (b := b19) (ns := 3) (ρ := [.own (T xs), .own (T ys), .no]) rfl rfl ?_ rfl
  simp [b19, b62_n hz]
  rw [compL_range 0 xs.length (fun i => [I (if xs.getD i 0 == ys.getD i 0 then 0 else 1)])]
  · simp [flat_single, line_le hz, lawSum, Function.comp_def]
  · intro i hi
    have hj : i < ys.length := by omega
    simp [ix_g, hi, hj]
/-- _law_take -/
theorem f16 (n : Nat) (ds : List Int) {m : Int} (hm : 0 < m) : ∃ x ds', 0 ≤ x ∧ x < m ∧ callF P (n + 1) 16 [.arg (L ds), .own (I m)] = .ok (I x, [L ds']) := by
  rcases List.eq_nil_or_concat ds with rfl | ⟨es, y, rfl⟩
  · refine ⟨0, [], Int.le_refl 0, hm, run_of (b := b16) (ns := 2) (ρ := [.arg (L []), .own (I m)]) rfl rfl ?_ rfl⟩
    simp [b16]
  · refine ⟨y % m, es, Int.emod_nonneg _ (by omega), Int.emod_lt_of_pos _ hm, run_of (b := b16) (ns := 2) (ρ := [.arg (L es), .own (I m)]) rfl rfl ?_ rfl⟩
    have hne : ¬ ((es.length : Int) + 1 = 0) := by omega
    simp [b16, mutL, putL, hne, mod_ii _ _ hm]
/-- _law_bits -/
theorem f20 (n : Nat) (ds : List Int) {k : Nat} (hz : k ≤ 1000) : ∃ row ds', isBits row = true ∧ row.length = k ∧ callF P (n + 2) 20 [.arg (L ds), .own (I k)] = .ok (T row, [L ds']) := by
  obtain ⟨ys, ρ', e, row, ds', e1, e2, e3, e4⟩ := compL_inv (turn := compT (.var 2) true (ev (callF P (n + 1)) .nil) (ev (callF P (n + 1)) (.call 16 (.cons (.var 0) (.cons (.k (.int 2)) .nil))))) (ρ := [.arg (L ds), .own (I k), .no]) k
    (fun i ys ρ => ∃ row ds', ys = row.map (fun x => R.g (.int x)) ∧ ρ = [.arg (L ds'), .own (I k), .no] ∧ isBits row = true ∧ row.length = i) ⟨[], ds, rfl, rfl, rfl, rfl⟩ (fun i _ ys ρ ⟨row, ds', e1, e2, e3, e4⟩ => by
      obtain ⟨x, ds2, h1, h2, e⟩ := f16 n ds' (m := 2) (by omega)
      subst e1 e2
      refine ⟨[I x], [.arg (L ds2), .own (I k), .no], ?_, row ++ [x], ds2, by simp, rfl, ?_, by simp [e4]⟩
      · simp [doCall, hasB, toArgs, giveBack, likeS, e]
      · have : x = 0 ∨ x = 1 := by omega
        unfold isBits at e3 ⊢
        rw [List.all_append, e3]
        rcases this with rfl | rfl <;> rfl)
  subst e1 e2
  refine ⟨row, ds', e3, e4, run_of (b := b20) (ns := 3) (ρ := [.arg (L ds'), .own (I k), .no]) rfl rfl ?_ rfl⟩
  simp [b20, b62_n hz]
  have e' : compL (compT (.var 2) true (ev (callF P (n + 1)) .nil) (ev (callF P (n + 1)) (.call 16 (.cons (.var 0) (.cons (.k (.int 2)) .nil))))) (rangeL 0 k) [.arg (L ds), .own (I k), .no] = .ok (row.map (fun x => R.g (.int x)), [.arg (L ds'), .own (I k), .no]) := e
  have hr : row.length ≤ 1000 := by omega
  erw [e']
  simp [line_le hr]
abbrev TT (rows : List (List Int)) : R := .g (.tup (rows.map fun r => G.tup (r.map G.int)))
theorem sumOf_len (xs ys : List Int) : (sumOf xs ys).length = xs.length := by simp [sumOf]
/-- sum_of_rows -/
theorem f5 (n : Nat) {rows : List (List Int)} {k : Nat} (hz : k ≤ 1000) (h : ∀ r ∈ rows, r.length = k) : callF P (n + 2) 5 [.own (TT rows), .own (I k)] = .ok (T (rows.foldl sumOf (List.replicate k 0)), []) := by
  obtain ⟨ρ', e, he⟩ := forL_list (turn := turnF (.var 3) (exec (callF P (n + 1)) (.set 2 (.call 4 (.cons (.var 2) (.cons (.var 3) .nil)))))) (ρ0 := [.own (TT rows), .own (I k), .own (T (List.replicate k 0)), .no]) (fun r => T r)
    (fun rem ρ => ∃ found, ρ = [.own (TT rows), .own (I k), .own (T found), .no] ∧ found.length = k ∧ (∀ r ∈ rem, r.length = k) ∧ rem.foldl sumOf found = rows.foldl sumOf (List.replicate k 0))
    (fun r rem ρ ⟨found, e1, e2, e3, e4⟩ => by
      subst e1
      refine ⟨[.own (TT rows), .own (I k), .own (T (sumOf found r)), .own (T r)], ?_, sumOf found r, rfl, by rw [sumOf_len]; exact e2, fun r' h' => e3 r' (List.mem_cons_of_mem _ h'), e4⟩
      have hl : found.length = r.length := by rw [e2, e3 r List.mem_cons_self]
      simp [turnF, doCall, hasB, toArgs, giveBack, f4 n hl (by omega)])
    rows _ ⟨List.replicate k 0, rfl, by simp, h, rfl⟩
  obtain ⟨found, e1, e2, e3, e4⟩ := he
  have e4 : found = rows.foldl sumOf (List.replicate k 0) := e4
  rw [e1] at e
  rw [← e4]
  refine run_of (b := b5) (ns := 4) (ρ := [.own (TT rows), .own (I k), .own (T found), .no]) rfl rfl ?_ rfl
  simp [b5, doCall, hasB, toArgs, giveBack, f2 n hz]
  erw [e]
  simp [unl]
/-- _law_meet -/
def lawMeet (xs ys : List Int) : Int := (((List.range xs.length).filter fun i => xs.getD i 0 == 1 && ys.getD i 0 == 1).length : Int) % 2
theorem f22 (n : Nat) {xs ys : List Int} (hl : xs.length = ys.length) (hz : xs.length ≤ 1000) : callF P (n + 1) 22 [.own (T xs), .own (T ys)] = .ok (I (lawMeet xs ys), []) := by
  refine run_of (b := b22) (ns := 3) (ρ := [.own (T xs), .own (T ys), .no]) rfl rfl ?_ rfl
  simp [b22, b62_n hz]
  rw [compL_range 0 xs.length (fun i => if (xs.getD i 0 == 1 && ys.getD i 0 == 1) then [I i] else [])]
  · have : ((List.range xs.length).filter fun i => xs.getD i 0 == 1 && ys.getD i 0 == 1).length ≤ line := Nat.le_trans (List.length_filter_le _ _) (by simpa using line_le hz)
    rw [flat_if]
    simp only [ok_bind, List.length_map, if_pos this, deref_v, len_lst, List.set, mb_mod, mod_ii _ _ (show (0 : Int) < 2 by omega), int_int, take_v, lawMeet]
    rfl
  · intro i hi
    have hj : i < ys.length := by omega
    simp [ix_g, hi, hj]
    by_cases h1 : xs[i] = 1 <;> by_cases h2 : ys[i] = 1 <;> simp [h1, h2, hj]
/-- values that _law_same takes -/
def plain : G → Prop
  | .str _ => False
  | .tup xs => xs.length ≤ 1000 ∧ ∀ x ∈ xs, plain x
  | _ => True
theorem dep_mem {xs : List G} {x : G} (h : x ∈ xs) : x.dep ≤ G.deps xs := by
  induction xs with
  | nil => cases h
  | cons y ys ih =>
    show _ ≤ max y.dep (G.deps ys)
    rcases List.mem_cons.mp h with e | e
    · subst e; omega
    · have := ih e; omega
/-- _law_same -/
theorem f18 : ∀ (d : Nat) (v : G), v.dep ≤ d → plain v → ∀ n, callF P (n + d + 1) 18 [.own (.g v), .own (.g v)] = .ok (bl true, []) := by
  intro d
  induction d with
  | zero =>
    intro v hd hp n
    cases v with
    | non => exact run_of (b := b18) (ns := 3) (ρ := [.own (.g .non), .own (.g .non), .no]) rfl rfl (by simp [b18, isiop]) rfl
    | bl b => exact run_of (b := b18) (ns := 3) (ρ := [.own (.g (.bl b)), .own (.g (.bl b)), .no]) rfl rfl (by simp [b18, isiop, cmpop, pyEq, fit, G.lay, G.dep, G.eqv]) rfl
    | int i => exact run_of (b := b18) (ns := 3) (ρ := [.own (I i), .own (I i), .no]) rfl rfl (by simp [b18, isiop]) rfl
    | str s => unfold plain at hp; exact hp.elim
    | tup xs => exact absurd hd (by show ¬ G.deps xs + 1 ≤ 0; omega)
  | succ d ih =>
    intro v hd hp n
    cases v with
    | non => exact run_of (b := b18) (ns := 3) (ρ := [.own (.g .non), .own (.g .non), .no]) rfl rfl (by simp [b18, isiop]) rfl
    | bl b => exact run_of (b := b18) (ns := 3) (ρ := [.own (.g (.bl b)), .own (.g (.bl b)), .no]) rfl rfl (by simp [b18, isiop, cmpop, pyEq, fit, G.lay, G.dep, G.eqv]) rfl
    | int i => exact run_of (b := b18) (ns := 3) (ρ := [.own (I i), .own (I i), .no]) rfl rfl (by simp [b18, isiop]) rfl
    | str s => unfold plain at hp; exact hp.elim
    | tup xs =>
      unfold plain at hp
      have hd : G.deps xs + 1 ≤ d + 1 := hd
      obtain ⟨ρ', e, he⟩ := forL_range (turn := turnF (.var 2) (exec (callF P (n + (d + 1))) (.ifs (.not (.call 18 (.cons (.ix (.var 0) (.var 2)) (.cons (.ix (.var 1) (.var 2)) .nil)))) (.ret (.k (.bl false))) .skip))) (ρ0 := [.own (.g (.tup xs)), .own (.g (.tup xs)), .no]) xs.length
        (fun i ρ => ρ = [.own (.g (.tup xs)), .own (.g (.tup xs)), .no]) rfl (fun i hi ρ e1 => by
          subst e1
          have hm : xs[i] ∈ xs := List.getElem_mem hi
          refine ⟨[.own (.g (.tup xs)), .own (.g (.tup xs)), .own (I i)], ?_, rfl⟩
          have c := ih xs[i] (by have := dep_mem hm; omega) (hp.2 _ hm) n
          simp [turnF, ix_g, hi, doCall, hasB, toArgs, giveBack, c, show n + (d + 1) = n + d + 1 from rfl])
      subst he
      refine run_of (b := b18) (ns := 3) (ρ := [.own (.g (.tup xs)), .own (.g (.tup xs)), .no]) rfl rfl ?_ rfl
      simp [b18, isiop, b62_n hp.1]
      erw [e]
      simp [unl, bl]
/-- _law_is_refused -/
theorem f23 (n : Nat) {xs : List Int} (hz : xs.length ≤ 1000) (h : isBits xs = false) : callF P (n + 3) 23 [.own (T xs)] = .ok (bl true, []) := by
  refine run_of (b := b23) (ns := 2) (ρ := [.own (T xs), .no]) rfl rfl ?_ rfl
  have : exec (callF P (n + 2)) (.tryx (.call 1 (.cons (.var 0) .nil)) [(0, some true)]) [.own (T xs), .no] = .ok (.ret (bl true) [.own (T xs), .no]) := by
    unfold exec
    simp [doCall, hasB, toArgs, f1x n hz h, dropL, bl]
  simp [b23, this]
/-- bit_changed -/
theorem f13 (n : Nat) {xs : List Int} {p : Nat} (hz : xs.length ≤ 1000) (hp : p < xs.length) : callF P (n + 1) 13 [.own (T xs), .own (I p)] = .ok (T (xs.take p ++ [1 - xs.getD p 0] ++ xs.drop (p + 1)), []) := by
  refine run_of (b := b13) (ns := 2) (ρ := [.own (T xs), .own (I p)]) rfl rfl ?_ rfl
  have hl : p ≤ (xs.map G.int).length := by rw [List.length_map]; omega
  have hl2 : p + 1 ≤ (xs.map G.int).length := by rw [List.length_map]; omega
  have a1 := add_gg ((xs.map G.int).take p) [G.int (1 - xs[p])] (line_le (by simp; omega))
  have a2 := add_gg ((xs.map G.int).take p ++ [G.int (1 - xs[p])]) ((xs.map G.int).drop (p + 1)) (line_le (by simp; omega))
  simp [b13, optE_e, ix_g, hp, cut_to hl, cut_from1 hl2, gsOf, line, a1, a2]
/-- _law_cell -/
theorem f17 (n : Nat) (ns : List Int) : ∃ c, callF P (n + 1) 17 [.bor (L ns)] = .ok (I c, []) := by
  cases ns with
  | nil => exact ⟨0, run_of (b := b17) (ns := 2) (ρ := [.bor (L []), .no]) rfl rfl (by simp [b17]) rfl⟩
  | cons a ns =>
    refine ⟨(if a < 0 then -a else a) % 10 ^ 30 * (if a < 0 then -1 else 1), run_of (b := b17) (ns := 2) (ρ := [.bor (L (a :: ns)), .own (I a)]) rfl rfl ?_ rfl⟩
    have hne : ¬ ((ns.length : Int) + 1 = 0) := by omega
    have h0 : ixop true (L (a :: ns)) (.g (.int 0)) = .ok (.v (I a)) := ix_L (xs := a :: ns) (i := 0) (by simp) true
    by_cases h : a < 0
    · have h1 : ixop true (.lst [I 1, I (-1)]) (.g (.int 1)) = .ok (.v (I (-1))) := ix_L (xs := [1, -1]) (i := 1) (by simp) true
      have h2 := mul_ii (-a % 10 ^ 30) (-1) (by simp [i64])
      simp [b17, hne, h0, h, mod_ii, rsOf, line, h1]
      rw [mul_ii _ _ (by simp [i64])]
      simp
    · have h1 : ixop true (.lst [I 1, I (-1)]) (.g (.int 0)) = .ok (.v (I 1)) := ix_L (xs := [1, -1]) (i := 0) (by simp) true
      have h2 := mul_ii (a % 10 ^ 30) 1 (by simp [i64])
      simp [b17, hne, h0, h, mod_ii, rsOf, line, h1]
      rw [mul_ii _ _ (by simp [i64])]
      simp
def lb15 : S := (.seq (.set 6 (.bin .mod (.var 5) (.b1 .len (.var 2))))
  (.ifs (.and (.cmp (.ix (.var 2) (.var 6)) (.cc .ge (.bin .pow (.k (.int 10)) (.k (.int 18))) .nil)) (.cmp (.ix (.var 3) (.var 6)) (.cc .gt (.k (.int 0)) .nil))) (.seq (.app 4 (.bin .mod (.b1 .int (.ix (.var 3) (.var 6))) (.k (.int 1000))))
  (.setix 3 (.var 6) (.bin .fdiv (.ix (.var 3) (.var 6)) (.k (.int 1000))))) (.seq (.set 8 (.bin .mod (.b1 .int (.bin .add (.bin .add (.bin .mul (.ix (.var 2) (.var 6)) (.k (.int 48271))) (.bin .mul (.var 5) (.k (.int 69621)))) (.k (.int 11)))) (.k (.int 2147483647))))
  (.app 4 (.bin .mod (.b1 .int (.bin .add (.bin .add (.bin .mul (.var 8) (.var 8)) (.bin .mul (.k (.int 3)) (.var 8))) (.var 5))) (.k (.int 1000003)))))))
/-- _law_draws -/
theorem f15 (n : Nat) (ns : List Int) (hl : ns.length ≤ 63) : ∃ ds, callF P (n + 1) 15 [.bor (L ns), .own (I 200)] = .ok (L ds, []) := by
  -- the cells
  have hc : ∃ cells : List Int, cells.length ≤ 1000 ∧ 0 < cells.length ∧ ∀ rest : S, exec (callF P n) (.seq (.set 2 (.comp (.b1 .int (.var 7)) (.var 7) (.it (.var 0)) .nil)) (.seq (.ifs (.cmp (.b1 .len (.var 2)) (.cc .eq (.k (.int 0)) .nil)) (.app 2 (.k (.int 0))) .skip) rest)) [.bor (L ns), .own (I 200), .no, .no, .no, .no, .no, .no, .no] = exec (callF P n) rest [.bor (L ns), .own (I 200), .own (L cells), .no, .no, .no, .no, .no, .no] := by
    have e := compL_map (turn := compT (.var 7) true (ev (callF P n) .nil) (ev (callF P n) (.b1 .int (.var 7)))) (ρ := [.bor (L ns), .own (I 200), .no, .no, .no, .no, .no, .no, .no]) (fun i => R.g (.int i)) (fun i => [R.g (.int i)]) ns (fun i _ => by simp)
    cases ns with
    | nil => exact ⟨[0], by simp, by simp, fun rest => by
        simp [compL, line]
        rfl⟩
    | cons a ns =>
      refine ⟨a :: ns, by omega, by simp, fun rest => ?_⟩
      have hne : ¬ ((ns.length : Int) + 1 = 0) := by omega
      have hz : ns.length + 1 ≤ line := line_le (by simp at hl; omega)
      rw [flat_single] at e
      simp
      erw [e]
      simp [hz, hne]
      rfl
  obtain ⟨cells, c1, c2, c3⟩ := hc
  obtain ⟨ρ', e, rest, dr, e1, e2, e3⟩ := forL_range (turn := turnF (.var 5) (exec (callF P n) lb15)) (ρ0 := [.bor (L ns), .own (I 200), .own (L cells), .own (L cells), .own (L []), .no, .no, .no, .no]) 200
    (fun i ρ => ∃ rest dr : List Int, ρ = [.bor (L ns), .own (I 200), .own (L cells), .own (L rest), .own (L dr), .no, .no, .no, .no] ∧ rest.length = cells.length ∧ dr.length = i) ⟨cells, [], rfl, rfl, rfl⟩ (fun i hi ρ ⟨rest, dr, e1, e2, e3⟩ => by
      subst e1
      have hat : i % cells.length < cells.length := Nat.mod_lt _ c2
      have hat2 : i % cells.length < rest.length := by rw [e2]; exact hat
      have hz : dr.length < line := Nat.lt_of_lt_of_le (by omega : dr.length < 1000) (line_le (Nat.le_refl _))
      have hpos : (0 : Int) < (cells.length : Int) := by omega
      have x1 : ixop true (L cells) (.g (.int ((i : Int) % (cells.length : Int)))) = .ok (.v (I cells[i % cells.length])) := by rw [cmod]; exact ix_L hat true
      have x2 : ixop true (L rest) (.g (.int ((i : Int) % (cells.length : Int)))) = .ok (.v (I rest[i % cells.length])) := by rw [cmod]; exact ix_L hat2 true
      have x3 : L2.ixN rest.length ((i : Int) % (cells.length : Int)) = some (i % cells.length) := by rw [cmod]; exact ixN_of hat2
      have m1 := fun a : Int => mod_ii a 1000 (by omega)
      have m2 := fun a : Int => mod_ii a 2147483647 (by omega)
      have m3 := fun a : Int => mod_ii a 1000003 (by omega)
      have f1 := fun a : Int => fdiv_ii a 1000 (by omega)
      generalize hc : cells[i % cells.length] = c at x1
      generalize hr : rest[i % cells.length] = r at x2
      by_cases h1 : 10 ^ 18 ≤ c
      · by_cases h2 : 0 < r
        · refine ⟨[.bor (L ns), .own (I 200), .own (L cells), .own (L (rest.set (i % cells.length) (r / 1000))), .own (L (dr ++ [r % 1000])), .own (I i), .own (I ((i : Int) % (cells.length : Int))), .no, .no], ?_, _, _, rfl, by simpa using e2, by simp [e3]⟩
          simp at h1
          simp [turnF, lb15, mod_ii _ _ hpos, x1, x2, x3, m1, f1, h1, h2, hz]
        · have q1 : i64 ((c * 48271 + (i : Int) * 69621 + 11) % 2147483647) = true := by
            have a1 := Int.emod_nonneg (c * 48271 + (i : Int) * 69621 + 11) (show (2147483647 : Int) ≠ 0 by omega)
            have a2 := Int.emod_lt_of_pos (c * 48271 + (i : Int) * 69621 + 11) (show (0 : Int) < 2147483647 by omega)
            unfold i64
            simp only [Bool.and_eq_true, decide_eq_true_eq]
            omega
          have m6 := mul_ii ((c * 48271 + (i : Int) * 69621 + 11) % 2147483647) ((c * 48271 + (i : Int) * 69621 + 11) % 2147483647) (by rw [q1]; rfl)
          have m7 := mul_ii 3 ((c * 48271 + (i : Int) * 69621 + 11) % 2147483647) (by simp [i64])
          have m4 := fun a : Int => mul_ii a 48271 (by simp [i64])
          have m5 := fun a : Int => mul_ii a 69621 (by simp [i64])
          generalize ho : (c * 48271 + (i : Int) * 69621 + 11) % 2147483647 = o at m6 m7
          refine ⟨[.bor (L ns), .own (I 200), .own (L cells), .own (L rest), .own (L (dr ++ [(o * o + 3 * o + (i : Int)) % 1000003])), .own (I i), .own (I ((i : Int) % (cells.length : Int))), .no, .own (I o)], ?_, rest, _, rfl, e2, by simp [e3]⟩
          simp at h1
          simp [turnF, lb15, mod_ii _ _ hpos, x1, x2, m1, m2, m3, m4, m5, m6, m7, ho, h1, h2, hz]
      · have q1 : i64 ((c * 48271 + (i : Int) * 69621 + 11) % 2147483647) = true := by
          have a1 := Int.emod_nonneg (c * 48271 + (i : Int) * 69621 + 11) (show (2147483647 : Int) ≠ 0 by omega)
          have a2 := Int.emod_lt_of_pos (c * 48271 + (i : Int) * 69621 + 11) (show (0 : Int) < 2147483647 by omega)
          unfold i64
          simp only [Bool.and_eq_true, decide_eq_true_eq]
          omega
        have m6 := mul_ii ((c * 48271 + (i : Int) * 69621 + 11) % 2147483647) ((c * 48271 + (i : Int) * 69621 + 11) % 2147483647) (by rw [q1]; rfl)
        have m7 := mul_ii 3 ((c * 48271 + (i : Int) * 69621 + 11) % 2147483647) (by simp [i64])
        have m4 := fun a : Int => mul_ii a 48271 (by simp [i64])
        have m5 := fun a : Int => mul_ii a 69621 (by simp [i64])
        generalize ho : (c * 48271 + (i : Int) * 69621 + 11) % 2147483647 = o at m6 m7
        refine ⟨[.bor (L ns), .own (I 200), .own (L cells), .own (L rest), .own (L (dr ++ [(o * o + 3 * o + (i : Int)) % 1000003])), .own (I i), .own (I ((i : Int) % (cells.length : Int))), .no, .own (I o)], ?_, rest, _, rfl, e2, by simp [e3]⟩
        simp at h1
        have h1' : ¬ (1000000000000000000 ≤ c) := by omega
        simp [turnF, lb15, mod_ii _ _ hpos, x1, x2, m1, m2, m3, m4, m5, m6, m7, ho, h1', hz]
          )
  subst e1
  refine ⟨dr.reverse, run_of (b := b15) (ns := 9) (ρ := [.bor (L ns), .own (I 200), .own (L cells), .own (L rest), .no, .no, .no, .no, .no]) rfl rfl ?_ rfl⟩
  show exec (callF P n) (.seq (.set 2 (.comp (.b1 .int (.var 7)) (.var 7) (.it (.var 0)) .nil)) (.seq (.ifs (.cmp (.b1 .len (.var 2)) (.cc .eq (.k (.int 0)) .nil)) (.app 2 (.k (.int 0))) .skip) (.seq (.set 3 (.b1 .list (.var 2))) (.seq (.set 4 (.lst .nil)) (.seq (.for_ (.var 5) (.rng1 (.var 1)) lb15) (.seq (.rev 4) (.ret (.var 4)))))))) [.bor (L ns), .own (I 200), .no, .no, .no, .no, .no, .no, .no] = _
  rw [c3]
  have b200 : b62 200 = true := by decide
  simp [rsOf, line, b200]
  erw [e]
  simp [unl]
end K00
/-! K1: rows of bits, in plain lists. -/
namespace K00
open Pv
theorem bit_at {xs : List Int} (h : isBits xs = true) (i : Nat) : xs.getD i 0 = 0 ∨ xs.getD i 0 = 1 := by
  rw [List.getD_eq_getElem?_getD]
  cases e : xs[i]? with
  | none => exact .inl rfl
  | some x =>
    have hm := List.mem_of_getElem? e
    unfold isBits at h
    rw [List.all_eq_true] at h
    have := h x hm
    simp at this
    rcases this with q | q
    · exact .inl q.symm
    · exact .inr q.symm
theorem bit_mem {xs : List Int} (h : isBits xs = true) {x : Int} (hm : x ∈ xs) : x = 0 ∨ x = 1 := by
  unfold isBits at h
  rw [List.all_eq_true] at h
  have := h x hm
  simp at this
  rcases this with q | q
  · exact .inl q.symm
  · exact .inr q.symm
theorem sum_law {xs ys : List Int} (hx : isBits xs = true) (hy : isBits ys = true) : sumOf xs ys = lawSum xs ys := by
  unfold sumOf lawSum
  refine List.map_congr_left fun i _ => ?_
  rcases bit_at hx i with a | a <;> rcases bit_at hy i with b | b <;> rw [a, b] <;> rfl
def bothOf (xs ys : List Int) : List Int := (List.range xs.length).map fun i => if xs.getD i 0 == 1 && ys.getD i 0 == 1 then 1 else 0
theorem com_law {xs ys : List Int} (hx : isBits xs = true) (hy : isBits ys = true) : comOf xs ys = bothOf xs ys := by
  unfold comOf bothOf
  refine List.map_congr_left fun i _ => ?_
  rcases bit_at hx i with a | a <;> rcases bit_at hy i with b | b <;> rw [a, b] <;> rfl
theorem sum_if {α : Type} (p : α → Bool) (l : List α) : (l.map fun i => if p i then (1 : Int) else 0).sum = ((l.filter p).length : Int) := by
  induction l with
  | nil => rfl
  | cons a l ih => cases h : p a <;> simp [h, ih] <;> omega
theorem meet_law {xs ys : List Int} (hx : isBits xs = true) (hy : isBits ys = true) : ((comOf xs ys).sum % 2 == 1) = (lawMeet xs ys == 1) := by
  rw [com_law hx hy]
  unfold bothOf lawMeet
  rw [sum_if (fun i => xs.getD i 0 == 1 && ys.getD i 0 == 1)]
theorem lawSum_bits (xs ys : List Int) : isBits (lawSum xs ys) = true := by
  unfold isBits lawSum
  rw [List.all_map, List.all_eq_true]
  intro i _
  simp only [Function.comp_def]
  split <;> rfl
theorem lawSum_len (xs ys : List Int) : (lawSum xs ys).length = xs.length := by simp [lawSum]
theorem zeros_bits (k : Nat) : isBits (List.replicate k 0) = true := by
  unfold isBits
  rw [List.all_eq_true]
  intro x hx
  rw [List.eq_of_mem_replicate hx]; rfl
/-- places with 1 -/
theorem ones_cons (x : Int) (xs : List Int) : onesOf (x :: xs) = (if x == 1 then [0] else []) ++ (onesOf xs).map (· + 1) := by
  unfold onesOf
  rw [List.length_cons, List.range_succ_eq_map, List.filter_cons]
  have e : ((List.map Nat.succ (List.range xs.length)).filter fun i => (x :: xs).getD i 0 == 1) = ((List.range xs.length).filter fun i => xs.getD i 0 == 1).map Nat.succ := by
    rw [List.filter_map]
    congr 1
  rw [e]
  have e2 : ((x :: xs).getD 0 0 == 1) = (x == 1) := rfl
  rw [e2]
  cases h : x == 1 <;> simp [List.map_map, Function.comp_def]
theorem ones_len (xs : List Int) : (onesOf xs).length = xs.countP fun y => y == 1 := by
  induction xs with
  | nil => rfl
  | cons x xs ih => rw [ones_cons, List.countP_cons]; cases h : x == 1 <;> simp [ih] <;> omega
theorem ones_any (xs : List Int) : (!(xs.any fun y => y == 1)) = (((onesOf xs).length : Int) == 0) := by
  rw [ones_len]
  induction xs with
  | nil => rfl
  | cons x xs ih =>
    rw [List.any_cons, List.countP_cons]
    cases h : x == 1
    · simpa using ih
    · simp; omega
theorem ones_head (xs : List Int) : ((onesOf xs).map G.int ++ [G.non])[0]? = some (headOf xs) := by
  induction xs with
  | nil => rfl
  | cons x xs ih =>
    rw [ones_cons]
    unfold headOf
    rw [List.findIdx?_cons]
    cases h : x == 1
    · simp only [Bool.false_eq_true, if_false, List.nil_append]
      unfold headOf at ih
      cases e : onesOf xs with
      | nil =>
        rw [e] at ih
        cases e2 : xs.findIdx? fun y => y == 1 with
        | none => rfl
        | some k => rw [e2] at ih; simp at ih
      | cons a l =>
        rw [e] at ih
        cases e2 : xs.findIdx? fun y => y == 1 with
        | none => rw [e2] at ih; simp at ih
        | some k => rw [e2] at ih; simp at ih ⊢; omega
    · simp
theorem row_law {xs : List Int} (hx : isBits xs = true) : rowOf (onesOf xs) xs.length = xs := by
  unfold rowOf
  refine List.ext_getElem (by simp) fun i h1 h2 => ?_
  rw [List.getElem_map, List.getElem_range]
  have e : xs.getD i 0 = xs[i] := by simp [h2]
  have key : ((onesOf xs).any fun y => y == (i : Int)) = (xs.getD i 0 == 1) := by
    rw [Bool.eq_iff_iff]
    rw [List.any_eq_true]
    constructor
    · rintro ⟨y, hy, e2⟩
      unfold onesOf at hy
      obtain ⟨j, hj, rfl⟩ := List.mem_map.mp hy
      have : (j : Int) = i := by simpa using e2
      have : j = i := by omega
      subst this
      exact (List.mem_filter.mp hj).2
    · intro h
      exact ⟨i, List.mem_map.mpr ⟨i, List.mem_filter.mpr ⟨List.mem_range.mpr h2, h⟩, rfl⟩, by simp⟩
  rw [key, e]
  have := bit_at hx i
  rw [e] at this
  rcases this with q | q <;> rw [q] <;> rfl
theorem opp_law {xs : List Int} (hx : isBits xs = true) : (xs.map fun x => 1 - x) = xs.map fun x => if x == 0 then 1 else 0 := by
  refine List.map_congr_left fun x hm => ?_
  rcases bit_mem hx hm with q | q <;> rw [q] <;> rfl
def chg (xs : List Int) (p : Nat) : List Int := (List.range xs.length).map fun j => if xs.getD j 0 == (if j == p then 1 else 0) then 0 else 1
theorem chg_law {xs : List Int} (hx : isBits xs = true) {p : Nat} (hp : p < xs.length) : xs.take p ++ [1 - xs.getD p 0] ++ xs.drop (p + 1) = chg xs p := by
  have e : xs.take p ++ [1 - xs.getD p 0] ++ xs.drop (p + 1) = xs.set p (1 - xs.getD p 0) := by
    rw [List.set_eq_take_append_cons_drop, if_pos hp]
    simp
  have ep : xs.getD p 0 = xs[p] := by simp [hp]
  rw [e, ep]
  unfold chg
  refine List.ext_getElem (by simp) fun i h1 h2 => ?_
  have hi : i < xs.length := by simpa using h1
  have ei : xs.getD i 0 = xs[i] := by simp [hi]
  rw [List.getElem_set, List.getElem_map, List.getElem_range, ei]
  have b := bit_at hx i
  rw [ei] at b
  by_cases h : p = i
  · subst h
    rcases b with q | q <;> simp [q]
  · have h' : ¬ i = p := fun z => h z.symm
    rcases b with q | q <;> simp [q, h, h']
end K00
/-! K2: _law_is_told. -/
namespace K00
open Pv
theorem dep_ints (xs : List Int) : (G.tup (xs.map G.int)).dep = 1 := by show G.deps _ + 1 = 1; rw [deps_ints]
theorem plain_ints {xs : List Int} (h : xs.length ≤ 1000) : plain (.tup (xs.map G.int)) := by
  unfold plain
  refine ⟨by simpa using h, fun x hx => ?_⟩
  obtain ⟨i, _, rfl⟩ := List.mem_map.mp hx
  unfold plain; trivial
theorem plain_int (i : Int) : plain (.int i) := by unfold plain; trivial
theorem plain_bl (i : Bool) : plain (.bl i) := by unfold plain; trivial
theorem plain_non : plain .non := by unfold plain; trivial
theorem dep_int (i : Int) : (G.int i).dep = 0 := rfl
theorem dep_bl (i : Bool) : (G.bl i).dep = 0 := rfl
theorem plain_cons {xs : List G} {x : G} (h : plain x) (t : plain (.tup xs)) (hl : xs.length < 1000) : plain (.tup (x :: xs)) := by
  unfold plain at t ⊢
  refine ⟨hl, fun y hy => ?_⟩
  rcases List.mem_cons.mp hy with e | e
  · exact e ▸ h
  · exact t.2 y e
theorem plain_tnil : plain (.tup []) := by unfold plain; exact ⟨by simp, fun x hx => by cases hx⟩
theorem plain_head (xs : List Int) : plain (headOf xs) ∧ (headOf xs).dep = 0 := by
  unfold headOf
  split
  · exact ⟨plain_int _, rfl⟩
  · exact ⟨plain_non, rfl⟩
/-- two alike -/
theorem same (n : Nat) {v : G} (h : plain v) (d : v.dep ≤ 3) : callF P (n + 4) 18 [.own (.g v), .own (.g v)] = .ok (bl true, []) := f18 3 v d h n
theorem both_len (xs ys : List Int) : (bothOf xs ys).length = xs.length := by simp [bothOf]
theorem com_len (xs ys : List Int) : (comOf xs ys).length = xs.length := by simp [comOf]
theorem ones_le (xs : List Int) : (onesOf xs).length ≤ xs.length := by rw [ones_len]; exact List.countP_le_length
theorem max_le3 {a b : Nat} (h : a ≤ 3) (k : b ≤ 3) : max a b ≤ 3 := Nat.max_le.mpr ⟨h, k⟩
/-- the parts of _law_is_told -/
def t1 : S := .ifs (.or (.cmp (.call 1 (.cons (.var 0) .nil)) (.cc .isnt (.k .non) .nil)) (.not (.call 18 (.cons (.tup (.cons (.call 4 (.cons (.var 0) (.cons (.var 1) .nil))) (.cons (.call 6 (.cons (.var 0) (.cons (.var 1) .nil))) (.cons (.call 7 (.cons (.var 0) (.cons (.var 1) .nil))) .nil)))) (.cons (.tup (.cons (.call 19 (.cons (.var 0) (.cons (.var 1) .nil))) (.cons (.var 3) (.cons (.cmp (.call 22 (.cons (.var 0) (.cons (.var 1) .nil))) (.cc .eq (.k (.int 1)) .nil)) .nil)))) .nil))))) (.ret (.k (.bl false))) .skip
theorem e1 (n : Nat) {xs ys : List Int} (hx : isBits xs = true) (hy : isBits ys = true) (hl : xs.length = ys.length) (hz : xs.length ≤ 1000) (a c d e f g : Slot) : exec (callF P (n + 5)) t1 [.own (T xs), .own (T ys), a, .own (T (bothOf xs ys)), c, d, e, f, g] = .ok (.next [.own (T xs), .own (T ys), a, .own (T (bothOf xs ys)), c, d, e, f, g]) := by
  have s1 := same (n + 1) (v := .tup [.tup ((sumOf xs ys).map G.int), .tup ((comOf xs ys).map G.int), .bl ((comOf xs ys).sum % 2 == 1)]) (plain_cons (plain_ints (by rw [sumOf_len]; exact hz)) (plain_cons (plain_ints (by rw [com_len]; exact hz)) (plain_cons (plain_bl _) plain_tnil (by simp)) (by simp)) (by simp)) (by
    show max (G.tup _).dep (max (G.tup _).dep (max 0 0)) + 1 ≤ 3
    rw [dep_ints, dep_ints]; omega)
  have c1 := f1 (n + 3) hz hx
  have c4 := f4 (n + 4) hl hz
  have c6 := f6 (n + 4) hl hz
  have c7 := f7 (n + 3) hl hz
  have c19 := f19 (n + 4) hl hz
  have c22 := f22 (n + 4) hl hz
  have m := meet_law hx hy
  have q1 := sum_law hx hy
  have q2 := com_law hx hy
  simp only [t1]
  simp [doCall, hasB, toArgs, giveBack, c1, c4, c6, c7, c19, c22, gsOf, line, bl]
  rw [← q1, ← q2, ← m]
  rw [show callF P (n + 5) 18 _ = _ from s1]
  simp [giveBack, bl]
/-- ones_of and what goes with it -/
def t2 : S := .ifs (.not (.call 18 (.cons (.tup (.cons (.call 8 (.cons (.var 0) .nil)) (.cons (.call 10 (.cons (.var 0) .nil)) (.cons (.call 11 (.cons (.var 0) .nil)) (.cons (.call 3 (.cons (.var 0) .nil)) .nil))))) (.cons (.tup (.cons (.var 4) (.cons (.b1 .len (.var 4)) (.cons (.ix (.bin .add (.var 4) (.tup (.cons (.k .non) .nil))) (.k (.int 0))) (.cons (.cmp (.b1 .len (.var 4)) (.cc .eq (.k (.int 0)) .nil)) .nil))))) .nil)))) (.ret (.k (.bl false))) .skip
theorem e2 (n : Nat) {xs : List Int} (hx : isBits xs = true) (hz : xs.length ≤ 999) (a b c d e f g : Slot) : exec (callF P (n + 5)) t2 [.own (T xs), a, b, c, .own (T (onesOf xs)), d, e, f, g] = .ok (.next [.own (T xs), a, b, c, .own (T (onesOf xs)), d, e, f, g]) := by
  have hz' : xs.length ≤ 1000 := by omega
  have ho := ones_le xs
  have s1 : callF P (n + 5) 18 [.own (.g (.tup [.tup ((onesOf xs).map G.int), .int (onesOf xs).length, headOf xs, .bl (((onesOf xs).length : Int) == 0)])), .own (.g (.tup [.tup ((onesOf xs).map G.int), .int (onesOf xs).length, headOf xs, .bl (((onesOf xs).length : Int) == 0)]))] = .ok (bl true, []) :=
    same (n + 1) (plain_cons (plain_ints (by omega)) (plain_cons (plain_int _) (plain_cons (plain_head xs).1 (plain_cons (plain_bl _) plain_tnil (by simp)) (by simp)) (by simp)) (by simp)) (by
    show max (G.tup _).dep (max 0 (max (headOf xs).dep (max 0 0))) + 1 ≤ 3
    rw [dep_ints, (plain_head xs).2]; omega)
  have c8 := f8 (n + 4) hz'
  have c10 := f10 (n + 4) xs
  have c11 := f11 (n + 4) xs
  have c3 := f3 (n + 4) xs
  rw [← ones_len] at c10
  rw [ones_any] at c3
  have a1 := add_gg ((onesOf xs).map G.int) [G.non] (line_le (by simp; omega))
  have a2 : ixop true (.g (.tup ((onesOf xs).map G.int ++ [G.non]))) (.g (.int 0)) = .ok (.v (.g (headOf xs))) := by
    have h := ones_head xs
    have hlt : 0 < ((onesOf xs).map G.int ++ [G.non]).length := by simp
    have := ix_g (xs := (onesOf xs).map G.int ++ [G.non]) (i := 0) hlt true
    rw [List.getElem?_eq_getElem hlt] at h
    rw [Option.some.inj h] at this
    exact this
  simp only [t2]
  simp [doCall, hasB, toArgs, giveBack, c8, c10, c11, c3, a1, a2, gsOf, line, bl]
  rw [show callF P (n + 5) 18 _ = _ from s1]
  simp [giveBack, bl]
def t3 : S := .ifs (.not (.call 18 (.cons (.tup (.cons (.call 9 (.cons (.var 4) (.cons (.var 2) .nil))) (.cons (.call 12 (.cons (.var 0) .nil)) (.cons (.call 2 (.cons (.var 2) .nil)) .nil)))) (.cons (.tup (.cons (.var 0) (.cons (.b1 .tuple (.comp (.b1 .int (.cmp (.var 8) (.cc .eq (.k (.int 0)) .nil))) (.var 8) (.it (.var 0)) .nil)) (.cons (.bin .mul (.tup (.cons (.k (.int 0)) .nil)) (.var 2)) .nil)))) .nil)))) (.ret (.k (.bl false))) .skip
theorem e3 (n : Nat) {xs : List Int} (hx : isBits xs = true) (hz : xs.length ≤ 1000) (a b c d e : Slot) : exec (callF P (n + 5)) t3 [.own (T xs), a, .own (I xs.length), b, .own (T (onesOf xs)), c, d, e, .no] = .ok (.next [.own (T xs), a, .own (I xs.length), b, .own (T (onesOf xs)), c, d, e, .no]) := by
  have s1 : callF P (n + 5) 18 [.own (.g (.tup [.tup (xs.map G.int), .tup ((xs.map fun x => 1 - x).map G.int), .tup ((List.replicate xs.length (0 : Int)).map G.int)])), .own (.g (.tup [.tup (xs.map G.int), .tup ((xs.map fun x => 1 - x).map G.int), .tup ((List.replicate xs.length (0 : Int)).map G.int)]))] = .ok (bl true, []) :=
    same (n + 1) (plain_cons (plain_ints hz) (plain_cons (plain_ints (by simpa using hz)) (plain_cons (plain_ints (by simpa using hz)) plain_tnil (by simp)) (by simp)) (by simp)) (by
    show max (G.tup _).dep (max (G.tup _).dep (max (G.tup _).dep 0)) + 1 ≤ 3
    rw [dep_ints, dep_ints, dep_ints]; omega)
  have c9 := f9 (n + 4) (onesOf xs) hz
  rw [row_law hx] at c9
  have c12 := f12 (n + 4) hz
  have c2 := f2 (n + 4) hz
  have m1 := mul_one (.int 0) xs.length hz
  have q := opp_law hx
  simp only [t3]
  simp [doCall, hasB, toArgs, giveBack, c9, c12, c2, m1, gsOf, bl]
  rw [compL_map (R.g ∘ G.int) (fun x => [I (if x == 0 then 1 else 0)])]
  · rw [q] at s1
    simp [flat_single, line_le hz, doCall, hasB, toArgs, giveBack, m1, gsOf]
    have q2 : (xs.map (G.int ∘ fun x => 1 - x)) = (xs.map fun x => if x == 0 then 1 else 0).map G.int := by rw [← q, List.map_map]
    have q3 : (xs.map fun x => G.int (if x = 0 then 1 else 0)) = (xs.map fun x => if x == 0 then 1 else 0).map G.int := by
      rw [List.map_map]; exact List.map_congr_left fun x _ => by simp
    have q4 : List.replicate xs.length (G.int 0) = (List.replicate xs.length (0 : Int)).map G.int := by simp
    rw [q2, q3, q4, show callF P (n + 5) 18 _ = _ from s1]
    simp [giveBack, bl]
  · intro x _
    simp
/-- each bit changed -/
def lb24 : S := .seq (.set 6 (.b1 .tuple (.comp (.b1 .int (.cmp (.ix (.var 0) (.var 7)) (.cc .ne (.b1 .int (.cmp (.var 7) (.cc .eq (.var 5) .nil))) .nil))) (.var 7) (.rng1 (.var 2)) .nil)))
  (.ifs (.not (.call 18 (.cons (.call 13 (.cons (.var 0) (.cons (.var 5) .nil))) (.cons (.var 6) .nil)))) (.ret (.k (.bl false))) .skip)
theorem e4 (n : Nat) {xs : List Int} (hx : isBits xs = true) (hz : xs.length ≤ 999) (a b c : R) : exec (callF P (n + 5)) (.for_ (.var 5) (.rng1 (.var 2)) lb24) [.own (T xs), .own a, .own (I xs.length), .own b, .own c, .no, .no, .no, .no] = .ok (.next [.own (T xs), .own a, .own (I xs.length), .own b, .own c, .no, .no, .no, .no]) := by
  have hz' : xs.length ≤ 1000 := by omega
  obtain ⟨ρ', e1, e2⟩ := forL_range (turn := turnF (.var 5) (exec (callF P (n + 5)) lb24)) (ρ0 := [.own (T xs), .own a, .own (I xs.length), .own b, .own c, .no, .no, .no, .no]) xs.length
    (fun i ρ => ρ = [.own (T xs), .own a, .own (I xs.length), .own b, .own c, .no, .no, .no, .no]) rfl (fun i hi ρ h => by
      subst h
      refine ⟨[.own (T xs), .own a, .own (I xs.length), .own b, .own c, .own (I i), .own (T (chg xs i)), .no, .no], ?_, rfl⟩
      have c13 := f13 (n + 4) hz' hi
      rw [chg_law hx hi] at c13
      have s1 : callF P (n + 5) 18 [.own (T (chg xs i)), .own (T (chg xs i))] = .ok (bl true, []) := same (n + 1) (plain_ints (by simp [chg]; omega)) (by rw [dep_ints]; omega)
      simp only [turnF, lb24]
      simp [b62_n hz']
      rw [compL_range 0 xs.length (fun j => [I (if xs.getD j 0 == (if j == i then 1 else 0) then 0 else 1)])]
      · simp [flat_single, line_le hz', doCall, hasB, toArgs, giveBack, c13]
        have q3 : ((List.range xs.length).map fun x => G.int (if xs[x]?.getD 0 = if x = i then 1 else 0 then 0 else 1)) = (chg xs i).map G.int := by
          unfold chg
          rw [List.map_map]
          exact List.map_congr_left fun x _ => by simp
        rw [q3, show callF P (n + 5) 18 _ = _ from s1]
        simp [giveBack]
      · intro j hj
        simp [ix_g, hj]
        by_cases h : j = i
        · subst h; simp
        · have : ¬ (j : Int) = (i : Int) := by omega
          simp [h, this])
  subst e2
  simp [b62_n hz']
  erw [e1]
  simp [unl]
/-- _law_is_told -/
theorem f24 (n : Nat) {xs ys : List Int} (hx : isBits xs = true) (hy : isBits ys = true) (hl : xs.length = ys.length) (hz : xs.length ≤ 999) : callF P (n + 6) 24 [.own (T xs), .own (T ys)] = .ok (bl true, []) := by
  have hz' : xs.length ≤ 1000 := by omega
  refine run_of (b := b24) (ns := 9) (ρ := [.own (T xs), .own (T ys), .own (I xs.length), .own (T (bothOf xs ys)), .own (T (onesOf xs)), .no, .no, .no, .no]) rfl rfl ?_ rfl
  have p2 : exec (callF P (n + 5)) (.set 2 (.b1 .len (.var 0))) [.own (T xs), .own (T ys), .no, .no, .no, .no, .no, .no, .no] = .ok (.next [.own (T xs), .own (T ys), .own (I xs.length), .no, .no, .no, .no, .no, .no]) := by simp
  have p3 : exec (callF P (n + 5)) (.set 3 (.b1 .tuple (.comp (.b1 .int (.and (.cmp (.ix (.var 0) (.var 5)) (.cc .eq (.k (.int 1)) .nil)) (.cmp (.ix (.var 1) (.var 5)) (.cc .eq (.k (.int 1)) .nil)))) (.var 5) (.rng1 (.var 2)) .nil))) [.own (T xs), .own (T ys), .own (I xs.length), .no, .no, .no, .no, .no, .no] = .ok (.next [.own (T xs), .own (T ys), .own (I xs.length), .own (T (bothOf xs ys)), .no, .no, .no, .no, .no]) := by
    simp [b62_n hz']
    rw [compL_range 0 xs.length (fun j => [I (if xs.getD j 0 == 1 && ys.getD j 0 == 1 then 1 else 0)])]
    · simp [flat_single, line_le hz', bothOf, Function.comp_def]
    · intro j hj
      have hj2 : j < ys.length := by omega
      simp [ix_g, hj, hj2]
      by_cases h1 : xs[j] = 1 <;> simp [h1, hj2, ix_g]
  have p4 : exec (callF P (n + 5)) (.set 4 (.b1 .tuple (.comp (.var 5) (.var 5) (.rng1 (.var 2)) (.cmp (.ix (.var 0) (.var 5)) (.cc .eq (.k (.int 1)) .nil))))) [.own (T xs), .own (T ys), .own (I xs.length), .own (T (bothOf xs ys)), .no, .no, .no, .no, .no] = .ok (.next [.own (T xs), .own (T ys), .own (I xs.length), .own (T (bothOf xs ys)), .own (T (onesOf xs)), .no, .no, .no, .no]) := by
    simp [b62_n hz']
    rw [compL_range 0 xs.length (fun i => if (xs.getD i 0 == 1) then [I i] else [])]
    · have : ((List.range xs.length).filter fun i => xs.getD i 0 == 1).length ≤ line := Nat.le_trans (List.length_filter_le _ _) (by simpa using line_le hz')
      rw [flat_if]
      simp only [ok_bind, List.length_map, if_pos this, deref_v, tuple_of, take_v, onesOf, List.set]
      simp only [T, List.map_map, Function.comp_def]
    · intro i hi
      simp [ix_g, hi]
      split <;> simp
  show exec (callF P (n + 5)) (.seq (.set 2 (.b1 .len (.var 0))) (.seq (.set 3 (.b1 .tuple (.comp (.b1 .int (.and (.cmp (.ix (.var 0) (.var 5)) (.cc .eq (.k (.int 1)) .nil)) (.cmp (.ix (.var 1) (.var 5)) (.cc .eq (.k (.int 1)) .nil)))) (.var 5) (.rng1 (.var 2)) .nil))) (.seq t1 (.seq (.set 4 (.b1 .tuple (.comp (.var 5) (.var 5) (.rng1 (.var 2)) (.cmp (.ix (.var 0) (.var 5)) (.cc .eq (.k (.int 1)) .nil))))) (.seq t2 (.seq t3 (.seq (.for_ (.var 5) (.rng1 (.var 2)) lb24) (.ret (.k (.bl true))))))))))
    [.own (T xs), .own (T ys), .no, .no, .no, .no, .no, .no, .no] = _
  rw [seq_next p2, seq_next p3, seq_next (e1 n hx hy hl hz' _ _ _ _ _ _), seq_next p4, seq_next (e2 n hx hz _ _ _ _ _ _ _), seq_next (e3 n hx hz' _ _ _ _ _), seq_next (e4 n hx hz _ _ _)]
  simp [bl]
end K00
/-! K3: the law's turns. -/
namespace K00
open Pv
/-- rows of k bits -/
def Rows (k : Nat) (rows : List (List Int)) : Prop := ∀ r ∈ rows, isBits r = true ∧ r.length = k
theorem lawSum_at {xs ys : List Int} (hx : isBits xs = true) (hy : isBits ys = true) {i : Nat} (hi : i < xs.length) : (lawSum xs ys).getD i 0 = (xs.getD i 0 + ys.getD i 0) % 2 := by
  have e : (lawSum xs ys).getD i 0 = if xs.getD i 0 == ys.getD i 0 then 0 else 1 := by
    rw [List.getD_eq_getElem?_getD]
    unfold lawSum
    rw [List.getElem?_map, List.getElem?_range hi]
    rfl
  rw [e]
  rcases bit_at hx i with a | a <;> rcases bit_at hy i with b | b <;> rw [a, b] <;> rfl
theorem fold_bits {k : Nat} : ∀ (rows : List (List Int)) (z : List Int), isBits z = true → z.length = k → Rows k rows → isBits (rows.foldl lawSum z) = true ∧ (rows.foldl lawSum z).length = k ∧ rows.foldl sumOf z = rows.foldl lawSum z
  | [], z, hz, hl, _ => ⟨hz, hl, rfl⟩
  | r :: rows, z, hz, hl, h => by
    have hr := h r List.mem_cons_self
    obtain ⟨h1, h2, h3⟩ := fold_bits rows (lawSum z r) (lawSum_bits z r) (by rw [lawSum_len]; exact hl) fun r' h' => h r' (List.mem_cons_of_mem _ h')
    refine ⟨h1, h2, ?_⟩
    rw [List.foldl_cons, List.foldl_cons, sum_law hz hr.1]
    exact h3
theorem fold_at {k : Nat} : ∀ (rows : List (List Int)) (z : List Int), isBits z = true → z.length = k → Rows k rows → ∀ i, i < k → (rows.foldl lawSum z).getD i 0 % 2 = (z.getD i 0 + (rows.map fun r => r.getD i 0).sum) % 2
  | [], z, hz, hl, _, i, hi => by simp
  | r :: rows, z, hz, hl, h, i, hi => by
    have hr := h r List.mem_cons_self
    have := fold_at rows (lawSum z r) (lawSum_bits z r) (by rw [lawSum_len]; exact hl) (fun r' h' => h r' (List.mem_cons_of_mem _ h')) i hi
    rw [List.foldl_cons, this, lawSum_at hz hr.1 (by omega), List.map_cons, List.sum_cons]
    omega
theorem fold_twice {k : Nat} (rows : List (List Int)) (h : Rows k rows) : (rows ++ rows).foldl sumOf (List.replicate k 0) = List.replicate k 0 := by
  have hz := zeros_bits k
  have hl : (List.replicate k (0 : Int)).length = k := by simp
  have hrr : Rows k (rows ++ rows) := fun r hr => (List.mem_append.mp hr).elim (h r) (h r)
  obtain ⟨b1, b2, b3⟩ := fold_bits (rows ++ rows) _ hz hl hrr
  rw [b3]
  refine List.ext_getElem (by rw [b2]; simp) fun i h1 h2 => ?_
  have hi : i < k := by simpa using h2
  have f := fold_at (rows ++ rows) _ hz hl hrr i hi
  have e : ((rows ++ rows).foldl lawSum (List.replicate k 0)).getD i 0 = ((rows ++ rows).foldl lawSum (List.replicate k 0))[i] := by
    rw [List.getD_eq_getElem?_getD, List.getElem?_eq_getElem h1]; rfl
  have ez : (List.replicate k (0 : Int)).getD i 0 = 0 := by simp [hi]
  rw [e, ez, List.map_append, List.sum_append] at f
  have b := bit_at b1 i
  rw [e] at b
  simp only [List.getElem_replicate]
  rcases b with q | q
  · exact q
  · rw [q] at f; omega
/-- the slots of the law -/
def Ev (ns ds : List Int) (c : Int) (a b d e f g h i : Slot) : Env := [.bor (L ns), .own (L ds), .own (I c), a, b, d, e, f, g, h, i]
/-- a draw -/
theorem draw (n : Nat) (ns ds : List Int) (c : Int) (a b d e f g h i : Slot) {m : Int} (hm : 0 < m) : ∃ (k : Nat) (ds' : List Int), (k : Int) < m ∧ ev (callF P (n + 1)) (.call 16 (.cons (.var 1) (.cons (.k (.int m)) .nil))) (Ev ns ds c a b d e f g h i) = .ok (.v (I k), Ev ns ds' c a b d e f g h i) := by
  obtain ⟨x, ds', h1, h2, q⟩ := f16 n ds hm
  refine ⟨x.toNat, ds', by omega, ?_⟩
  have hx : ((x.toNat : Nat) : Int) = x := by omega
  rw [hx]
  simp [Ev, doCall, hasB, toArgs, giveBack, likeS, q]
/-- a row drawn -/
theorem drawRow (n : Nat) (ns ds : List Int) (c : Int) (a d e f g h i : Slot) {k : Nat} (hk : k ≤ 1000) : ∃ (row ds' : List Int), isBits row = true ∧ row.length = k ∧ ev (callF P (n + 2)) (.call 20 (.cons (.var 1) (.cons (.var 4) .nil))) (Ev ns ds c a (.own (I k)) d e f g h i) = .ok (.v (T row), Ev ns ds' c a (.own (I k)) d e f g h i) := by
  obtain ⟨row, ds', h1, h2, q⟩ := f20 n ds hk
  refine ⟨row, ds', h1, h2, ?_⟩
  simp [Ev, doCall, hasB, toArgs, giveBack, likeS, q]
/-- the rows -/
theorem a5 (n : Nat) (ns ds : List Int) (c : Int) (a d e f g h : Slot) {k : Nat} (hk : k ≤ 1000) : ∃ (rows : List (List Int)) (ds' : List Int), Rows k rows ∧ rows.length ≤ 5 ∧
    exec (callF P (n + 2)) (.set 5 (.b1 .tuple (.comp (.call 20 (.cons (.var 1) (.cons (.var 4) .nil))) (.var 10) (.rng1 (.call 16 (.cons (.var 1) (.cons (.k (.int 6)) .nil)))) .nil))) (Ev ns ds c a (.own (I k)) d e f g h .no) = .ok (.next (Ev ns ds' c a (.own (I k)) (.own (TT rows)) e f g h .no)) := by
  obtain ⟨m, ds1, hm, e1⟩ := draw (n + 1) ns ds c a (.own (I k)) d e f g h .no (m := 6) (by omega)
  obtain ⟨ys, ρ', e2, rows, ds2, q1, q2, q3, q4⟩ := compL_inv (turn := compT (.var 10) true (ev (callF P (n + 2)) .nil) (ev (callF P (n + 2)) (.call 20 (.cons (.var 1) (.cons (.var 4) .nil))))) (ρ := Ev ns ds1 c a (.own (I k)) d e f g h .no) m
    (fun i ys ρ => ∃ rows ds2, ys = rows.map (fun r : List Int => R.g (.tup (r.map G.int))) ∧ ρ = Ev ns ds2 c a (.own (I k)) d e f g h .no ∧ Rows k rows ∧ rows.length = i) ⟨[], ds1, rfl, rfl, (fun _ z => nomatch z), rfl⟩ (fun i _ ys ρ ⟨rows, ds2, q1, q2, q3, q4⟩ => by
      subst q1 q2
      obtain ⟨row, ds3, w1, w2, w3⟩ := drawRow n ns ds2 c a d e f g h (.own (I ((0 : Int) + (i : Int)))) hk
      refine ⟨[T row], Ev ns ds3 c a (.own (I k)) d e f g h .no, ?_, rows ++ [row], ds3, by simp, rfl, fun r hr => ?_, by simp [q4]⟩
      · have : (Ev ns ds2 c a (.own (I k)) d e f g h .no).set 10 (.own (.g (.int ((0 : Int) + (i : Int))))) = Ev ns ds2 c a (.own (I k)) d e f g h (.own (I ((0 : Int) + (i : Int)))) := rfl
        simp only [compT_eq, bindC_g, bindT_var, ok_bind, this, isNil_nil, condE_true, if_true]
        rw [w3]
        rfl
      · rcases List.mem_append.mp hr with z | z
        · exact q3 r z
        · have : r = row := by simpa using z
          exact this ▸ ⟨w1, w2⟩)
  subst q1 q2
  refine ⟨rows, ds2, q3, by omega, ?_⟩
  have hb : b62 (m : Int) = true := b62_nat (by omega)
  have hr : rows.length ≤ line := line_le (by omega)
  simp only [exec_set, ev_b1, ev_comp, evIt_rng1]
  rw [e1]
  simp only [ok_bind, hb, if_true, Int.toNat_natCast, lend_none]
  have hw : wipeS (Ev ns ds1 c a (.own (I k)) d e f g h .no) (tgs (.var 10)) = Ev ns ds1 c a (.own (I k)) d e f g h .no := rfl
  rw [hw]
  erw [e2]
  simp [hr]
  rfl
/-- the sum due -/
theorem a7 (n : Nat) (ns ds : List Int) (c : Int) (a : R) {k : Nat} (hk : k ≤ 1000) {rows : List (List Int)} (hr : Rows k rows) : exec (callF P (n + 1)) (.for_ (.var 7) (.it (.var 5)) (.set 6 (.call 19 (.cons (.var 6) (.cons (.var 7) .nil))))) (Ev ns ds c (.own a) (.own (I k)) (.own (TT rows)) (.own (T (List.replicate k 0))) .no .no .no .no) =
    .ok (.next (Ev ns ds c (.own a) (.own (I k)) (.own (TT rows)) (.own (T (rows.foldl lawSum (List.replicate k 0)))) .no .no .no .no)) := by
  obtain ⟨ρ', e, he⟩ := forL_list (turn := turnF (.var 7) (exec (callF P (n + 1)) (.set 6 (.call 19 (.cons (.var 6) (.cons (.var 7) .nil)))))) (ρ0 := Ev ns ds c (.own a) (.own (I k)) (.own (TT rows)) (.own (T (List.replicate k 0))) .no .no .no .no) (fun r : List Int => R.g (.tup (r.map G.int)))
    (fun rem ρ => ∃ z, ρ = Ev ns ds c (.own a) (.own (I k)) (.own (TT rows)) (.own (T z)) .no .no .no .no ∧ z.length = k ∧ Rows k rem ∧ rem.foldl lawSum z = rows.foldl lawSum (List.replicate k 0))
    (fun r rem ρ ⟨z, e1, e2, e3, e4⟩ => by
      subst e1
      refine ⟨Ev ns ds c (.own a) (.own (I k)) (.own (TT rows)) (.own (T (lawSum z r))) (.own (T r)) .no .no .no, ?_, lawSum z r, rfl, by rw [lawSum_len]; exact e2, fun r' h' => e3 r' (List.mem_cons_of_mem _ h'), e4⟩
      have hl : z.length = r.length := by rw [e2, (e3 r List.mem_cons_self).2]
      simp [turnF, Ev, doCall, hasB, toArgs, giveBack, f19 n hl (by omega)])
    rows _ ⟨List.replicate k 0, rfl, by simp, hr, rfl⟩
  obtain ⟨z, e1, e2, e3, e4⟩ := he
  have e4 : z = rows.foldl lawSum (List.replicate k 0) := e4
  subst e1
  rw [← e4]
  have q : exec (callF P (n + 1)) (.for_ (.var 7) (.it (.var 5)) (.set 6 (.call 19 (.cons (.var 6) (.cons (.var 7) .nil))))) (Ev ns ds c (.own a) (.own (I k)) (.own (TT rows)) (.own (T (List.replicate k 0))) .no .no .no .no) = (forL (turnF (.var 7) (exec (callF P (n + 1)) (.set 6 (.call 19 (.cons (.var 6) (.cons (.var 7) .nil)))))) (Ev ns ds c (.own a) (.own (I k)) (.own (TT rows)) (.own (T (List.replicate k 0))) .no .no .no .no) (rows.map fun r : List Int => R.g (.tup (r.map G.int))) (Ev ns ds c (.own a) (.own (I k)) (.own (TT rows)) (.own (T (List.replicate k 0))) .no .no .no .no)).bind fun f => .ok f := by
    simp [Ev, unl, Function.comp_def]
  rw [q, e]
  rfl
/-- both sums -/
def u1 : S := .ifs (.not (.call 18 (.cons (.tup (.cons (.call 5 (.cons (.var 5) (.cons (.var 4) .nil))) (.cons (.call 5 (.cons (.bin .add (.var 5) (.var 5)) (.cons (.var 4) .nil))) .nil))) (.cons (.tup (.cons (.var 6) (.cons (.bin .mul (.tup (.cons (.k (.int 0)) .nil)) (.var 4)) .nil))) .nil)))) (.ret (.k (.bl false))) .skip
theorem a8 (n : Nat) (ns ds : List Int) (c : Int) (a e f g h : Slot) {k : Nat} (hk : k ≤ 1000) {rows : List (List Int)} (hr : Rows k rows) (hr2 : rows.length ≤ 5) : exec (callF P (n + 5)) u1 (Ev ns ds c a (.own (I k)) (.own (TT rows)) (.own (T (rows.foldl lawSum (List.replicate k 0)))) e f g h) =
    .ok (.next (Ev ns ds c a (.own (I k)) (.own (TT rows)) (.own (T (rows.foldl lawSum (List.replicate k 0)))) e f g h)) := by
  obtain ⟨b1, b2, b3⟩ := fold_bits rows _ (zeros_bits k) (by simp) hr
  have c1 := f5 (n + 3) hk (fun r h => (hr r h).2)
  have c2 := f5 (n + 3) (rows := rows ++ rows) hk (fun r h => (List.mem_append.mp h).elim (fun z => (hr r z).2) fun z => (hr r z).2)
  rw [b3] at c1
  rw [fold_twice rows hr] at c2
  have m1 := mul_one (.int 0) k hk
  have s1 : callF P (n + 5) 18 [.own (.g (.tup [.tup ((rows.foldl lawSum (List.replicate k 0)).map G.int), .tup (List.replicate k (G.int 0))])), .own (.g (.tup [.tup ((rows.foldl lawSum (List.replicate k 0)).map G.int), .tup (List.replicate k (G.int 0))]))] = .ok (bl true, []) := by
    rw [rep_ints' k]
    exact same (n + 1) (plain_cons (plain_ints (by rw [b2]; exact hk)) (plain_cons (plain_ints (by simpa using hk)) plain_tnil (by simp)) (by simp)) (by
      show max (G.tup _).dep (max (G.tup _).dep 0) + 1 ≤ 3
      rw [dep_ints, dep_ints]; omega)
  have ad := add_gg (rows.map fun r => G.tup (r.map G.int)) (rows.map fun r => G.tup (r.map G.int)) (line_le (by simp; omega))
  have c2' : callF P (n + 5) 5 [.own (.g (.tup ((rows.map fun r => G.tup (r.map G.int)) ++ rows.map fun r => G.tup (r.map G.int)))), .own (I k)] = .ok (T (List.replicate k 0), []) := by
    rw [← List.map_append]; exact c2
  simp only [u1, Ev]
  simp [doCall, hasB, toArgs, giveBack, c1, gsOf, ad]
  rw [show callF P (n + 5) 5 _ = _ from c2']
  simp [doCall, hasB, toArgs, giveBack, gsOf, m1]
  rw [show callF P (n + 5) 18 _ = _ from s1]
  simp [giveBack]
/-- told twice -/
def u2 : S := .ifs (.or (.not (.call 24 (.cons (.call 20 (.cons (.var 1) (.cons (.var 4) .nil))) (.cons (.call 20 (.cons (.var 1) (.cons (.var 4) .nil))) .nil)))) (.not (.call 24 (.cons (.bin .mul (.tup (.cons (.k (.int 0)) .nil)) (.var 4)) (.cons (.var 6) .nil))))) (.ret (.k (.bl false))) .skip
theorem a9 (n : Nat) (ns ds : List Int) (c : Int) (a d f g h i : Slot) {k : Nat} (hk : k ≤ 999) {due : List Int} (hd : isBits due = true) (hl : due.length = k) : ∃ ds', exec (callF P (n + 6)) u2 (Ev ns ds c a (.own (I k)) d (.own (T due)) f g h i) = .ok (.next (Ev ns ds' c a (.own (I k)) d (.own (T due)) f g h i)) := by
  obtain ⟨r1, d1, w1, w2, w3⟩ := f20 (n + 4) ds (k := k) (by omega)
  obtain ⟨r2, d2, v1, v2, v3⟩ := f20 (n + 4) d1 (k := k) (by omega)
  refine ⟨d2, ?_⟩
  have c1 := f24 n w1 v1 (by omega) (by omega)
  have c2 := f24 n (zeros_bits k) hd (by simp [hl]) (by simpa using hk)
  have c2' : callF P (n + 6) 24 [.own (.g (.tup (List.replicate k (G.int 0)))), .own (T due)] = .ok (bl true, []) := by
    rw [rep_ints' k]; exact c2
  have m1 := mul_one (.int 0) k (by omega)
  have x1 : callF P (n + 6) 20 [.arg (L ds), .own (I k)] = .ok (T r1, [L d1]) := w3
  have x2 : callF P (n + 6) 20 [.arg (L d1), .own (I k)] = .ok (T r2, [L d2]) := v3
  simp only [u2, Ev]
  simp [doCall, hasB, toArgs, giveBack, likeS, x1, x2, c1, c2', m1, gsOf]
/-- the refused rows -/
def bads (c : Int) : List Int := [2, -1, 2 + (if c < 0 then -c else c), -1 - (if c < 0 then -c else c)]
theorem not_bits {xs ys : List Int} {b : Int} (h : b ≠ 0) (h1 : b ≠ 1) : isBits (xs ++ [b] ++ ys) = false := by
  unfold isBits
  rw [List.all_append, List.all_append]
  have : ([b].all fun x => 0 == x || 1 == x) = false := by
    have h' : ¬ 0 = b := fun e => h e.symm
    have h1' : ¬ 1 = b := fun e => h1 e.symm
    simp [h', h1']
  rw [this]; simp
def u3 : S := .ifs (.not (.call 23 (.cons (.bin .add (.bin .add (.sl (.var 6) .nil (.var 8)) (.tup (.cons (.var 9) .nil))) (.sl (.var 6) (.var 8) .nil)) .nil))) (.ret (.k (.bl false))) .skip
theorem a11 (n : Nat) (ns ds : List Int) (c : Int) (a b d f i : Slot) {due : List Int} {p : Nat} (hz : due.length ≤ 998) (hp : p ≤ due.length) (x : Int) (h0 : x ≠ 0) (h1 : x ≠ 1) : exec (callF P (n + 3)) u3 (Ev ns ds c a b d (.own (T due)) f (.own (I p)) (.own (I x)) i) = .ok (.next (Ev ns ds c a b d (.own (T due)) f (.own (I p)) (.own (I x)) i)) := by
  have hl : p ≤ (due.map G.int).length := by rw [List.length_map]; exact hp
  have a1 := add_gg ((due.map G.int).take p) [G.int x] (line_le (by simp; omega))
  have a2 := add_gg ((due.map G.int).take p ++ [G.int x]) ((due.map G.int).drop p) (line_le (by simp; omega))
  have c1 := f23 n (xs := due.take p ++ [x] ++ due.drop p) (by simp; omega) (not_bits h0 h1)
  have c1' : callF P (n + 3) 23 [.own (.g (.tup ((due.map G.int).take p ++ G.int x :: (due.map G.int).drop p)))] = .ok (bl true, []) := by
    have e : ((due.map G.int).take p ++ G.int x :: (due.map G.int).drop p) = (due.take p ++ [x] ++ due.drop p).map G.int := by simp
    rw [e]; exact c1
  simp only [u3, Ev]
  simp [optE_e, cut_to hl, cut_from hl, gsOf, a1, a2, doCall, hasB, toArgs, giveBack, c1']
/-- a turn -/
def lbT : S := .seq (.set 4 (.call 16 (.cons (.var 1) (.cons (.k (.int 10)) .nil))))
  (.seq (.set 5 (.b1 .tuple (.comp (.call 20 (.cons (.var 1) (.cons (.var 4) .nil))) (.var 10) (.rng1 (.call 16 (.cons (.var 1) (.cons (.k (.int 6)) .nil)))) .nil)))
  (.seq (.set 6 (.bin .mul (.tup (.cons (.k (.int 0)) .nil)) (.var 4)))
  (.seq (.for_ (.var 7) (.it (.var 5))
  (.set 6 (.call 19 (.cons (.var 6) (.cons (.var 7) .nil)))))
  (.seq u1
  (.seq u2
  (.seq (.set 8 (.call 16 (.cons (.var 1) (.cons (.bin .add (.var 4) (.k (.int 1))) .nil))))
  (.for_ (.var 9) (.it (.tup (.cons (.k (.int 2)) (.cons (.neg (.k (.int 1))) (.cons (.bin .add (.k (.int 2)) (.b1 .abs (.var 2))) (.cons (.bin .sub (.neg (.k (.int 1))) (.b1 .abs (.var 2))) .nil))))))
  u3)))))))
theorem turn_ok (n : Nat) (ns ds : List Int) (c : Int) (t : R) : ∃ (ds' : List Int) (a b d e : Slot), exec (callF P (n + 6)) lbT (Ev ns ds c (.own t) .no .no .no .no .no .no .no) = .ok (.next (Ev ns ds' c (.own t) a b d .no e .no .no)) := by
  obtain ⟨k, d1, hk, e1⟩ := draw (n + 5) ns ds c (.own t) .no .no .no .no .no .no .no (m := 10) (by omega)
  obtain ⟨rows, d2, hr, hr2, e2⟩ := a5 (n + 4) ns d1 c (.own t) .no .no .no .no .no (k := k) (by omega)
  obtain ⟨b1, b2, b3⟩ := fold_bits rows _ (zeros_bits k) (by simp) hr
  obtain ⟨d3, e4⟩ := a9 n ns d2 c (.own t) (.own (TT rows)) .no .no .no .no (k := k) (by omega) b1 b2
  obtain ⟨x, d4, h1, h2, q⟩ := f16 (n + 5) d3 (m := (k : Int) + 1) (by omega)
  have hx : ((x.toNat : Nat) : Int) = x := by omega
  have hp : x.toNat ≤ (rows.foldl lawSum (List.replicate k 0)).length := by rw [b2]; omega
  have m1 := mul_one (.int 0) k (by omega)
  have p4 : exec (callF P (n + 6)) (.set 4 (.call 16 (.cons (.var 1) (.cons (.k (.int 10)) .nil)))) (Ev ns ds c (.own t) .no .no .no .no .no .no .no) = .ok (.next (Ev ns d1 c (.own t) (.own (I k)) .no .no .no .no .no .no)) := by
    rw [exec_set, e1]; rfl
  have p6 : exec (callF P (n + 6)) (.set 6 (.bin .mul (.tup (.cons (.k (.int 0)) .nil)) (.var 4))) (Ev ns d2 c (.own t) (.own (I k)) (.own (TT rows)) .no .no .no .no .no) = .ok (.next (Ev ns d2 c (.own t) (.own (I k)) (.own (TT rows)) (.own (T (List.replicate k 0))) .no .no .no .no)) := by
    simp [Ev, gsOf, m1]
  have p8 : exec (callF P (n + 6)) (.set 8 (.call 16 (.cons (.var 1) (.cons (.bin .add (.var 4) (.k (.int 1))) .nil)))) (Ev ns d3 c (.own t) (.own (I k)) (.own (TT rows)) (.own (T (rows.foldl lawSum (List.replicate k 0)))) .no .no .no .no) = .ok (.next (Ev ns d4 c (.own t) (.own (I k)) (.own (TT rows)) (.own (T (rows.foldl lawSum (List.replicate k 0)))) .no (.own (I x.toNat)) .no .no)) := by
    rw [hx]
    simp [Ev, doCall, hasB, toArgs, giveBack, likeS, show callF P (n + 6) 16 _ = _ from q]
  refine ⟨d4, .own (I k), .own (TT rows), .own (T (rows.foldl lawSum (List.replicate k 0))), .own (I x.toNat), ?_⟩
  unfold lbT
  rw [seq_next p4, seq_next e2, seq_next p6, seq_next (a7 (n + 5) ns d2 c t (by omega) hr), seq_next (a8 (n + 1) ns d2 c (.own t) .no .no .no .no (by omega) hr hr2), seq_next e4, seq_next p8]
  obtain ⟨ρ', e, he, _⟩ := forL_list (turn := turnF (.var 9) (exec (callF P (n + 6)) u3)) (ρ0 := Ev ns d4 c (.own t) (.own (I k)) (.own (TT rows)) (.own (T (rows.foldl lawSum (List.replicate k 0)))) .no (.own (I x.toNat)) .no .no) (fun b : Int => R.g (.int b))
    (fun rem ρ => ρ = Ev ns d4 c (.own t) (.own (I k)) (.own (TT rows)) (.own (T (rows.foldl lawSum (List.replicate k 0)))) .no (.own (I x.toNat)) .no .no ∧ ∀ b ∈ rem, b ≠ 0 ∧ b ≠ 1)
    (fun b rem ρ ⟨z1, z2⟩ => by
      subst z1
      have hb := z2 b List.mem_cons_self
      refine ⟨Ev ns d4 c (.own t) (.own (I k)) (.own (TT rows)) (.own (T (rows.foldl lawSum (List.replicate k 0)))) .no (.own (I x.toNat)) (.own (I b)) .no, ?_, rfl, fun y hy => z2 y (List.mem_cons_of_mem _ hy)⟩
      exact a11 (n + 3) ns d4 c (.own t) (.own (I k)) (.own (TT rows)) .no .no (by rw [b2]; omega) hp b hb.1 hb.2)
    (bads c) _ ⟨rfl, fun b hb => by
      unfold bads at hb
      simp only [List.mem_cons, List.not_mem_nil, or_false] at hb
      have : 0 ≤ (if c < 0 then -c else c) := by split <;> omega
      generalize (if c < 0 then -c else c) = w at hb this
      rcases hb with rfl | rfl | rfl | rfl <;> constructor <;> omega⟩
  subst he
  have q2 : exec (callF P (n + 6)) (.for_ (.var 9) (.it (.tup (.cons (.k (.int 2)) (.cons (.neg (.k (.int 1))) (.cons (.bin .add (.k (.int 2)) (.b1 .abs (.var 2))) (.cons (.bin .sub (.neg (.k (.int 1))) (.b1 .abs (.var 2))) .nil)))))) u3) (Ev ns d4 c (.own t) (.own (I k)) (.own (TT rows)) (.own (T (rows.foldl lawSum (List.replicate k 0)))) .no (.own (I x.toNat)) .no .no) = (forL (turnF (.var 9) (exec (callF P (n + 6)) u3)) (Ev ns d4 c (.own t) (.own (I k)) (.own (TT rows)) (.own (T (rows.foldl lawSum (List.replicate k 0)))) .no (.own (I x.toNat)) .no .no) ((bads c).map fun b : Int => R.g (.int b)) (Ev ns d4 c (.own t) (.own (I k)) (.own (TT rows)) (.own (T (rows.foldl lawSum (List.replicate k 0)))) .no (.own (I x.toNat)) .no .no)).bind fun f => .ok f := by
    simp [Ev, unl, gsOf, bads]
  rw [q2, e]
  rfl
end K00
/-! K4: the law. -/
namespace K00
open Pv
def lb5 : S := (.ifs (.not (.call 18 (.cons (.call 14 (.cons (.var 4) .nil)) (.cons (.b1 .tuple (.call 21 (.cons (.var 4) .nil))) .nil)))) (.ret (.k (.bl false))) .skip)
def if6 : S := (.ifs (.not (.call 18 (.cons (.tup (.cons (.call 4 (.cons (.tup (.cons (.k (.int 0)) (.cons (.k (.int 1)) (.cons (.k (.int 1)) .nil)))) (.cons (.tup (.cons (.k (.int 1)) (.cons (.k (.int 1)) (.cons (.k (.int 0)) .nil)))) .nil))) (.cons (.call 11 (.cons (.tup (.cons (.k (.int 0)) (.cons (.k (.int 0)) (.cons (.k (.int 1)) (.cons (.k (.int 1)) .nil))))) .nil)) (.cons (.call 11 (.cons (.tup (.cons (.k (.int 0)) (.cons (.k (.int 0)) .nil))) .nil)) (.cons (.call 8 (.cons (.tup (.cons (.k (.int 1)) (.cons (.k (.int 0)) (.cons (.k (.int 1)) .nil)))) .nil)) .nil))))) (.cons (.tup (.cons (.tup (.cons (.k (.int 1)) (.cons (.k (.int 0)) (.cons (.k (.int 1)) .nil)))) (.cons (.k (.int 2)) (.cons (.k .non) (.cons (.tup (.cons (.k (.int 0)) (.cons (.k (.int 2)) .nil))) .nil))))) .nil)))) (.ret (.k (.bl false))) .skip)
def ret7 : S := (.ret (.and (.call 18 (.cons (.tup (.cons (.call 5 (.cons (.tup .nil) (.cons (.k (.int 3)) .nil))) (.cons (.call 9 (.cons (.tup (.cons (.k (.int 1)) .nil)) (.cons (.k (.int 3)) .nil))) (.cons (.call 7 (.cons (.tup (.cons (.k (.int 1)) (.cons (.k (.int 1)) .nil))) (.cons (.tup (.cons (.k (.int 1)) (.cons (.k (.int 1)) .nil))) .nil))) (.cons (.call 10 (.cons (.tup .nil) .nil)) .nil))))) (.cons (.tup (.cons (.tup (.cons (.k (.int 0)) (.cons (.k (.int 0)) (.cons (.k (.int 0)) .nil)))) (.cons (.tup (.cons (.k (.int 0)) (.cons (.k (.int 1)) (.cons (.k (.int 0)) .nil)))) (.cons (.k (.bl false)) (.cons (.k (.int 0)) .nil))))) .nil))) (.call 24 (.cons (.tup .nil) (.cons (.tup .nil) .nil)))))
theorem g0 (ns ds : List Int) (c : Int) : exec (callF P 30) lb5 (Ev ns ds c .no (.own (I 0)) .no .no .no .no .no .no) = .ok (.next (Ev ns ds c .no (.own (I 0)) .no .no .no .no .no .no)) := by kernel_rfl
theorem ga (ns ds : List Int) (c : Int) : exec (callF P 30) lb5 (Ev ns ds c .no (.own (I 1)) .no .no .no .no .no .no) = .ok (.next (Ev ns ds c .no (.own (I 1)) .no .no .no .no .no .no)) := by kernel_rfl
theorem gb (ns ds : List Int) (c : Int) : exec (callF P 30) lb5 (Ev ns ds c .no (.own (I 2)) .no .no .no .no .no .no) = .ok (.next (Ev ns ds c .no (.own (I 2)) .no .no .no .no .no .no)) := by kernel_rfl
theorem gc (ns ds : List Int) (c : Int) : exec (callF P 30) lb5 (Ev ns ds c .no (.own (I 3)) .no .no .no .no .no .no) = .ok (.next (Ev ns ds c .no (.own (I 3)) .no .no .no .no .no .no)) := by kernel_rfl
theorem g4 (ns ds : List Int) (c : Int) : exec (callF P 30) lb5 (Ev ns ds c .no (.own (I 4)) .no .no .no .no .no .no) = .ok (.next (Ev ns ds c .no (.own (I 4)) .no .no .no .no .no .no)) := by kernel_rfl
theorem g6 (ns ds : List Int) (c : Int) : exec (callF P 30) if6 (Ev ns ds c .no .no .no .no .no .no .no .no) = .ok (.next (Ev ns ds c .no .no .no .no .no .no .no .no)) := by kernel_rfl
theorem g7 (ns ds : List Int) (c : Int) : exec (callF P 30) ret7 (Ev ns ds c .no .no .no .no .no .no .no .no) = .ok (.ret (bl true) (Ev ns ds c .no .no .no .no .no .no .no .no)) := by kernel_rfl
theorem turnF_var (j : Nat) (body : Env → Out Fl) (x : G) (ρ : Env) : turnF (.var j) body (.g x) ρ = body (ρ.set j (.own (.g x))) := id rfl
theorem for_rng (cf : CallT) (j k : Nat) (s : S) (ρ : Env) (hk : b62 (k : Int) = true) : exec cf (.for_ (.var j) (.rng1 (.k (.int k))) s) ρ = (forL (turnF (.var j) (exec cf s)) ρ (rangeL 0 k) ρ).bind fun f => .ok f := by
  simp [hk, unl]
/-- the law, at every script -/
theorem law_ok (ns : List Int) (hl : ns.length ≤ 63) : callF P 31 25 [.bor (fl (ns.map G.int))] = .ok (.g (.bl true), []) := by
  have hfl : fl (ns.map G.int) = L ns := by simp [fl, Function.comp_def]
  rw [hfl]
  obtain ⟨ds, e1⟩ := f15 29 ns hl
  obtain ⟨c, e2⟩ := f17 29 ns
  have p1 : exec (callF P 30) (.set 1 (.call 15 (.cons (.var 0) (.cons (.k (.int 200)) .nil)))) [.bor (L ns), .no, .no, .no, .no, .no, .no, .no, .no, .no, .no] = .ok (.next [.bor (L ns), .own (L ds), .no, .no, .no, .no, .no, .no, .no, .no, .no]) := by
    simp [doCall, hasB, toArgs, giveBack, show callF P 30 15 _ = _ from e1]
  have p2 : exec (callF P 30) (.set 2 (.call 17 (.cons (.var 0) .nil))) [.bor (L ns), .own (L ds), .no, .no, .no, .no, .no, .no, .no, .no, .no] = .ok (.next (Ev ns ds c .no .no .no .no .no .no .no .no)) := by
    simp [doCall, hasB, toArgs, giveBack, Ev, show callF P 30 17 _ = _ from e2]
  obtain ⟨ρ3, e3, ds3, q3⟩ := forL_range (turn := turnF (.var 3) (exec (callF P 30) lbT)) (ρ0 := Ev ns ds c .no .no .no .no .no .no .no .no) 4
    (fun i ρ => ∃ ds', ρ = Ev ns ds' c .no .no .no .no .no .no .no .no) ⟨ds, rfl⟩ (fun i _ ρ ⟨ds', h⟩ => by
      subst h
      obtain ⟨ds2, a, b, d, e, q⟩ := turn_ok 24 ns ds' c (I ((0 : Int) + (i : Int)))
      refine ⟨Ev ns ds2 c (.own (I ((0 : Int) + (i : Int)))) a b d .no e .no .no, ?_, ds2, rfl⟩
      · rw [turnF_var]
        have hs : (Ev ns ds' c .no .no .no .no .no .no .no .no).set 3 (.own (.g (.int ((0 : Int) + (i : Int))))) = Ev ns ds' c (.own (I ((0 : Int) + (i : Int)))) .no .no .no .no .no .no .no := rfl
        rw [hs]
        exact q)
  subst q3
  have p3 : exec (callF P 30) (.for_ (.var 3) (.rng1 (.k (.int 4))) lbT) (Ev ns ds c .no .no .no .no .no .no .no .no) = .ok (.next (Ev ns ds3 c .no .no .no .no .no .no .no .no)) := by
    have q := for_rng (callF P 30) 3 4 lbT (Ev ns ds c .no .no .no .no .no .no .no .no) (by decide)
    refine Eq.trans q ?_
    rw [e3]; rfl
  obtain ⟨ρ4, e4, q4⟩ := forL_range (turn := turnF (.var 4) (exec (callF P 30) lb5)) (ρ0 := Ev ns ds3 c .no .no .no .no .no .no .no .no) 5
    (fun i ρ => ρ = Ev ns ds3 c .no .no .no .no .no .no .no .no) rfl (fun i hi ρ h => by
      subst h
      have hs : ∀ k : Int, (Ev ns ds3 c .no .no .no .no .no .no .no .no).set 4 (.own (.g (.int k))) = Ev ns ds3 c .no (.own (I k)) .no .no .no .no .no .no := fun _ => rfl
      rw [turnF_var, hs]
      have : i = 0 ∨ i = 1 ∨ i = 2 ∨ i = 3 ∨ i = 4 := by omega
      rcases this with h | h | h | h | h
      · have e : ((0 : Int) + (i : Int)) = 0 := by omega
        rw [e]
        exact ⟨_, g0 ns ds3 c, rfl⟩
      · have e : ((0 : Int) + (i : Int)) = 1 := by omega
        rw [e]
        exact ⟨_, ga ns ds3 c, rfl⟩
      · have e : ((0 : Int) + (i : Int)) = 2 := by omega
        rw [e]
        exact ⟨_, gb ns ds3 c, rfl⟩
      · have e : ((0 : Int) + (i : Int)) = 3 := by omega
        rw [e]
        exact ⟨_, gc ns ds3 c, rfl⟩
      · have e : ((0 : Int) + (i : Int)) = 4 := by omega
        rw [e]
        exact ⟨_, g4 ns ds3 c, rfl⟩
      )
  subst q4
  have p4 : exec (callF P 30) (.for_ (.var 4) (.rng1 (.k (.int 5))) lb5) (Ev ns ds3 c .no .no .no .no .no .no .no .no) = .ok (.next (Ev ns ds3 c .no .no .no .no .no .no .no .no)) := by
    have q := for_rng (callF P 30) 4 5 lb5 (Ev ns ds3 c .no .no .no .no .no .no .no .no) (by decide)
    refine Eq.trans q ?_
    rw [e4]; rfl
  refine run_of (b := b25) (ns := 11) (ρ := Ev ns ds3 c .no .no .no .no .no .no .no .no) rfl rfl ?_ rfl
  show exec (callF P 30) (.seq (.set 1 (.call 15 (.cons (.var 0) (.cons (.k (.int 200)) .nil)))) (.seq (.set 2 (.call 17 (.cons (.var 0) .nil))) (.seq (.for_ (.var 3) (.rng1 (.k (.int 4))) lbT) (.seq (.for_ (.var 4) (.rng1 (.k (.int 5))) lb5) (.seq if6 ret7))))) [.bor (L ns), .no, .no, .no, .no, .no, .no, .no, .no, .no, .no] = _
  rw [seq_next p1, seq_next p2, seq_next p3, seq_next p4, seq_next (g6 ns ds3 c), g7]
  rfl
end K00
namespace K00
open L2 Pv PyProof.Rows PySem.Spec PySem
def top (i : Nat) : Stmt := PySem.Challenge.pw_oneline_k00_rows_of_bits.main.body.getD i (.Pass ⟨0, 0, 0, 0⟩)
def fnsL : List (Str × Nat × Nat) := [("are_bits", 0, 1), ("check_row", 1, 1), ("nothing", 2, 1), ("is_nothing", 3, 1), ("sum_of", 4, 2), ("sum_of_rows", 5, 2), ("common_bits", 6, 2), ("do_meet", 7, 2), ("ones_of", 8, 1), ("row_of", 9, 2), ("weight_of", 10, 1), ("head_of", 11, 1), ("opposite_of", 12, 1), ("bit_changed", 13, 2), ("all_rows", 14, 1), ("_law_draws", 15, 2), ("_law_take", 16, 2), ("_law_cell", 17, 1), ("_law_same", 18, 2), ("_law_sum", 19, 2), ("_law_bits", 20, 2), ("_law_all", 21, 1), ("_law_meet", 22, 2), ("_law_is_refused", 23, 1), ("_law_is_told", 24, 2), ("law", 25, 1)]
def bltL : List Str := ["ValueError", "abs", "all", "bool", "int", "isinstance", "len", "list", "range", "str", "sum", "tuple"]
def known : Known := ⟨fnsL, bltL, [], [("InvalidBits", 0)], [((0, "LineError"), true)], [((0, "InvalidBits"), true), ((0, "ValueError"), true)]⟩
def r0 : Pv.Row := ⟨"are_bits", top 4, ["row", "bit"], b0⟩
def r1 : Pv.Row := ⟨"check_row", top 5, ["row"], b1⟩
def r2 : Pv.Row := ⟨"nothing", top 6, ["many"], b2⟩
def r3 : Pv.Row := ⟨"is_nothing", top 7, ["row"], b3⟩
def r4 : Pv.Row := ⟨"sum_of", top 8, ["one", "other", "place"], b4⟩
def r5 : Pv.Row := ⟨"sum_of_rows", top 9, ["rows", "many", "found", "row"], b5⟩
def r6 : Pv.Row := ⟨"common_bits", top 10, ["one", "other", "place"], b6⟩
def r7 : Pv.Row := ⟨"do_meet", top 11, ["one", "other"], b7⟩
def r8 : Pv.Row := ⟨"ones_of", top 12, ["row", "place"], b8⟩
def r9 : Pv.Row := ⟨"row_of", top 13, ["places", "many", "place"], b9⟩
def r10 : Pv.Row := ⟨"weight_of", top 14, ["row"], b10⟩
def r11 : Pv.Row := ⟨"head_of", top 15, ["row"], b11⟩
def r12 : Pv.Row := ⟨"opposite_of", top 16, ["row", "bit"], b12⟩
def r13 : Pv.Row := ⟨"bit_changed", top 17, ["row", "place"], b13⟩
def r14 : Pv.Row := ⟨"all_rows", top 18, ["many", "found", "place", "row", "bit"], b14⟩
def r15 : Pv.Row := ⟨"_law_draws", top 20, ["script", "many", "cells", "rest", "draws", "k", "at", "cell", "once"], b15⟩
def r16 : Pv.Row := ⟨"_law_take", top 21, ["draws", "many"], b16⟩
def r17 : Pv.Row := ⟨"_law_cell", top 22, ["script", "cell"], b17⟩
def r18 : Pv.Row := ⟨"_law_same", top 23, ["actual", "due", "k"], b18⟩
def r19 : Pv.Row := ⟨"_law_sum", top 24, ["one", "other", "k"], b19⟩
def r20 : Pv.Row := ⟨"_law_bits", top 25, ["draws", "many", "k"], b20⟩
def r21 : Pv.Row := ⟨"_law_all", top 26, ["many", "rows", "k", "longer", "row"], b21⟩
def r22 : Pv.Row := ⟨"_law_meet", top 27, ["one", "other", "k"], b22⟩
def r23 : Pv.Row := ⟨"_law_is_refused", top 28, ["row", "e"], b23⟩
def r24 : Pv.Row := ⟨"_law_is_told", top 29, ["one", "other", "many", "both", "places", "k", "due", "j", "bit"], b24⟩
def r25 : Pv.Row := ⟨"law", top 30, ["script", "draws", "cell", "turn", "many", "rows", "due", "row", "at", "bad", "k"], b25⟩
def rows : List Pv.Row := [r0, r1, r2, r3, r4, r5, r6, r7, r8, r9, r10, r11, r12, r13, r14, r15, r16, r17, r18, r19, r20, r21, r22, r23, r24, r25]
theorem ok0 : RowOk known r0 := rowOk (by kernel_rfl) (by kernel_rfl) (by kernel_rfl) (by kernel_rfl)
theorem ok1 : RowOk known r1 := rowOk (by kernel_rfl) (by kernel_rfl) (by kernel_rfl) (by kernel_rfl)
theorem ok2 : RowOk known r2 := rowOk (by kernel_rfl) (by kernel_rfl) (by kernel_rfl) (by kernel_rfl)
theorem ok3 : RowOk known r3 := rowOk (by kernel_rfl) (by kernel_rfl) (by kernel_rfl) (by kernel_rfl)
theorem ok4 : RowOk known r4 := rowOk (by kernel_rfl) (by kernel_rfl) (by kernel_rfl) (by kernel_rfl)
theorem ok5 : RowOk known r5 := rowOk (by kernel_rfl) (by kernel_rfl) (by kernel_rfl) (by kernel_rfl)
theorem ok6 : RowOk known r6 := rowOk (by kernel_rfl) (by kernel_rfl) (by kernel_rfl) (by kernel_rfl)
theorem ok7 : RowOk known r7 := rowOk (by kernel_rfl) (by kernel_rfl) (by kernel_rfl) (by kernel_rfl)
theorem ok8 : RowOk known r8 := rowOk (by kernel_rfl) (by kernel_rfl) (by kernel_rfl) (by kernel_rfl)
theorem ok9 : RowOk known r9 := rowOk (by kernel_rfl) (by kernel_rfl) (by kernel_rfl) (by kernel_rfl)
theorem ok10 : RowOk known r10 := rowOk (by kernel_rfl) (by kernel_rfl) (by kernel_rfl) (by kernel_rfl)
theorem ok11 : RowOk known r11 := rowOk (by kernel_rfl) (by kernel_rfl) (by kernel_rfl) (by kernel_rfl)
theorem ok12 : RowOk known r12 := rowOk (by kernel_rfl) (by kernel_rfl) (by kernel_rfl) (by kernel_rfl)
theorem ok13 : RowOk known r13 := rowOk (by kernel_rfl) (by kernel_rfl) (by kernel_rfl) (by kernel_rfl)
theorem ok14 : RowOk known r14 := rowOk (by kernel_rfl) (by kernel_rfl) (by kernel_rfl) (by kernel_rfl)
theorem ok15 : RowOk known r15 := rowOk (by kernel_rfl) (by kernel_rfl) (by kernel_rfl) (by kernel_rfl)
theorem ok16 : RowOk known r16 := rowOk (by kernel_rfl) (by kernel_rfl) (by kernel_rfl) (by kernel_rfl)
theorem ok17 : RowOk known r17 := rowOk (by kernel_rfl) (by kernel_rfl) (by kernel_rfl) (by kernel_rfl)
theorem ok18 : RowOk known r18 := rowOk (by kernel_rfl) (by kernel_rfl) (by kernel_rfl) (by kernel_rfl)
theorem ok19 : RowOk known r19 := rowOk (by kernel_rfl) (by kernel_rfl) (by kernel_rfl) (by kernel_rfl)
theorem ok20 : RowOk known r20 := rowOk (by kernel_rfl) (by kernel_rfl) (by kernel_rfl) (by kernel_rfl)
theorem ok21 : RowOk known r21 := rowOk (by kernel_rfl) (by kernel_rfl) (by kernel_rfl) (by kernel_rfl)
theorem ok22 : RowOk known r22 := rowOk (by kernel_rfl) (by kernel_rfl) (by kernel_rfl) (by kernel_rfl)
theorem ok23 : RowOk known r23 := rowOk (by kernel_rfl) (by kernel_rfl) (by kernel_rfl) (by kernel_rfl)
theorem ok24 : RowOk known r24 := rowOk (by kernel_rfl) (by kernel_rfl) (by kernel_rfl) (by kernel_rfl)
theorem ok25 : RowOk known r25 := rowOk (by kernel_rfl) (by kernel_rfl) (by kernel_rfl) (by kernel_rfl)
theorem okA : ∀ r ∈ rows, RowOk known r := (List.forall_mem_cons.mpr ⟨ok0, (List.forall_mem_cons.mpr ⟨ok1, (List.forall_mem_cons.mpr ⟨ok2, (List.forall_mem_cons.mpr ⟨ok3, (List.forall_mem_cons.mpr ⟨ok4, (List.forall_mem_cons.mpr ⟨ok5, (List.forall_mem_cons.mpr ⟨ok6, (List.forall_mem_cons.mpr ⟨ok7, (List.forall_mem_cons.mpr ⟨ok8, (List.forall_mem_cons.mpr ⟨ok9, (List.forall_mem_cons.mpr ⟨ok10, (List.forall_mem_cons.mpr ⟨ok11, (List.forall_mem_cons.mpr ⟨ok12, (List.forall_mem_cons.mpr ⟨ok13, (List.forall_mem_cons.mpr ⟨ok14, (List.forall_mem_cons.mpr ⟨ok15, (List.forall_mem_cons.mpr ⟨ok16, (List.forall_mem_cons.mpr ⟨ok17, (List.forall_mem_cons.mpr ⟨ok18, (List.forall_mem_cons.mpr ⟨ok19, (List.forall_mem_cons.mpr ⟨ok20, (List.forall_mem_cons.mpr ⟨ok21, (List.forall_mem_cons.mpr ⟨ok22, (List.forall_mem_cons.mpr ⟨ok23, (List.forall_mem_cons.mpr ⟨ok24, (List.forall_mem_cons.mpr ⟨ok25, (fun _ h => nomatch h)⟩)⟩)⟩)⟩)⟩)⟩)⟩)⟩)⟩)⟩)⟩)⟩)⟩)⟩)⟩)⟩)⟩)⟩)⟩)⟩)⟩)⟩)⟩)⟩)⟩)⟩)
theorem fnsA : ∀ p ∈ known.fns, ∃ r, rows[p.2.1]? = some r ∧ r.x = p.1 ∧ r.ps.length = p.2.2 := (List.forall_mem_cons.mpr ⟨⟨r0, rfl, rfl, by kernel_rfl⟩, (List.forall_mem_cons.mpr ⟨⟨r1, rfl, rfl, by kernel_rfl⟩, (List.forall_mem_cons.mpr ⟨⟨r2, rfl, rfl, by kernel_rfl⟩, (List.forall_mem_cons.mpr ⟨⟨r3, rfl, rfl, by kernel_rfl⟩, (List.forall_mem_cons.mpr ⟨⟨r4, rfl, rfl, by kernel_rfl⟩, (List.forall_mem_cons.mpr ⟨⟨r5, rfl, rfl, by kernel_rfl⟩, (List.forall_mem_cons.mpr ⟨⟨r6, rfl, rfl, by kernel_rfl⟩, (List.forall_mem_cons.mpr ⟨⟨r7, rfl, rfl, by kernel_rfl⟩, (List.forall_mem_cons.mpr ⟨⟨r8, rfl, rfl, by kernel_rfl⟩, (List.forall_mem_cons.mpr ⟨⟨r9, rfl, rfl, by kernel_rfl⟩, (List.forall_mem_cons.mpr ⟨⟨r10, rfl, rfl, by kernel_rfl⟩, (List.forall_mem_cons.mpr ⟨⟨r11, rfl, rfl, by kernel_rfl⟩, (List.forall_mem_cons.mpr ⟨⟨r12, rfl, rfl, by kernel_rfl⟩, (List.forall_mem_cons.mpr ⟨⟨r13, rfl, rfl, by kernel_rfl⟩, (List.forall_mem_cons.mpr ⟨⟨r14, rfl, rfl, by kernel_rfl⟩, (List.forall_mem_cons.mpr ⟨⟨r15, rfl, rfl, by kernel_rfl⟩, (List.forall_mem_cons.mpr ⟨⟨r16, rfl, rfl, by kernel_rfl⟩, (List.forall_mem_cons.mpr ⟨⟨r17, rfl, rfl, by kernel_rfl⟩, (List.forall_mem_cons.mpr ⟨⟨r18, rfl, rfl, by kernel_rfl⟩, (List.forall_mem_cons.mpr ⟨⟨r19, rfl, rfl, by kernel_rfl⟩, (List.forall_mem_cons.mpr ⟨⟨r20, rfl, rfl, by kernel_rfl⟩, (List.forall_mem_cons.mpr ⟨⟨r21, rfl, rfl, by kernel_rfl⟩, (List.forall_mem_cons.mpr ⟨⟨r22, rfl, rfl, by kernel_rfl⟩, (List.forall_mem_cons.mpr ⟨⟨r23, rfl, rfl, by kernel_rfl⟩, (List.forall_mem_cons.mpr ⟨⟨r24, rfl, rfl, by kernel_rfl⟩, (List.forall_mem_cons.mpr ⟨⟨r25, rfl, rfl, by kernel_rfl⟩, (fun _ h => nomatch h)⟩)⟩)⟩)⟩)⟩)⟩)⟩)⟩)⟩)⟩)⟩)⟩)⟩)⟩)⟩)⟩)⟩)⟩)⟩)⟩)⟩)⟩)⟩)⟩)⟩)⟩)
theorem rowsP : rows.map Pv.Row.fn = P := by kernel_rfl
def fn : List He.DefD := rows.map Pv.Row.dd
def fa : List He.Fa := (rows.map fun r => He.Fa.glo r.x) ++ (bltL.map He.Fa.free) ++ [.glo "LineError", .glo "InvalidBits", .exc "InvalidBits"]
def exB (K : PySem.W.Frag) : List Bool := [decide (PySem.W.exmOne K (.ref (He.ga K "InvalidBits")) (.ref (He.ga K "LineError")) = some true), excCB K (He.ga K "InvalidBits"), decide (PySem.W.kitOne K (.ref (He.ga K "InvalidBits")) (.ref (He.ga K "InvalidBits")) = some true), decide (PySem.W.kitOne K (.ref (He.ga K "InvalidBits")) (.type "ValueError") = some true)]
def ex (K : PySem.W.Frag) : Bool := (exB K).all id
abbrev R : PySem.W.OpenRow := PySem.W.OpenLaw.row PySem.Challenge.rw_oneline_k00_rows_of_bits
abbrev hk : PySem.W.Hook := hookP 4 fa fn ex
def ob (s : PySem.W.SharedT) : AlP := obsP 4 fa fn ex (HandSHeadRun.getT s)
theorem ob_eq (s : PySem.W.SharedT) : ob s = hk.obs s.abs := obsP_eq (HandSHeadRun.getT_eq s)
def loose0 : List Str := ["LineError", "InvalidBits", "are_bits", "check_row", "nothing", "is_nothing", "sum_of", "sum_of_rows", "common_bits", "do_meet", "ones_of", "row_of", "weight_of", "head_of", "opposite_of", "bit_changed", "all_rows", "_law_draws", "_law_take", "_law_cell", "_law_same", "_law_sum", "_law_bits", "_law_all", "_law_meet", "_law_is_refused", "_law_is_told"]
def loose : List Str := loose0
theorem run (w : World) : HandSHeadRun.RunEq R (PySem.W.view R.prog [30]) hk ob 3000 loose w := by
  intro os
  kernel_rfl
section
variable {mg : Str → Option Value} {h : Heap} {K : PySem.W.Frag}
theorem faG {x : Str} (hx : He.Fa.glo x ∈ fa) (X : K.In h) (G : h.Ns mainGlobals mg) (c : He.SaysD fa fn K) : mg x = some (.ref (He.ga K x)) := He.glo_ok X G (c.facts hx)
theorem faN {x : Str} (hx : He.Fa.free x ∈ fa) (X : K.In h) (G : h.Ns mainGlobals mg) (c : He.SaysD fa fn K) : mg x = none := He.free_ok X G (c.facts hx)
theorem inB {x : Bool} (he : ex K = true) (hx : x ∈ exB K) : x = true := List.all_eq_true.mp he x hx
theorem inL {f : He.Fa} (hx : f ∈ ([.glo "LineError", .glo "InvalidBits", .exc "InvalidBits"] : List He.Fa)) : f ∈ fa := List.mem_append_right _ hx
theorem inF {x : Str} (hx : x ∈ bltL) : He.Fa.free x ∈ fa := List.mem_append_left _ (List.mem_append_right _ (List.mem_map_of_mem hx))
def xc (K : PySem.W.Frag) : Nat → Value
  | 0 => .ref (He.ga K "InvalidBits")
  | _ => .none
theorem facts (X : K.In h) (G : h.Ns mainGlobals mg) (c : He.SaysD fa fn K) (he : ex K = true) : Facts known K mg (xc K) where
  blt := fun x hx => faN (inF hx) X G c
  cs := (fun _ h => nomatch h)
  exs := (List.forall_mem_cons.mpr ⟨(have z := He.exc_ok (c.facts (inL (f := .exc "InvalidBits") (by simp))); ⟨(He.ga K "InvalidBits"), "ValueError", "ValueError.__new__", "ValueError.__init__", He.veBase, rfl, PySem.F.excBase_ValueError, z.1, faG (inL (by simp)) X G c, z.2.1, z.2.2.1, z.2.2.2⟩), (fun _ h => nomatch h)⟩)
  exm := (List.forall_mem_cons.mpr ⟨⟨(.ref (He.ga K "LineError")), .inl (faG (inL (by simp)) X G c), of_decide_eq_true (inB he (List.Mem.head _))⟩, (fun _ h => nomatch h)⟩)
  isx := (List.forall_mem_cons.mpr ⟨⟨(He.ga K "InvalidBits"), (V.ref (He.ga K "InvalidBits")), (.ref (He.ga K "InvalidBits")), rfl, excC_ok (inB he (List.Mem.tail _ (List.Mem.head _))), .inl (faG (inL (by simp)) X G c), rfl, fun _ e => e, of_decide_eq_true (inB he (List.Mem.tail _ (List.Mem.tail _ (List.Mem.head _))))⟩, (List.forall_mem_cons.mpr ⟨⟨(He.ga K "InvalidBits"), (V.ty "ValueError"), (.type "ValueError"), rfl, excC_ok (inB he (List.Mem.tail _ (List.Mem.head _))), .inr ⟨faN (inF (by simp [bltL])) X G c, rfl, by decide⟩, rfl, fun _ e => e, of_decide_eq_true (inB he (List.Mem.tail _ (List.Mem.tail _ (List.Mem.tail _ (List.Mem.head _)))))⟩, (fun _ h => nomatch h)⟩)⟩)
end
end K00
open PyProof.Rows PySem.Calls PySem.W PySem
theorem PySem.Challenge.cw_oneline_k00_rows_of_bits_holds : PySem.Challenge.rw_oneline_k00_rows_of_bits.Holds := by
  w_on; o_law
  refine HandSHeadRun.head_any (r := OpenLaw.row PySem.Challenge.rw_oneline_k00_rows_of_bits) (q := view (OpenLaw.row PySem.Challenge.rw_oneline_k00_rows_of_bits).prog [30]) (H := K00.hk) (ob := K00.ob) (M := 3000) (loose := K00.loose) (d := HandSHeadRun.topDef (OpenLaw.row PySem.Challenge.rw_oneline_k00_rows_of_bits).prog 30) (kwd := []) K00.ob_eq
    (by kernel_rfl) (fun s => by kernel_rfl) K00.run (by kernel_rfl) (by kernel_rfl) (by kernel_rfl) (by rfl) (by first | assumption | decide +kernel) (by decide +kernel) ⟨rfl, rfl, rfl, rfl, rfl, by decide +kernel⟩ ?hw ?hc
  case hw => w_witness2
  case hc =>
    exact Pv.law_walk (l := PySem.Challenge.rw_oneline_k00_rows_of_bits) (n := 31) (m := 4) (fal := K00.fa) (fn := K00.fn) (ex := K00.ex) (k := K00.known) (rows := K00.rows) (i := 25) (r := K00.r25) rfl (by kernel_rfl) ⟨rfl, by decide, by decide⟩ (by kernel_rfl) rfl (by kernel_rfl) K00.okA
      (fun r hr => List.mem_map_of_mem hr) (fun r hr => List.mem_append_left _ (List.mem_append_left _ (List.mem_map_of_mem (f := fun r => He.Fa.glo r.x) hr))) K00.fnsA (fun K h mg X G c he => ⟨_, K00.facts X G c he⟩) (by rw [K00.rowsP]; exact K00.law_ok)
