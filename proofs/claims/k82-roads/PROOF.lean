import PyProof.Rows.All
import Wide.All
import OpenK.AllK
import Wide.FinOn
import HandS.ForSpec
import HandS.TupAny
import HandS.Conv
import HandS.TupLen
import HandS.IsInst
import HandS.SortInts
import HandS.More
import KE.KDictPairs
import HandS.Comp
import HandS.Flt
import HandS.Rev
import HandS.Iter
import KE.GoesEnum
import HandS.WordsExc
import KE.KDictCopyH
import HandS.TupSets
import HandS.SortRule
import HandS.Strs
import HandS.ExcInit
import KE.KExcSuper
import HandS.Exc
import HandS.ExcOwn
import HandS.ExcIs
import PySem.Challenge.RW_castbypowers_k82_roads_to_rows
import HandS.ForMost
set_option Elab.async false
section
set_option autoImplicit false
set_option linter.all false
/-! EvA: values as trees, a small language, its evaluator (own work; no import). -/
namespace Ev

/-- a dict's key: an int or a symbol (a text of the program's table) -/
inductive Ky where
  | i (n : Int)
  | s (n : Nat)
  deriving DecidableEq

/-- a value; lists and dicts by their content; ref k: the k-th cell (a list that is changed in place); xt: a tuple whose object is known whole -/
inductive T where
  | non
  | bl (b : Bool)
  | int (i : Int)
  | sym (n : Nat)
  | tup (ts : List T)
  | lst (ts : List T)
  | dK (ks : List Ky) (ts : List T)
  | dT (ks : List (List Ky)) (ts : List T)
  | ref (k : Nat)
  | xt (ts : List T)

abbrev St := List (List T)
/-- a slot: empty, or a value; true: the list or dict is the slot's own and may be changed in place -/
abbrev Env := List (Option (Bool × T))

inductive R (α : Type) where
  | ok (a : α)
  | exc (c : Nat) (fs : List T) (st : St)
  | bad

def R.bind {α β : Type} (r : R α) (f : α → R β) : R β :=
  match r with
  | .ok a => f a
  | .exc c fs st => .exc c fs st
  | .bad => .bad
def R.noexc {α : Type} (r : R α) : R α :=
  match r with
  | .ok a => .ok a
  | _ => .bad
@[simp] theorem R.bind_ok {α β : Type} (a : α) (f : α → R β) : R.bind (.ok a) f = f a := rfl
@[simp] theorem R.bind_bad {α β : Type} (f : α → R β) : R.bind .bad f = .bad := rfl
@[simp] theorem R.bind_exc {α β : Type} (c : Nat) (fs : List T) (st : St) (f : α → R β) : R.bind (.exc c fs st) f = .exc c fs st := rfl
@[simp] theorem R.noexc_ok {α : Type} (a : α) : R.noexc (.ok a) = .ok a := rfl

/-- the longest list -/
def SZ : Nat := 16777216
/-- ints that a range may have -/
def RG : Int := 4611686018427387904
def W64 : Nat := 18446744073709551616

/-! ### data -/
mutual
/-- == (True is 1) -/
def T.eqv : T → T → Bool
  | .non, .non => true
  | .bl a, .bl b => a == b
  | .bl a, .int j => (if a then 1 else 0) == j
  | .int i, .bl b => i == (if b then 1 else 0)
  | .int i, .int j => i == j
  | .sym x, .sym y => x == y
  | .lst xs, .lst ys => T.eqvs xs ys
  | .tup xs, .tup ys => T.eqvs xs ys
  | _, _ => false
def T.eqvs : List T → List T → Bool
  | [], [] => true
  | x :: xs, y :: ys => T.eqv x y && T.eqvs xs ys
  | _, _ => false
end
mutual
/-- no dict, no cell within -/
def T.plain : T → Bool
  | .non => true
  | .bl _ => true
  | .int _ => true
  | .sym _ => true
  | .tup ts => T.plains ts
  | .lst ts => T.plains ts
  | _ => false
def T.plains : List T → Bool
  | [] => true
  | t :: ts => T.plain t && T.plains ts
end
mutual
def T.depth : T → Nat
  | .tup ts => T.depths ts + 1
  | .lst ts => T.depths ts + 1
  | _ => 0
def T.depths : List T → Nat
  | [] => 0
  | t :: ts => max (T.depth t) (T.depths ts)
end
def T.flat : T → Bool
  | .non => true
  | .bl _ => true
  | .int _ => true
  | .sym _ => true
  | _ => false

def kyOf : T → Option Ky
  | .int n => some (.i n)
  | .sym n => some (.s n)
  | _ => none
def kysOf : List T → Option (List Ky)
  | [] => some []
  | t :: ts => (kyOf t).bind fun k => (kysOf ts).map fun ks => k :: ks
def Ky.t : Ky → T
  | .i n => .int n
  | .s n => .sym n
def kTup (ks : List Ky) : T := .tup (ks.map Ky.t)
def intOf : T → Option Int
  | .int n => some n
  | _ => none
def intsOf : List T → Option (List Int)
  | [] => some []
  | t :: ts => (intOf t).bind fun n => (intsOf ts).map fun ns => n :: ns
def blsOf : List T → Option (List Bool)
  | [] => some []
  | .bl b :: ts => (blsOf ts).map fun bs => b :: bs
  | _ :: _ => none
/-- tuples of ints -/
def tupsOf : List T → Option (List (List Int))
  | [] => some []
  | .tup us :: ts => (intsOf us).bind fun n => (tupsOf ts).map fun ns => n :: ns
  | _ :: _ => none
def kyInts : List Ky → Option (List Int)
  | [] => some []
  | .i n :: ks => (kyInts ks).map fun ns => n :: ns
  | _ :: _ => none

def dGet {κ : Type} [DecidableEq κ] : List κ → List T → κ → Option T
  | k' :: ks, t :: ts, k => if k' = k then some t else dGet ks ts k
  | _, _, _ => none
def dRep {κ : Type} [DecidableEq κ] : List κ → List T → κ → T → List T
  | k' :: ks, t' :: ts, k, t => (if k' = k then t else t') :: dRep ks ts k t
  | _, ts, _, _ => ts
def dPut {κ : Type} [DecidableEq κ] (ks : List κ) (ts : List T) (k : κ) (t : T) : List κ × List T :=
  if k ∈ ks then (ks, dRep ks ts k t) else (ks ++ [k], ts ++ [t])
def dPuts {κ : Type} [DecidableEq κ] : List κ → List T → List κ → List T → List κ × List T
  | ks, ts, k :: kr, t :: tr => dPuts (dPut ks ts k t).1 (dPut ks ts k t).2 kr tr
  | ks, ts, _, _ => (ks, ts)

/-- an index from the left or the right -/
def ixOf (n : Nat) (i : Int) : Option Nat := if 0 ≤ i then (if i < n then some i.toNat else none) else if -(n : Int) ≤ i then some (i + n).toNat else none
/-- a slice's bound -/
def bdOf (n : Nat) (v : Int) : Nat := if v < 0 then (v + n).toNat else min v.toNat n
def cutL {α : Type} (xs : List α) (lo hi : Nat) : List α := (xs.drop lo).take (hi - lo)

def insI (x : Int) : List Int → List Int
  | [] => [x]
  | y :: ys => if x ≤ y then x :: y :: ys else y :: insI x ys
def sortI : List Int → List Int
  | [] => []
  | x :: xs => insI x (sortI xs)
/-- into a rising list, once -/
def insU (x : Int) : List Int → List Int
  | [] => [x]
  | y :: ys => if x < y then x :: y :: ys else if x = y then y :: ys else y :: insU x ys
def setI : List Int → List Int
  | [] => []
  | x :: xs => insU x (setI xs)
def lexLt : List Int → List Int → Bool
  | [], [] => false
  | [], _ :: _ => true
  | _ :: _, [] => false
  | x :: xs, y :: ys => if x = y then lexLt xs ys else decide (x < y)
def insUT (x : List Int) : List (List Int) → List (List Int)
  | [] => [x]
  | y :: ys => if lexLt x y = true then x :: y :: ys else if x = y then y :: ys else y :: insUT x ys
def setT : List (List Int) → List (List Int)
  | [] => []
  | x :: xs => insUT x (setT xs)
def maxI : Int → List Int → Int
  | m, [] => m
  | m, x :: xs => maxI (if m < x then x else m) xs
def minI : Int → List Int → Int
  | m, [] => m
  | m, x :: xs => minI (if x < m then x else m) xs
def sumI : List Int → Int
  | [] => 0
  | x :: xs => x + sumI xs

/-! ### operators -/
inductive U1 where
  | not | neg | toInt | abs | len | tupleOf | listOf | maxL | minL | sumL | anyL | allL | sortI | setI | setT | dictOf | isInt | isBool | isTup | isStr
inductive U2 where
  | add | sub | mul | fdiv | mod | pow | eq | ne | lt | le | gt | ge | isIn | notIn | max2 | min2 | item

abbrev O := R (Bool × T)
def vl (t : T) : O := .ok (false, t)

def lenOf (st : St) : T → Option Nat
  | .tup ts => some ts.length
  | .lst ts => some ts.length
  | .dK ks _ => some ks.length
  | .dT ks _ => some ks.length
  | .ref k => (st[k]?).map List.length
  | .xt ts => some ts.length
  | _ => none
def op1 (st : St) : U1 → T → O
  | .not, .bl b => vl (.bl (!b))
  | .neg, .int i => vl (.int (-i))
  | .toInt, .int i => vl (.int i)
  | .toInt, .bl b => vl (.int (if b then 1 else 0))
  | .abs, .int i => vl (.int (if i < 0 then -i else i))
  | .len, t => match lenOf st t with
    | some n => vl (.int n)
    | none => .bad
  | .tupleOf, .lst ts => vl (.tup ts)
  | .tupleOf, .tup ts => vl (.tup ts)
  | .listOf, .lst ts => .ok (true, .lst ts)
  | .listOf, .tup ts => .ok (true, .lst ts)
  | .listOf, .dT ks _ => .ok (true, .lst (ks.map kTup))
  | .listOf, .dK ks _ => .ok (true, .lst (ks.map Ky.t))
  | .maxL, .lst ts => match intsOf ts with
    | some (m :: ms) => vl (.int (maxI m ms))
    | _ => .bad
  | .minL, .lst ts => match intsOf ts with
    | some (m :: ms) => vl (.int (minI m ms))
    | _ => .bad
  | .sumL, .lst ts => match intsOf ts with
    | some ns => vl (.int (sumI ns))
    | _ => .bad
  | .anyL, .lst ts => match blsOf ts with
    | some bs => vl (.bl (bs.any id))
    | _ => .bad
  | .allL, .lst ts => match blsOf ts with
    | some bs => vl (.bl (bs.all id))
    | _ => .bad
  | .sortI, .lst ts => match intsOf ts with
    | some ns => .ok (true, .lst ((Ev.sortI ns).map T.int))
    | _ => .bad
  | .sortI, .dK ks _ => match kyInts ks with
    | some ns => if ns.length < 64 then .ok (true, .lst ((Ev.sortI ns).map T.int)) else .bad
    | _ => .bad
  | .setI, .lst ts => match intsOf ts with
    | some ns => if ns.length < 4000 then .ok (true, .lst ((Ev.setI ns).map T.int)) else .bad
    | _ => .bad
  | .setT, .lst ts => match tupsOf ts with
    | some ns => if (Ev.setT ns).length < 1228 ∧ [] ∉ ns then .ok (true, .lst ((Ev.setT ns).map fun n => .tup (n.map T.int))) else .bad
    | _ => .bad
  | .dictOf, .xt [] => .ok (true, .dK [] [])
  | .isInt, .int _ => vl (.bl true)
  | .isInt, .bl _ => vl (.bl true)
  | .isInt, .sym _ => vl (.bl false)
  | .isInt, .tup _ => vl (.bl false)
  | .isInt, .non => vl (.bl false)
  | .isBool, .bl _ => vl (.bl true)
  | .isBool, .int _ => vl (.bl false)
  | .isBool, .sym _ => vl (.bl false)
  | .isBool, .tup _ => vl (.bl false)
  | .isBool, .non => vl (.bl false)
  | .isTup, .tup _ => vl (.bl true)
  | .isTup, .xt _ => vl (.bl true)
  | .isTup, .int _ => vl (.bl false)
  | .isTup, .bl _ => vl (.bl false)
  | .isTup, .sym _ => vl (.bl false)
  | .isTup, .non => vl (.bl false)
  | .isStr, .sym _ => vl (.bl true)
  | .isStr, .tup _ => vl (.bl false)
  | .isStr, .int _ => vl (.bl false)
  | .isStr, .bl _ => vl (.bl false)
  | .isStr, .non => vl (.bl false)
  | _, _ => .bad

def inL (x : T) : List T → Bool
  | [] => false
  | y :: ys => T.eqv y x || inL x ys
/-- x in c -/
def memOf (x : T) : T → Option Bool
  | .tup ts => if x.flat = true ∧ ts.all T.flat = true then some (inL x ts) else none
  | .lst ts => if x.flat = true ∧ ts.all T.flat = true then some (inL x ts) else none
  | .dK ks ts => (kyOf x).map fun k => (dGet ks ts k).isSome
  | .dT ks ts => match x with
    | .tup us => (kysOf us).map fun k => (dGet ks ts k).isSome
    | _ => none
  | _ => none
def itemOf (st : St) : T → T → Option T
  | .tup ts, .int i => (ixOf ts.length i).bind fun j => ts[j]?
  | .lst ts, .int i => (ixOf ts.length i).bind fun j => ts[j]?
  | .ref k, .int i => (st[k]?).bind fun ts => (ixOf ts.length i).bind fun j => ts[j]?
  | .dK ks ts, x => (kyOf x).bind fun k => dGet ks ts k
  | .dT ks ts, .tup us => (kysOf us).bind fun k => dGet ks ts k
  | _, _ => none
def eqOf (x y : T) : Option Bool :=
  if T.plain x = true ∧ T.plain y = true ∧ min (T.depth x) (T.depth y) ≤ 64 then some (T.eqv x y) else none
def op2 (st : St) : U2 → T → T → O
  | .add, .int a, .int b => vl (.int (a + b))
  | .add, .tup a, .tup b => if a.length + b.length ≤ SZ then vl (.tup (a ++ b)) else .bad
  | .add, .lst a, .lst b => if a.length + b.length ≤ SZ then .ok (true, .lst (a ++ b)) else .bad
  | .sub, .int a, .int b => vl (.int (a - b))
  | .mul, .int a, .int b => if a.natAbs < W64 ∨ b.natAbs < W64 then vl (.int (a * b)) else .bad
  | .fdiv, .int a, .int b => if 0 < b ∧ b < 1073741824 then vl (.int (a / b)) else .bad
  | .mod, .int a, .int b => if 0 < b then vl (.int (a % b)) else .bad
  | .pow, .int a, .int b => if 0 ≤ b ∧ b ≤ 1000000 ∧ a.natAbs < W64 then vl (.int (a ^ b.toNat)) else .bad
  | .eq, x, y => match eqOf x y with
    | some b => vl (.bl b)
    | none => .bad
  | .ne, x, y => match eqOf x y with
    | some b => vl (.bl (!b))
    | none => .bad
  | .lt, .int a, .int b => vl (.bl (decide (a < b)))
  | .le, .int a, .int b => vl (.bl (decide (a ≤ b)))
  | .gt, .int a, .int b => vl (.bl (decide (b < a)))
  | .ge, .int a, .int b => vl (.bl (decide (b ≤ a)))
  | .isIn, x, y => match memOf x y with
    | some b => vl (.bl b)
    | none => .bad
  | .notIn, x, y => match memOf x y with
    | some b => vl (.bl (!b))
    | none => .bad
  | .max2, .int a, .int b => vl (.int (if b > a then b else a))
  | .min2, .int a, .int b => vl (.int (if b < a then b else a))
  | .item, x, y => match itemOf st x y with
    | some t => vl t
    | none => .bad
  | _, _, _ => .bad
def cutT (lo hi : Option Int) : T → O
  | .tup ts => vl (.tup (cutL ts ((lo.map (bdOf ts.length)).getD 0) ((hi.map (bdOf ts.length)).getD ts.length)))
  | .lst ts => .ok (true, .lst (cutL ts ((lo.map (bdOf ts.length)).getD 0) ((hi.map (bdOf ts.length)).getD ts.length)))
  | _ => .bad

def isD : T → Bool
  | .dK _ _ => true
  | .dT _ _ => true
  | _ => false
/-- d.get(k): what is there -/
def getOf : T → T → Option (Option T)
  | .dK ks ts, x => (kyOf x).map fun k => dGet ks ts k
  | .dT ks ts, .tup us => (kysOf us).map fun k => dGet ks ts k
  | _, _ => none

/-! ### the language -/
inductive G where
  | n (i : Nat)
  | t (is : List Nat)
mutual
inductive E where
  | c (t : T)
  | v (i : Nat)
  | tup (es : List E)
  | xt (es : List E)
  | lst (es : List E)
  | cell (es : List E)
  | u (o : U1) (a : E)
  | b (o : U2) (a b : E)
  | and (a b : E)
  | or (a b : E)
  | ite (c a b : E)
  | chain (o o' : U2) (a b c : E)
  | slTo (a hi : E)
  | slFrom (a lo : E)
  | max3 (a b c : E)
  | call (f : Nat) (es : List E)
  | comp (own : List Nat) (g : G) (it : I) (c : E) (e : E)
  | comp2 (own : List Nat) (g : G) (it : I) (own2 : List Nat) (g2 : G) (it2 : I) (e : E)
  | get (d k x : E)
  | dK0
  | dT0
  | dK1 (k e : E)
  | dT1 (k e : E)
  | rng (a : E)
  | never
inductive I where
  | seq (e : E)
  | rng1 (a : E)
  | rng2 (a b : E)
  | rev (e : E)
  | enum (e : E)
  | keys (i : Nat)
end
inductive S where
  | asg (g : G) (e : E)
  | ret (e : E)
  | ex (e : E)
  | ite (c : E) (a b : List S)
  | for (g : G) (it : I) (body : List S)
  | while (c : E) (body : List S)
  | app (i : Nat) (e : E)
  | ext (i : Nat) (e : E)
  | upd (i : Nat) (e : E)
  | set (i : Nat) (k e : E)
  | fr (is : List Nat)
  | raise (c : Nat) (es : List E)
  | never

/-! ### evaluation -/
abbrev X3 := R (Bool × T × St)
abbrev Cal := Nat → List T → St → X3
def wipe (Γ : Env) : List Nat → Env
  | [] => Γ
  | v :: vs => (wipe Γ vs).set v none
def rd (Γ : Env) (i : Nat) : Option T :=
  match Γ[i]? with
  | some (some (_, t)) => some t
  | _ => none
def rdF (Γ : Env) (i : Nat) : Option T :=
  match Γ[i]? with
  | some (some (false, t)) => some t
  | _ => none
def sets (Γ : Env) : List Nat → List T → Option Env
  | [], [] => some Γ
  | i :: is, t :: ts => sets (Γ.set i (some (false, t))) is ts
  | _, _ => none
def asgG : G → T → Env → Option Env
  | .n i, t, Γ => some (Γ.set i (some (false, t)))
  | .t is, .tup ts, Γ => sets Γ is ts
  | _, _, _ => none
def boolR (r : X3) : R (Bool × St) := r.bind fun x => match x with
  | (_, .bl b, st) => .ok (b, st)
  | _ => .bad
def opR (r : O) (st : St) : X3 := r.bind fun x => .ok (x.1, x.2, st)
/-- f of each item; the lists together -/
def compL (f : T → St → R (List T × St)) : List T → St → R (List T × St)
  | [], st => .ok ([], st)
  | t :: ts, st => (f t st).bind fun x => (compL f ts x.2).bind fun y => .ok (x.1 ++ y.1, y.2)
def rangeT (lo : Int) (n : Nat) : List T := (List.range n).map fun k : Nat => T.int (lo + (k : Int))
def enumT : Nat → List T → List T
  | _, [] => []
  | k, t :: ts => .tup [.int (k : Int), t] :: enumT (k + 1) ts
def itemsOf : T → Option (List T)
  | .lst ts => some ts
  | .tup ts => some ts
  | _ => none

/-- an operand that is looked at and not kept: a slot's own list may be read -/
def bor (Γ : Env) (st : St) (r : X3) : E → X3
  | .v i => match rd Γ i with
    | some t => .ok (false, t, st)
    | none => .bad
  | _ => r
/-- what a loop walks is not the slot's own -/
def retI (Γ : Env) : I → Bool
  | .seq (.v i) => (rdF Γ i).isSome
  | .rev (.v i) => (rdF Γ i).isSome
  | .enum (.v i) => (rdF Γ i).isSome
  | .keys i => (rdF Γ i).isSome
  | _ => true

section
variable (C : Cal)
mutual
def evE : E → Env → St → X3
  | .c t, _, st => .ok (false, t, st)
  | .v i, Γ, st => match rdF Γ i with
    | some t => .ok (false, t, st)
    | none => .bad
  | .tup es, Γ, st => (evEs es Γ st).bind fun x => if x.1.length ≤ SZ then .ok (false, .tup x.1, x.2) else .bad
  | .xt es, Γ, st => (evEs es Γ st).bind fun x => if x.1.length ≤ SZ then .ok (false, .xt x.1, x.2) else .bad
  | .lst es, Γ, st => (evEs es Γ st).bind fun x => if x.1.length ≤ SZ then .ok (true, .lst x.1, x.2) else .bad
  | .cell es, Γ, st => (evEs es Γ st).bind fun x => if x.1.length ≤ SZ then .ok (false, .ref x.2.length, x.2 ++ [x.1]) else .bad
  | .u o a, Γ, st => (bor Γ st (evE a Γ st) a).bind fun x => opR (op1 x.2.2 o x.2.1) x.2.2
  | .b o a b, Γ, st => (bor Γ st (evE a Γ st) a).bind fun x => (bor Γ x.2.2 (evE b Γ x.2.2) b).bind fun y => opR (op2 y.2.2 o x.2.1 y.2.1) y.2.2
  | .and a b, Γ, st => (boolR (evE a Γ st)).bind fun x => if x.1 = true then (boolR (evE b Γ x.2)).bind fun y => .ok (false, .bl y.1, y.2) else .ok (false, .bl false, x.2)
  | .or a b, Γ, st => (boolR (evE a Γ st)).bind fun x => if x.1 = true then .ok (false, .bl true, x.2) else (boolR (evE b Γ x.2)).bind fun y => .ok (false, .bl y.1, y.2)
  | .ite c a b, Γ, st => (boolR (evE c Γ st)).bind fun x => if x.1 = true then evE a Γ x.2 else evE b Γ x.2
  | .chain o o' a b c, Γ, st => (evE a Γ st).bind fun x => (evE b Γ x.2.2).bind fun y => (boolR (opR (op2 y.2.2 o x.2.1 y.2.1) y.2.2)).bind fun k =>
    if k.1 = true then (evE c Γ k.2).bind fun z => opR (op2 z.2.2 o' y.2.1 z.2.1) z.2.2 else .ok (false, .bl false, k.2)
  | .slTo a hi, Γ, st => (bor Γ st (evE a Γ st) a).bind fun x => (evE hi Γ x.2.2).bind fun y => match y.2.1 with
    | .int n => opR (cutT none (some n) x.2.1) y.2.2
    | _ => .bad
  | .slFrom a lo, Γ, st => (bor Γ st (evE a Γ st) a).bind fun x => (evE lo Γ x.2.2).bind fun y => match y.2.1 with
    | .int n => opR (cutT (some n) none x.2.1) y.2.2
    | _ => .bad
  | .max3 a b c, Γ, st => (evE a Γ st).bind fun x => (evE b Γ x.2.2).bind fun y => (evE c Γ y.2.2).bind fun z => match x.2.1, y.2.1, z.2.1 with
    | .int i, .int j, .int k => .ok (false, .int (maxI i [j, k]), z.2.2)
    | _, _, _ => .bad
  | .call f es, Γ, st => (evEs es Γ st).bind fun x => C f x.1 x.2
  | .comp own g it c e, Γ, st => (evI it Γ st).bind fun x => (R.noexc (compL (fun t s => match asgG g t (wipe Γ own) with
      | none => .bad
      | some Γ1 => (boolR (evE c Γ1 s)).bind fun y => if y.1 = true then (evE e Γ1 y.2).bind fun z => .ok ([z.2.1], z.2.2) else .ok ([], y.2)) x.1 x.2)).bind fun r =>
        if r.1.length ≤ SZ then .ok (true, .lst r.1, r.2) else .bad
  | .comp2 own g it own2 g2 it2 e, Γ, st => (evI it Γ st).bind fun x => (R.noexc (compL (fun t s => match asgG g t (wipe Γ own) with
      | none => .bad
      | some Γ1 => if retI Γ1 it2 = true then (evI it2 Γ1 s).bind fun y => compL (fun t2 s2 => match asgG g2 t2 (wipe Γ1 own2) with
        | none => .bad
        | some Γ2 => (evE e Γ2 s2).bind fun z => .ok ([z.2.1], z.2.2)) y.1 y.2 else .bad) x.1 x.2)).bind fun r =>
        if r.1.length ≤ SZ then .ok (true, .lst r.1, r.2) else .bad
  | .get d k z, Γ, st => (bor Γ st (evE d Γ st) d).bind fun x => if isD x.2.1 = true then (evE k Γ x.2.2).bind fun y => (evE z Γ y.2.2).bind fun w => match getOf x.2.1 y.2.1 with
    | some o => .ok (false, o.getD w.2.1, w.2.2)
    | none => .bad
    else .bad
  | .dK0, _, st => .ok (true, .dK [] [], st)
  | .dT0, _, st => .ok (true, .dT [] [], st)
  | .dK1 k e, Γ, st => (evE k Γ st).bind fun x => (evE e Γ x.2.2).bind fun y => match kyOf x.2.1 with
    | some k => .ok (true, .dK [k] [y.2.1], y.2.2)
    | none => .bad
  | .dT1 k e, Γ, st => (evE k Γ st).bind fun x => (evE e Γ x.2.2).bind fun y => match x.2.1 with
    | .tup us => match kysOf us with
      | some k => .ok (true, .dT [k] [y.2.1], y.2.2)
      | none => .bad
    | _ => .bad
  | .rng a, Γ, st => (evE a Γ st).bind fun x => match x.2.1 with
    | .int n => if 0 ≤ n ∧ n ≤ (SZ : Int) then .ok (true, .lst (rangeT 0 n.toNat), x.2.2) else .bad
    | _ => .bad
  | .never, _, _ => .bad
def evEs : List E → Env → St → R (List T × St)
  | [], _, st => .ok ([], st)
  | e :: es, Γ, st => (evE e Γ st).bind fun x => (evEs es Γ x.2.2).bind fun y => .ok (x.2.1 :: y.1, y.2)
def evI : I → Env → St → R (List T × St)
  | .seq e, Γ, st => (bor Γ st (evE e Γ st) e).bind fun x => match itemsOf x.2.1 with
    | some ts => .ok (ts, x.2.2)
    | none => .bad
  | .rng1 a, Γ, st => (evE a Γ st).bind fun x => match x.2.1 with
    | .int n => if -RG ≤ n ∧ n < RG then .ok (rangeT 0 n.toNat, x.2.2) else .bad
    | _ => .bad
  | .rng2 a b, Γ, st => (evE a Γ st).bind fun x => (evE b Γ x.2.2).bind fun y => match x.2.1, y.2.1 with
    | .int m, .int n => if -RG ≤ m ∧ m < RG ∧ -RG ≤ n ∧ n < RG then .ok (rangeT m (n - m).toNat, y.2.2) else .bad
    | _, _ => .bad
  | .rev e, Γ, st => (bor Γ st (evE e Γ st) e).bind fun x => match x.2.1 with
    | .tup ts => .ok (ts.reverse, x.2.2)
    | _ => .bad
  | .enum e, Γ, st => (bor Γ st (evE e Γ st) e).bind fun x => match x.2.1 with
    | .tup ts => .ok (enumT 0 ts, x.2.2)
    | _ => .bad
  | .keys i, Γ, st => match rdF Γ i with
    | some (.dK ks _) => .ok (ks.map Ky.t, st)
    | some (.dT ks _) => .ok (ks.map kTup, st)
    | _ => .bad
end
/-! ### statements -/
inductive F where
  | nx (Γ : Env) (st : St)
  | ret (own : Bool) (t : T) (st : St)
  | exc (c : Nat) (fs : List T) (st : St)
  | bad
def R.f {α : Type} (r : R α) (k : α → F) : F :=
  match r with
  | .ok a => k a
  | .exc c fs st => .exc c fs st
  | .bad => .bad
@[simp] theorem R.f_ok {α : Type} (a : α) (k : α → F) : R.f (.ok a) k = k a := rfl
@[simp] theorem R.f_bad {α : Type} (k : α → F) : R.f .bad k = .bad := rfl
@[simp] theorem R.f_exc {α : Type} (c : Nat) (fs : List T) (st : St) (k : α → F) : R.f (.exc c fs st) k = .exc c fs st := rfl
def F.then (r : F) (k : Env → St → F) : F :=
  match r with
  | .nx Γ st => k Γ st
  | r => r
@[simp] theorem F.then_nx (Γ : Env) (st : St) (k : Env → St → F) : F.then (.nx Γ st) k = k Γ st := rfl
@[simp] theorem F.then_ret (o : Bool) (t : T) (st : St) (k : Env → St → F) : F.then (.ret o t st) k = .ret o t st := rfl
@[simp] theorem F.then_exc (c : Nat) (fs : List T) (st : St) (k : Env → St → F) : F.then (.exc c fs st) k = .exc c fs st := rfl
@[simp] theorem F.then_bad (k : Env → St → F) : F.then .bad k = .bad := rfl
def forL (f : T → Env → St → F) : List T → Env → St → F
  | [], Γ, st => .nx Γ st
  | t :: ts, Γ, st => (f t Γ st).then fun Γ1 st1 => forL f ts Γ1 st1
def whileL (c : Env → St → R (Bool × St)) (f : Env → St → F) : Nat → Env → St → F
  | 0, _, _ => .bad
  | n + 1, Γ, st => (c Γ st).f fun x => if x.1 = true then (f Γ x.2).then fun Γ1 st1 => whileL c f n Γ1 st1 else .nx Γ x.2
def unown (Γ : Env) : List Nat → Env
  | [] => Γ
  | i :: is => match Γ[i]? with
    | some (some (_, t)) => unown (Γ.set i (some (false, t))) is
    | _ => unown Γ is
/-- keys whose hashes are told apart (EvUpd): at most two ints from 0 to 63 -/
def boxK : List Ky → Bool
  | [] => true
  | [.i n] => decide (0 ≤ n ∧ n < 64)
  | [.i n, .i m] => decide (0 ≤ n ∧ n < 64) && decide (0 ≤ m ∧ m < 64)
  | _ => false
/-- a list or dict of the slot's own, or a cell -/
def rcv (Γ : Env) (i : Nat) : Bool :=
  match Γ[i]? with
  | some (some (true, _)) => true
  | some (some (_, .ref _)) => true
  | _ => false
def rcvT (Γ : Env) (i : Nat) : Bool :=
  match Γ[i]? with
  | some (some (true, .dT _ _)) => true
  | _ => false
theorem rcvT_shape {Γ : Env} {i : Nat} (h : rcvT Γ i = true) : ∃ ks ts, Γ[i]? = some (some (true, .dT ks ts)) := by
  unfold rcvT at h
  split at h
  · exact ⟨_, _, by assumption⟩
  · cases h
def rcvL (Γ : Env) (i : Nat) : Bool :=
  match Γ[i]? with
  | some (some (true, .lst _)) => true
  | some (some (_, .ref _)) => true
  | _ => false
theorem rcvL_shape {Γ : Env} {i : Nat} (h : rcvL Γ i = true) : (∃ ts, Γ[i]? = some (some (true, .lst ts))) ∨ ∃ o k, Γ[i]? = some (some (o, .ref k)) := by
  unfold rcvL at h
  split at h
  · exact .inl ⟨_, by assumption⟩
  · exact .inr ⟨_, _, by assumption⟩
  · cases h
theorem rcvL_rcv {Γ : Env} {i : Nat} (h : rcvL Γ i = true) : rcv Γ i = true := by
  rcases rcvL_shape h with ⟨ts, e⟩ | ⟨o, k, e⟩ <;> unfold rcv <;> rw [e]
  cases o <;> rfl
/-- l.append(x) at slot i -/
def appAt (Γ : Env) (st : St) (i : Nat) (x : T) : F :=
  match Γ[i]? with
  | some (some (true, .lst ts)) => if ts.length < SZ then .nx (Γ.set i (some (true, .lst (ts ++ [x])))) st else .bad
  | some (some (_, .ref k)) => match st[k]? with
    | some ts => if ts.length < SZ then .nx Γ (st.set k (ts ++ [x])) else .bad
    | none => .bad
  | _ => .bad
def extAt (Γ : Env) (st : St) (i : Nat) : T → F
  | .lst us => match Γ[i]? with
    | some (some (true, .lst ts)) => if ts.length + us.length ≤ SZ then .nx (Γ.set i (some (true, .lst (ts ++ us)))) st else .bad
    | _ => .bad
  | .tup us => match Γ[i]? with
    | some (some (true, .lst ts)) => if ts.length + us.length ≤ SZ then .nx (Γ.set i (some (true, .lst (ts ++ us)))) st else .bad
    | _ => .bad
  | _ => .bad
def updAt (Γ : Env) (st : St) (i : Nat) : T → F
  | .dT ks us => match Γ[i]? with
    | some (some (true, .dT ks0 ts)) => if ks0.length + ks.length ≤ SZ ∧ (ks0 ≠ [] ∨ (ks.Nodup ∧ ks.all boxK = true)) then .nx (Γ.set i (some (true, .dT (dPuts ks0 ts ks us).1 (dPuts ks0 ts ks us).2))) st else .bad
    | _ => .bad
  | _ => .bad
def setAt (Γ : Env) (st : St) (i : Nat) (k x : T) : F :=
  match Γ[i]? with
  | some (some (true, .dK ks ts)) => match kyOf k with
    | some y => if ks.length < SZ then .nx (Γ.set i (some (true, .dK (dPut ks ts y x).1 (dPut ks ts y x).2))) st else .bad
    | none => .bad
  | some (some (true, .dT ks ts)) => match k with
    | .tup us => match kysOf us with
      | some y => if ks.length < SZ then .nx (Γ.set i (some (true, .dT (dPut ks ts y x).1 (dPut ks ts y x).2))) st else .bad
      | none => .bad
    | _ => .bad
  | some (some (_, .ref c)) => match k, st[c]? with
    | .int n, some ts => match ixOf ts.length n with
      | some j => .nx Γ (st.set c (ts.set j x))
      | none => .bad
    | _, _ => .bad
  | _ => .bad
/-- what a return hands back: a slot's own list goes with it -/
def retE (Γ : Env) (st : St) (r : X3) : E → X3
  | .v i => match Γ[i]? with
    | some (some (o, t)) => .ok (o, t, st)
    | _ => .bad
  | _ => r
/-- no exception out of a loop over a dict -/
def F.lk : I → F → F
  | .keys _, .exc _ _ _ => .bad
  | _, r => r
def notV (i : Nat) : E → Bool
  | .v j => decide (j ≠ i)
  | _ => true
variable (W : Nat)
mutual
def evS : S → Env → St → F
  | .asg g e, Γ, st => (evE C e Γ st).f fun x => match g with
    | .n i => .nx (Γ.set i (some (x.1, x.2.1))) x.2.2
    | .t is => match x.2.1 with
      | .tup ts => match sets Γ is ts with
        | some Γ1 => .nx Γ1 x.2.2
        | none => .bad
      | _ => .bad
  | .ret e, Γ, st => (retE Γ st (evE C e Γ st) e).f fun x => .ret x.1 x.2.1 x.2.2
  | .ex e, Γ, st => (evE C e Γ st).f fun x => .nx Γ x.2.2
  | .ite c a b, Γ, st => (boolR (evE C c Γ st)).f fun x => if x.1 = true then evSs a Γ x.2 else evSs b Γ x.2
  | .for g it body, Γ, st => if retI Γ it = true then F.lk it ((evI C it Γ st).f fun x => forL (fun t Γ1 s1 => match asgG g t Γ1 with
      | none => .bad
      | some Γ2 => evSs body Γ2 s1) x.1 Γ x.2) else .bad
  | .while c body, Γ, st => whileL (fun Γ1 s1 => boolR (evE C c Γ1 s1)) (fun Γ1 s1 => evSs body Γ1 s1) W Γ st
  | .app i e, Γ, st => if rcvL Γ i = true then (evE C e Γ st).f fun x => appAt Γ x.2.2 i x.2.1 else .bad
  | .ext i e, Γ, st => if rcvL Γ i = true then (evE C e Γ st).f fun x => if x.1 = true then extAt Γ x.2.2 i x.2.1 else .bad else .bad
  | .upd i e, Γ, st => if rcvT Γ i = true ∧ notV i e = true then (bor Γ st (evE C e Γ st) e).f fun x => updAt Γ x.2.2 i x.2.1 else .bad
  | .set i k e, Γ, st => (evE C e Γ st).f fun x => if rcv Γ i = true then (evE C k Γ x.2.2).f fun y => setAt Γ y.2.2 i y.2.1 x.2.1 else .bad
  | .fr is, Γ, st => .nx (unown Γ is) st
  | .raise c es, Γ, st => (evEs C es Γ st).f fun x => .exc c x.1 x.2
  | .never, _, _ => .bad
def evSs : List S → Env → St → F
  | [], Γ, st => .nx Γ st
  | s :: ss, Γ, st => (evS s Γ st).then fun Γ1 st1 => evSs ss Γ1 st1
end
end

/-! ### defs -/
structure Fd where
  np : Nat
  nl : Nat
  body : List S
inductive Df where
  | ir (d : Fd)
  | nat (g : Cal → List T → St → X3)
  | no
def startE (n : Nat) (ts : List T) : Env := ts.map (fun t => some (false, t)) ++ List.replicate (n - ts.length) none
def fin : F → X3
  | .nx _ st => .ok (false, .non, st)
  | .ret o t st => .ok (o, t, st)
  | .exc c fs st => .exc c fs st
  | .bad => .bad
def callD (P : Nat → Df) (W : Nat) : Nat → Cal
  | 0, _, _, _ => .bad
  | d + 1, f, ts, st => match P f with
    | .ir fd => if ts.length = fd.np then fin (evSs (callD P W d) W fd.body (startE fd.nl ts) st) else .bad
    | .nat g => g (callD P W d) ts st
    | .no => .bad
end Ev
end

section
set_option autoImplicit false
set_option linter.all false
set_option maxRecDepth 1000000
set_option maxHeartbeats 1000000
namespace K82
open Ev
/-- inner_blocks -/
def d_inner_blocks : Fd := ⟨1, 1, [.ite (.b .isIn (.b .item (.v 0) (.c (.int 0))) (.tup [.c (.sym 1), .c (.sym 2)])) [.ret (.tup [.b .item (.v 0) (.c (.int 2)), .b .item (.v 0) (.c (.int 3))])] [], .ite (.b .eq (.b .item (.v 0) (.c (.int 0))) (.c (.sym 3))) [.ret (.tup [.b .item (.v 0) (.c (.int 2))])] [], .ret (.tup [])]⟩
/-- cap -/
def d_cap : Fd := ⟨1, 2, [.ite (.b .eq (.b .item (.v 0) (.c (.int 0))) (.c (.sym 4))) [.ret (.b .item (.v 0) (.c (.int 2)))] [], .ite (.b .eq (.b .item (.v 0) (.c (.int 0))) (.c (.sym 5))) [.ret (.b .add (.b .item (.v 0) (.c (.int 2))) (.c (.int 1)))] [], .ret (.u .maxL (.comp [1] (.n 1) (.seq (.slFrom (.v 0) (.c (.int 1)))) (.c (.bl true)) (.call 1 [.v 1])))]⟩
/-- row_need -/
def d_row_need : Fd := ⟨2, 2, [.ite (.b .eq (.b .item (.v 0) (.c (.int 0))) (.c (.sym 6))) [.ret (.b .add (.v 1) (.b .item (.v 0) (.c (.int 2))))] [], .ite (.b .eq (.b .item (.v 0) (.c (.int 0))) (.c (.sym 7))) [.ret (.b .max2 (.v 1) (.call 1 [.b .item (.v 0) (.c (.int 1))]))] [], .ite (.b .eq (.b .item (.v 0) (.c (.int 0))) (.c (.sym 2))) [.ret (.max3 (.call 1 [.b .item (.v 0) (.c (.int 1))]) (.call 3 [.b .item (.v 0) (.c (.int 2)), .v 1]) (.call 3 [.b .item (.v 0) (.c (.int 3)), .v 1]))] [], .ite (.b .eq (.b .item (.v 0) (.c (.int 0))) (.c (.sym 1))) [.ret (.b .max2 (.call 3 [.b .item (.v 0) (.c (.int 2)), .v 1]) (.call 3 [.b .item (.v 0) (.c (.int 3)), .v 1]))] [], .ret (.v 1)]⟩
/-- need -/
def d_need : Fd := ⟨2, 3, [.for (.n 2) (.rev (.v 0)) [.fr [1], .asg (.n 1) (.call 2 [.v 2, .v 1])], .ret (.v 1)]⟩
/-- regions -/
def d_regions : Fd := ⟨2, 6, [.asg (.n 2) (.lst [.tup []]), .for (.n 3) (.rng1 (.v 0)) [.asg (.n 2) (.comp2 [4, 5] (.n 4) (.seq (.v 2)) [5] (.n 5) (.rng2 (.c (.int (-1))) (.v 1)) (.b .add (.v 4) (.tup [.v 5])))], .ret (.u .tupleOf (.v 2))]⟩
/-- holds -/
def d_holds : Fd := ⟨2, 2, [.ite (.b .eq (.b .item (.v 0) (.c (.int 0))) (.c (.sym 4))) [.ret (.b .lt (.b .item (.v 1) (.b .item (.v 0) (.c (.int 1)))) (.b .item (.v 0) (.c (.int 2))))] [], .ite (.b .eq (.b .item (.v 0) (.c (.int 0))) (.c (.sym 5))) [.ret (.b .eq (.b .item (.v 1) (.b .item (.v 0) (.c (.int 1)))) (.b .item (.v 0) (.c (.int 2))))] [], .ite (.b .eq (.b .item (.v 0) (.c (.int 0))) (.c (.sym 8))) [.ret (.u .not (.call 5 [.b .item (.v 0) (.c (.int 1)), .v 1]))] [], .ite (.b .eq (.b .item (.v 0) (.c (.int 0))) (.c (.sym 9))) [.ret (.and (.call 5 [.b .item (.v 0) (.c (.int 1)), .v 1]) (.call 5 [.b .item (.v 0) (.c (.int 2)), .v 1]))] [], .ret (.or (.call 5 [.b .item (.v 0) (.c (.int 1)), .v 1]) (.call 5 [.b .item (.v 0) (.c (.int 2)), .v 1]))]⟩
/-- holds_in -/
def d_holds_in : Fd := ⟨3, 4, [.ret (.call 5 [.v 0, .comp [3] (.n 3) (.seq (.v 2)) (.c (.bl true)) (.ite (.b .eq (.v 3) (.c (.int (-1)))) (.v 1) (.v 3))])]⟩
/-- put_loops -/
def d_put_loops : Fd := ⟨2, 4, [.asg (.n 2) (.lst []), .for (.n 3) (.seq (.v 0)) [.ite (.b .eq (.b .item (.v 3) (.c (.int 0))) (.c (.sym 3))) [.never] [.ite (.b .isIn (.b .item (.v 3) (.c (.int 0))) (.tup [.c (.sym 2), .c (.sym 1)])) [.app 2 (.tup [.b .item (.v 3) (.c (.int 0)), .b .item (.v 3) (.c (.int 1)), .call 7 [.b .item (.v 3) (.c (.int 2)), .v 1], .call 7 [.b .item (.v 3) (.c (.int 3)), .v 1]])] [.app 2 (.v 3)]]], .ret (.u .tupleOf (.v 2))]⟩
/-- promised -/
def d_promised : Fd := ⟨1, 1, [.ret (.call 60 [.v 0, .call 7 [.b .item (.v 0) (.c (.int 6)), .u .dictOf (.b .item (.v 0) (.c (.int 4)))]])]⟩
/-- lowered -/
def d_lowered : Fd := ⟨2, 4, [.ret (.u .tupleOf (.u .setT (.comp [2] (.n 2) (.seq (.v 0)) (.c (.bl true)) (.u .tupleOf (.comp [3] (.n 3) (.seq (.v 2)) (.c (.bl true)) (.ite (.b .ge (.v 3) (.v 1)) (.c (.int (-1))) (.v 3)))))))]⟩
/-- draw_numbers -/
def d_draw_numbers : Fd := ⟨2, 4, [.ite (.b .eq (.b .item (.v 0) (.c (.int 0))) (.c (.sym 10))) [.ret (.rng (.b .add (.v 1) (.c (.int 1))))] [], .ret (.u .setI (.comp [2, 3] (.t [2, 3]) (.seq (.b .item (.v 0) (.c (.int 1)))) (.c (.bl true)) (.b .min2 (.v 1) (.v 2))))]⟩
/-- sums_below -/
def d_sums_below : Fd := ⟨2, 5, [.asg (.n 2) (.lst [.c (.int 0)]), .for (.n 3) (.rng2 (.c (.int 1)) (.v 1)) [.ite (.u .anyL (.comp [4] (.n 4) (.seq (.v 0)) (.c (.bl true)) (.and (.chain .lt .le (.c (.int 0)) (.v 4) (.v 3)) (.b .isIn (.b .sub (.v 3) (.v 4)) (.v 2))))) [.app 2 (.v 3)] []], .ret (.v 2)]⟩
/-- sums_of -/
def d_sums_of : Fd := ⟨3, 7, [.asg (.n 3) (.lst [.c (.int 0)]), .for (.n 4) (.rng1 (.v 1)) [.asg (.n 3) (.u .setI (.comp2 [5, 6] (.n 5) (.seq (.v 3)) [6] (.n 6) (.seq (.v 0)) (.b .min2 (.v 2) (.b .add (.v 5) (.v 6)))))], .ret (.v 3)]⟩
/-- drawn -/
def d_drawn : Fd := ⟨4, 6, [.asg (.n 4) (.call 10 [.v 1, .v 3]), .ite (.or (.b .eq (.v 0) (.c (.int (-1)))) (.b .eq (.v 4) (.lst [.c (.int 0)]))) [.ret (.lst [.v 0])] [], .ite (.b .ne (.v 2) (.c (.int (-1)))) [.fr [4], .ret (.comp [5] (.n 5) (.seq (.call 12 [.v 4, .v 2, .v 3])) (.c (.bl true)) (.b .add (.v 0) (.v 5)))] [], .ite (.b .gt (.b .item (.v 4) (.c (.int 0))) (.c (.int 0))) [.ret (.lst [.c (.int (-1))])] [], .fr [4], .ret (.b .add (.comp [5] (.n 5) (.seq (.call 11 [.v 4, .v 3])) (.c (.bl true)) (.b .add (.v 0) (.v 5))) (.lst [.c (.int (-1))]))]⟩
/-- numbers_behind -/
def d_numbers_behind : Fd := ⟨3, 6, [.asg (.n 3) (.b .item (.v 0) (.c (.int 0))), .asg (.n 4) (.b .item (.v 1) (.b .item (.v 0) (.c (.int 1)))), .ite (.b .eq (.v 3) (.c (.sym 11))) [.ret (.lst [.b .item (.v 0) (.c (.int 2))])] [], .ite (.b .eq (.v 3) (.c (.sym 12))) [.ret (.lst [.b .item (.v 1) (.b .item (.v 0) (.c (.int 2)))])] [], .ite (.b .eq (.v 3) (.c (.sym 13))) [.ret (.call 13 [.v 4, .b .item (.v 0) (.c (.int 2)), .c (.int 1), .v 2])] [], .ite (.b .eq (.v 3) (.c (.sym 14))) [.ret (.call 13 [.v 4, .b .item (.v 0) (.c (.int 2)), .b .item (.v 1) (.b .item (.v 0) (.c (.int 3))), .v 2])] [], .ite (.b .eq (.v 4) (.c (.int (-1)))) [.ret (.lst [.c (.int (-1))])] [], .ite (.b .eq (.v 3) (.c (.sym 6))) [.ret (.lst [.b .max2 (.c (.int 0)) (.b .sub (.v 4) (.b .item (.v 0) (.c (.int 2))))])] [], .ite (.b .eq (.v 3) (.c (.sym 15))) [.ret (.lst [.b .add (.v 4) (.b .item (.v 0) (.c (.int 2)))])] [], .asg (.n 5) (.b .item (.v 1) (.b .item (.v 0) (.c (.int 3)))), .ret (.ite (.b .eq (.v 5) (.c (.int (-1)))) (.lst [.c (.int (-1))]) (.lst [.b .add (.v 4) (.b .mul (.b .item (.v 0) (.c (.int 2))) (.v 5))]))]⟩
/-- simple_states -/
def d_simple_states : Fd := ⟨3, 7, [.asg (.n 3) (.b .item (.v 0) (.c (.int 1))), .asg (.n 4) (.lst []), .for (.n 5) (.seq (.v 1)) [.ext 4 (.comp [6] (.n 6) (.seq (.call 14 [.v 0, .v 5, .v 2])) (.c (.bl true)) (.b .add (.b .add (.slTo (.v 5) (.v 3)) (.tup [.v 6])) (.slFrom (.v 5) (.b .add (.v 3) (.c (.int 1))))))], .ret (.v 4)]⟩
/-- row_states -/
def d_row_states : Fd := ⟨3, 7, [.asg (.n 3) (.call 2 [.v 0, .v 2]), .fr [1, 3], .asg (.n 1) (.call 9 [.v 1, .v 3]), .ite (.b .eq (.b .item (.v 0) (.c (.int 0))) (.c (.sym 1))) [.fr [1], .ret (.call 9 [.b .add (.call 17 [.b .item (.v 0) (.c (.int 2)), .v 1, .v 2]) (.call 17 [.b .item (.v 0) (.c (.int 3)), .v 1, .v 2]), .v 2])] [], .ite (.b .eq (.b .item (.v 0) (.c (.int 0))) (.c (.sym 2))) [.fr [3], .asg (.n 4) (.comp [6] (.n 6) (.seq (.v 1)) (.call 6 [.b .item (.v 0) (.c (.int 1)), .v 3, .v 6]) (.v 6)), .fr [3], .asg (.n 5) (.comp [6] (.n 6) (.seq (.v 1)) (.u .not (.call 6 [.b .item (.v 0) (.c (.int 1)), .v 3, .v 6])) (.v 6)), .fr [4, 5], .ret (.call 9 [.b .add (.call 17 [.b .item (.v 0) (.c (.int 2)), .v 4, .v 2]) (.call 17 [.b .item (.v 0) (.c (.int 3)), .v 5, .v 2]), .v 2])] [], .ite (.b .eq (.b .item (.v 0) (.c (.int 0))) (.c (.sym 7))) [.fr [3], .ret (.call 9 [.comp [6] (.n 6) (.seq (.v 1)) (.call 6 [.b .item (.v 0) (.c (.int 1)), .v 3, .v 6]) (.v 6), .v 2])] [], .fr [1], .ret (.call 9 [.call 15 [.v 0, .v 1, .v 2], .v 2])]⟩
/-- block_states -/
def d_block_states : Fd := ⟨3, 5, [.for (.t [3, 4]) (.enum (.v 0)) [.fr [1], .asg (.n 1) (.call 16 [.v 4, .v 1, .call 3 [.slFrom (.v 0) (.b .add (.v 3) (.c (.int 1))), .v 2]])], .fr [1], .ret (.call 9 [.v 1, .v 2])]⟩
/-- ends -/
def d_ends : Fd := ⟨2, 6, [.asg (.n 2) (.b .item (.call 8 [.v 0]) (.c (.int 6))), .asg (.n 3) (.call 1 [.v 1]), .fr [3], .asg (.n 4) (.call 3 [.v 2, .v 3]), .fr [3, 4], .ret (.tup [.v 4, .u .tupleOf (.comp [5] (.n 5) (.seq (.call 4 [.u .len (.b .item (.v 0) (.c (.int 2))), .v 4])) (.c (.bl true)) (.tup [.v 5, .call 17 [.v 2, .tup [.v 5], .v 3]]))])]⟩
/-- is_path_number -/
def d_is_path_number : Fd := ⟨1, 1, [.ret (.and (.u .isInt (.v 0)) (.and (.u .not (.u .isBool (.v 0))) (.b .ge (.v 0) (.c (.int 0)))))]⟩
/-- has_path -/
def d_has_path : Fd := ⟨2, 3, [.ite (.or (.u .not (.u .isTup (.v 1))) (.or (.b .eq (.v 1) (.tup [])) (.or (.u .not (.call 19 [.b .item (.v 1) (.c (.int 0))])) (.b .ge (.b .item (.v 1) (.c (.int 0))) (.u .len (.v 0)))))) [.ret (.c (.bl false))] [], .ite (.b .eq (.u .len (.v 1)) (.c (.int 1))) [.ret (.c (.bl true))] [], .asg (.n 2) (.call 0 [.b .item (.v 0) (.b .item (.v 1) (.c (.int 0)))]), .ite (.or (.u .not (.call 19 [.b .item (.v 1) (.c (.int 1))])) (.b .ge (.b .item (.v 1) (.c (.int 1))) (.u .len (.v 2)))) [.ret (.c (.bl false))] [], .ret (.call 20 [.b .item (.v 2) (.b .item (.v 1) (.c (.int 1))), .slFrom (.v 1) (.c (.int 2))])]⟩
/-- road_rows -/
def d_road_rows : Fd := ⟨2, 5, [.asg (.n 2) (.b .item (.v 1) (.c (.int 0))), .ite (.b .eq (.u .len (.v 1)) (.c (.int 1))) [.ret (.slTo (.v 0) (.v 2))] [], .asg (.n 3) (.b .item (.v 0) (.v 2)), .asg (.n 4) (.slTo (.v 0) (.v 2)), .ite (.and (.b .eq (.b .item (.v 3) (.c (.int 0))) (.c (.sym 2))) (.b .eq (.b .item (.v 1) (.c (.int 1))) (.c (.int 0)))) [.asg (.n 4) (.b .add (.v 4) (.tup [.tup [.c (.sym 7), .b .item (.v 3) (.c (.int 1))]]))] [], .ite (.and (.b .eq (.b .item (.v 3) (.c (.int 0))) (.c (.sym 2))) (.b .eq (.b .item (.v 1) (.c (.int 1))) (.c (.int 1)))) [.asg (.n 4) (.b .add (.v 4) (.tup [.tup [.c (.sym 7), .tup [.c (.sym 8), .b .item (.v 3) (.c (.int 1))]]]))] [], .ret (.b .add (.v 4) (.call 21 [.b .item (.call 0 [.v 3]) (.b .item (.v 1) (.c (.int 1))), .slFrom (.v 1) (.c (.int 2))]))]⟩
/-- road -/
def d_road : Fd := ⟨2, 2, [.ite (.u .not (.call 20 [.b .item (.v 0) (.c (.int 6)), .v 1])) [.raise 0 [.c (.sym 16)]] [], .ret (.call 59 [.v 0, .call 21 [.b .item (.v 0) (.c (.int 6)), .v 1]])]⟩
/-- states_behind -/
def d_states_behind : Fd := ⟨1, 5, [.asg (.n 1) (.dT0), .for (.t [2, 3]) (.seq (.b .item (.call 18 [.v 0, .tup [.c (.sym 5), .c (.int 0), .b .sub (.c (.int (10))) (.c (.int 1))]]) (.c (.int 1)))) [.for (.n 4) (.seq (.v 3)) [.set 1 (.v 4) (.c (.bl true))]], .ret (.u .listOf (.v 1))]⟩
/-- sure_in -/
def d_sure_in : Fd := ⟨2, 3, [.ite (.or (.b .eq (.v 0) (.lst [])) (.or (.b .lt (.b .item (.b .item (.v 0) (.c (.int 0))) (.v 1)) (.c (.int 0))) (.u .anyL (.comp [2] (.n 2) (.seq (.v 0)) (.c (.bl true)) (.b .ne (.b .item (.v 2) (.v 1)) (.b .item (.b .item (.v 0) (.c (.int 0))) (.v 1))))))) [.ret (.tup [])] [], .ret (.tup [.b .item (.b .item (.v 0) (.c (.int 0))) (.v 1)])]⟩
/-- sure -/
def d_sure : Fd := ⟨3, 3, [.ret (.call 24 [.call 23 [.call 22 [.v 0, .v 1]], .v 2])]⟩
/-- _law_start -/
def d__law_start : Fd := ⟨1, 1, [.ret (.cell [.u .listOf (.v 0), .c (.int 0), .c (.int 0), .c (.int 0)])]⟩
/-- _law_draw -/
def d__law_draw : Fd := ⟨2, 5, [.set 0 (.c (.int 3)) (.b .add (.b .item (.v 0) (.c (.int 3))) (.c (.int 1))), .ite (.b .gt (.b .item (.v 0) (.c (.int 2))) (.c (.int 0))) [.asg (.n 2) (.b .mod (.u .toInt (.b .item (.v 0) (.c (.int 2)))) (.v 1)), .set 0 (.c (.int 2)) (.b .fdiv (.b .item (.v 0) (.c (.int 2))) (.v 1)), .ret (.v 2)] [], .asg (.n 3) (.c (.int 0)), .ite (.b .gt (.u .len (.b .item (.v 0) (.c (.int 0)))) (.c (.int 0))) [.asg (.n 3) (.u .abs (.b .item (.b .item (.v 0) (.c (.int 0))) (.b .mod (.u .toInt (.b .item (.v 0) (.c (.int 1)))) (.u .len (.b .item (.v 0) (.c (.int 0)))))))] [], .set 0 (.c (.int 1)) (.b .add (.b .item (.v 0) (.c (.int 1))) (.c (.int 1))), .ite (.b .ge (.v 3) (.b .pow (.c (.int 10)) (.c (.int 18)))) [.set 0 (.c (.int 2)) (.b .fdiv (.v 3) (.v 1)), .ret (.b .mod (.u .toInt (.v 3)) (.v 1))] [], .asg (.n 4) (.b .mod (.u .toInt (.b .add (.b .mul (.b .add (.v 3) (.c (.int 1))) (.c (.int 48271))) (.b .mul (.b .item (.v 0) (.c (.int 3))) (.c (.int 69621))))) (.c (.int 2147483647))), .asg (.n 4) (.b .mod (.u .toInt (.b .add (.b .add (.b .mul (.v 4) (.c (.int 16807))) (.b .fdiv (.v 3) (.c (.int 97)))) (.b .item (.v 0) (.c (.int 3))))) (.c (.int 2147483629))), .ret (.b .mod (.b .fdiv (.v 4) (.c (.int 11))) (.v 1))]⟩
/-- _law_one_of -/
def d__law_one_of : Fd := ⟨2, 2, [.ret (.b .item (.v 1) (.call 27 [.v 0, .u .len (.v 1)]))]⟩
/-- _law_is_int -/
def d__law_is_int : Fd := ⟨1, 1, [.ret (.and (.u .isInt (.v 0)) (.u .not (.u .isBool (.v 0))))]⟩
/-- _law_same -/
def d__law_same : Fd := ⟨2, 3, [.ite (.u .isTup (.v 1)) [.ite (.or (.u .not (.u .isTup (.v 0))) (.b .ne (.u .len (.v 0)) (.u .len (.v 1)))) [.ret (.c (.bl false))] [], .ret (.u .allL (.comp [2] (.n 2) (.rng1 (.u .len (.v 1))) (.c (.bl true)) (.call 30 [.b .item (.v 0) (.v 2), .b .item (.v 1) (.v 2)])))] [], .ite (.u .isStr (.v 1)) [.ret (.and (.u .isStr (.v 0)) (.b .eq (.v 0) (.v 1)))] [], .ret (.and (.call 29 [.v 0]) (.b .eq (.v 0) (.v 1)))]⟩
/-- _law_gcd -/
def d__law_gcd : Fd := ⟨2, 3, [.while (.b .ne (.v 1) (.c (.int 0))) [.asg (.n 2) (.b .mod (.u .toInt (.v 0)) (.v 1)), .asg (.n 0) (.v 1), .asg (.n 1) (.v 2)], .ret (.v 0)]⟩
/-- _law_fraction -/
def d__law_fraction : Fd := ⟨2, 3, [.asg (.n 2) (.call 31 [.u .abs (.v 0), .v 1]), .ret (.tup [.b .fdiv (.v 0) (.v 2), .b .fdiv (.v 1) (.v 2)])]⟩
/-- _law_plus -/
def d__law_plus : Fd := ⟨2, 2, [.ret (.call 32 [.b .add (.b .mul (.b .item (.v 0) (.c (.int 0))) (.b .item (.v 1) (.c (.int 1)))) (.b .mul (.b .item (.v 1) (.c (.int 0))) (.b .item (.v 0) (.c (.int 1)))), .b .mul (.b .item (.v 0) (.c (.int 1))) (.b .item (.v 1) (.c (.int 1)))])]⟩
/-- _law_rest -/
def d__law_rest : Fd := ⟨1, 4, [.asg (.n 1) (.dK1 (.c (.int 0)) (.tup [.c (.int 1), .c (.int 1)])), .for (.t [2, 3]) (.seq (.v 0)) [.set 1 (.v 2) (.call 33 [.get (.v 1) (.v 2) (.tup [.c (.int 0), .c (.int 1)]), .tup [.u .neg (.b .item (.v 3) (.c (.int 0))), .b .item (.v 3) (.c (.int 1))]])], .ret (.u .tupleOf (.comp [2] (.n 2) (.seq (.u .sortI (.v 1))) (.b .ne (.b .item (.b .item (.v 1) (.v 2)) (.c (.int 0))) (.c (.int 0))) (.tup [.v 2, .b .item (.v 1) (.v 2)])))]⟩
/-- _law_part_of -/
def d__law_part_of : Fd := ⟨2, 4, [.ret (.u .tupleOf (.comp [2, 3] (.t [2, 3]) (.seq (.v 0)) (.c (.bl true)) (.tup [.v 2, .call 32 [.b .item (.v 3) (.c (.int 0)), .b .mul (.b .item (.v 3) (.c (.int 1))) (.v 1)]])))]⟩
/-- _law_holds -/
def d__law_holds : Fd := ⟨2, 2, [.ite (.b .eq (.b .item (.v 0) (.c (.int 0))) (.c (.sym 4))) [.ret (.b .lt (.b .item (.v 1) (.b .item (.v 0) (.c (.int 1)))) (.b .item (.v 0) (.c (.int 2))))] [], .ite (.b .eq (.b .item (.v 0) (.c (.int 0))) (.c (.sym 5))) [.ret (.b .eq (.b .item (.v 1) (.b .item (.v 0) (.c (.int 1)))) (.b .item (.v 0) (.c (.int 2))))] [], .ite (.b .eq (.b .item (.v 0) (.c (.int 0))) (.c (.sym 8))) [.ret (.u .not (.call 36 [.b .item (.v 0) (.c (.int 1)), .v 1]))] [], .ite (.b .eq (.b .item (.v 0) (.c (.int 0))) (.c (.sym 9))) [.ret (.and (.call 36 [.b .item (.v 0) (.c (.int 1)), .v 1]) (.call 36 [.b .item (.v 0) (.c (.int 2)), .v 1]))] [], .ret (.or (.call 36 [.b .item (.v 0) (.c (.int 1)), .v 1]) (.call 36 [.b .item (.v 0) (.c (.int 2)), .v 1]))]⟩
/-- _law_put -/
def d__law_put : Fd := ⟨3, 3, [.ret (.b .add (.b .add (.slTo (.v 0) (.v 1)) (.tup [.v 2])) (.slFrom (.v 0) (.b .add (.v 1) (.c (.int 1)))))]⟩
/-- _law_simple -/
def d__law_simple : Fd := ⟨2, 3, [.asg (.n 2) (.b .item (.v 1) (.c (.int 1))), .ite (.b .eq (.b .item (.v 1) (.c (.int 0))) (.c (.sym 11))) [.ret (.call 37 [.v 0, .v 2, .b .item (.v 1) (.c (.int 2))])] [], .ite (.b .eq (.b .item (.v 1) (.c (.int 0))) (.c (.sym 12))) [.ret (.call 37 [.v 0, .v 2, .b .item (.v 0) (.b .item (.v 1) (.c (.int 2)))])] [], .ite (.b .eq (.b .item (.v 1) (.c (.int 0))) (.c (.sym 15))) [.ret (.call 37 [.v 0, .v 2, .b .add (.b .item (.v 0) (.v 2)) (.b .item (.v 1) (.c (.int 2)))])] [], .ite (.b .eq (.b .item (.v 1) (.c (.int 0))) (.c (.sym 17))) [.ret (.call 37 [.v 0, .v 2, .b .add (.b .item (.v 0) (.v 2)) (.b .mul (.b .item (.v 1) (.c (.int 2))) (.b .item (.v 0) (.b .item (.v 1) (.c (.int 3)))))])] [], .ret (.call 37 [.v 0, .v 2, .b .max2 (.c (.int 0)) (.b .sub (.b .item (.v 0) (.v 2)) (.b .item (.v 1) (.c (.int 2))))])]⟩
/-- _law_split -/
def d__law_split : Fd := ⟨2, 5, [.asg (.n 2) (.dT0), .asg (.n 3) (.dT0), .for (.n 4) (.keys 0) [.ite (.call 36 [.v 1, .v 4]) [.set 2 (.v 4) (.b .item (.v 0) (.v 4))] [.set 3 (.v 4) (.b .item (.v 0) (.v 4))]], .fr [2, 3], .ret (.tup [.v 2, .v 3])]⟩
/-- _law_some_chance -/
def d__law_some_chance : Fd := ⟨2, 3, [.asg (.n 2) (.lst [.tup [.tup [.c (.int 0), .tup [.c (.int 1), .c (.int 2)]]], .tup [.tup [.c (.int 0), .tup [.c (.int 1), .c (.int 3)]]], .tup [.tup [.c (.int 0), .tup [.c (.int 3), .c (.int 4)]]], .tup [.tup [.c (.int 0), .tup [.c (.int 2), .c (.int 5)]]]]), .ite (.v 1) [.asg (.n 2) (.b .add (.v 2) (.lst [.tup [.tup [.c (.int 1), .tup [.c (.int 1), .c (.int 1)]]], .tup [.tup [.c (.int 0), .tup [.c (.int 1), .c (.int 1)]], .tup [.c (.int 1), .tup [.u .neg (.c (.int 1)), .c (.int 1)]]], .tup [.tup [.c (.int 1), .tup [.c (.int 1), .c (.int 2)]]], .tup [.tup [.c (.int 0), .tup [.c (.int 1), .c (.int 4)]], .tup [.c (.int 1), .tup [.c (.int 1), .c (.int 2)]]]]))] [], .fr [2], .ret (.call 28 [.v 0, .v 2])]⟩
/-- _law_some_table -/
def d__law_some_table : Fd := ⟨2, 6, [.asg (.n 2) (.call 40 [.v 0, .v 1]), .asg (.n 3) (.call 27 [.v 0, .c (.int 2)]), .fr [2], .asg (.n 4) (.call 34 [.v 2]), .ite (.b .gt (.call 27 [.v 0, .c (.int 3)]) (.c (.int 0))) [.fr [2, 3, 4], .ret (.tup [.c (.sym 18), .tup [.tup [.v 3, .v 2], .tup [.b .add (.b .add (.v 3) (.c (.int 1))) (.call 27 [.v 0, .c (.int 2)]), .v 4]]])] [], .fr [4], .asg (.n 5) (.call 35 [.v 4, .c (.int 2)]), .fr [2, 3, 5], .ret (.tup [.c (.sym 18), .tup [.tup [.v 3, .v 2], .tup [.b .add (.v 3) (.c (.int 1)), .v 5], .tup [.b .add (.b .add (.v 3) (.c (.int 2))) (.call 27 [.v 0, .c (.int 2)]), .v 5]]])]⟩
/-- _law_some_test -/
def d__law_some_test : Fd := ⟨2, 4, [.asg (.n 2) (.call 27 [.v 0, .v 1]), .fr [2], .asg (.n 3) (.call 28 [.v 0, .lst [.tup [.c (.sym 4), .v 2, .c (.int 1)], .tup [.c (.sym 5), .v 2, .c (.int 0)], .tup [.c (.sym 5), .v 2, .c (.int 1)], .tup [.c (.sym 4), .v 2, .c (.int 2)]]]), .ite (.b .eq (.call 27 [.v 0, .c (.int 4)]) (.c (.int 0))) [.fr [3], .ret (.tup [.c (.sym 8), .v 3])] [], .ret (.v 3)]⟩
/-- _law_some_row -/
def d__law_some_row : Fd := ⟨4, 7, [.asg (.n 4) (.call 28 [.v 0, .v 3]), .asg (.n 5) (.call 27 [.v 0, .v 1]), .asg (.n 6) (.b .mod (.u .toInt (.b .add (.v 5) (.c (.int 1)))) (.v 1)), .ite (.or (.b .eq (.v 4) (.c (.sym 11))) (.b .eq (.v 4) (.c (.sym 15)))) [.fr [4, 5], .ret (.tup [.v 4, .v 5, .call 27 [.v 0, .c (.int 3)]])] [], .ite (.b .eq (.v 4) (.c (.sym 6))) [.fr [5], .ret (.tup [.c (.sym 6), .v 5, .b .add (.c (.int 1)) (.call 27 [.v 0, .c (.int 2)])])] [], .ite (.or (.b .eq (.v 4) (.c (.sym 13))) (.b .eq (.v 1) (.c (.int 1)))) [.fr [5], .ret (.tup [.c (.sym 13), .v 5, .call 41 [.v 0, .v 2]])] [], .ite (.b .eq (.v 4) (.c (.sym 12))) [.fr [5], .ret (.tup [.c (.sym 12), .v 5, .v 6])] [], .ite (.and (.b .eq (.v 4) (.c (.sym 17))) (.b .lt (.u .len (.v 0)) (.c (.int 6)))) [.app 0 (.c (.int 0)), .fr [5], .ret (.tup [.c (.sym 17), .v 5, .b .add (.c (.int 1)) (.call 27 [.v 0, .c (.int 3)]), .v 6])] [], .ite (.b .eq (.v 4) (.c (.sym 17))) [.fr [5], .ret (.tup [.c (.sym 15), .v 5, .c (.int 1)])] [], .fr [5], .ret (.tup [.c (.sym 14), .v 5, .call 41 [.v 0, .v 2], .v 6])]⟩
/-- _law_some_block -/
def d__law_some_block : Fd := ⟨6, 11, [.asg (.n 6) (.lst []), .for (.n 7) (.rng1 (.v 4)) [.asg (.n 8) (.call 27 [.v 0, .c (.int 4)]), .ite (.and (.b .gt (.v 5) (.c (.int 0))) (.b .lt (.v 8) (.c (.int 2)))) [.asg (.n 9) (.call 44 [.v 0, .v 1, .v 2, .v 3, .b .add (.c (.int 1)) (.call 27 [.v 0, .c (.int 2)]), .c (.int 0)]), .asg (.n 10) (.call 44 [.v 0, .v 1, .v 2, .v 3, .call 27 [.v 0, .c (.int 2)], .c (.int 0)]), .ite (.b .eq (.v 8) (.c (.int 0))) [.fr [9, 10], .app 6 (.tup [.c (.sym 2), .call 42 [.v 0, .v 1], .v 9, .v 10])] [.fr [9, 10], .app 6 (.tup [.c (.sym 1), .call 40 [.v 0, .v 2], .v 9, .v 10])]] [.app 6 (.call 43 [.v 0, .v 1, .v 2, .v 3])]], .ret (.u .tupleOf (.v 6))]⟩
/-- _law_need -/
def d__law_need : Fd := ⟨2, 4, [.for (.n 2) (.rng1 (.u .len (.v 0))) [.asg (.n 3) (.b .item (.v 0) (.b .sub (.b .sub (.u .len (.v 0)) (.c (.int 1))) (.v 2))), .ite (.b .eq (.b .item (.v 3) (.c (.int 0))) (.c (.sym 6))) [.asg (.n 1) (.b .add (.v 1) (.b .item (.v 3) (.c (.int 2))))] [], .ite (.b .eq (.b .item (.v 3) (.c (.int 0))) (.c (.sym 7))) [.asg (.n 1) (.b .max2 (.v 1) (.call 46 [.b .item (.v 3) (.c (.int 1))]))] [], .ite (.b .eq (.b .item (.v 3) (.c (.int 0))) (.c (.sym 2))) [.fr [1], .asg (.n 1) (.max3 (.call 46 [.b .item (.v 3) (.c (.int 1))]) (.call 45 [.b .item (.v 3) (.c (.int 2)), .v 1]) (.call 45 [.b .item (.v 3) (.c (.int 3)), .v 1]))] [], .ite (.b .eq (.b .item (.v 3) (.c (.int 0))) (.c (.sym 1))) [.fr [1], .asg (.n 1) (.b .max2 (.call 45 [.b .item (.v 3) (.c (.int 2)), .v 1]) (.call 45 [.b .item (.v 3) (.c (.int 3)), .v 1]))] []], .ret (.v 1)]⟩
/-- _law_cap -/
def d__law_cap : Fd := ⟨1, 2, [.ite (.b .eq (.b .item (.v 0) (.c (.int 0))) (.c (.sym 4))) [.ret (.b .item (.v 0) (.c (.int 2)))] [], .ite (.b .eq (.b .item (.v 0) (.c (.int 0))) (.c (.sym 5))) [.ret (.b .add (.b .item (.v 0) (.c (.int 2))) (.c (.int 1)))] [], .ret (.u .maxL (.comp [1] (.n 1) (.seq (.slFrom (.v 0) (.c (.int 1)))) (.c (.bl true)) (.call 46 [.v 1])))]⟩
/-- _law_program -/
def d__law_program : Fd := ⟨3, 4, [.asg (.n 3) (.xt []), .ite (.v 0) [.asg (.n 3) (.tup [.tup [.c (.sym 19), .tup [.c (.int 1), .c (.int 4)], .tup [.c (.int 3), .c (.int 4)]]])] [], .ret (.tup [.c (.sym 20), .v 3, .slTo (.tup [.c (.sym 21), .c (.sym 22), .c (.sym 23)]) (.v 1), .xt [], .xt [], .xt [], .v 2])]⟩
/-- _law_added -/
def d__law_added : Fd := ⟨3, 7, [.asg (.n 3) (.dT0), .for (.n 4) (.keys 0) [.for (.t [5, 6]) (.seq (.b .item (.v 2) (.c (.int 1)))) [.set 3 (.call 37 [.v 4, .v 1, .b .add (.b .item (.v 4) (.v 1)) (.v 5)]) (.c (.bl true))]], .ret (.v 3)]⟩
/-- _law_support -/
def d__law_support : Fd := ⟨2, 9, [.for (.n 2) (.seq (.v 0)) [.asg (.n 3) (.dT0), .ite (.b .eq (.b .item (.v 2) (.c (.int 0))) (.c (.sym 13))) [.asg (.n 3) (.call 48 [.v 1, .b .item (.v 2) (.c (.int 1)), .b .item (.v 2) (.c (.int 2))])] [.ite (.b .eq (.b .item (.v 2) (.c (.int 0))) (.c (.sym 14))) [.never] [.ite (.b .eq (.b .item (.v 2) (.c (.int 0))) (.c (.sym 7))) [.for (.n 4) (.keys 1) [.ite (.call 36 [.b .item (.v 2) (.c (.int 1)), .v 4]) [.set 3 (.v 4) (.c (.bl true))] []]] [.ite (.b .eq (.b .item (.v 2) (.c (.int 0))) (.c (.sym 1))) [.upd 3 (.call 49 [.b .item (.v 2) (.c (.int 2)), .v 1]), .upd 3 (.call 49 [.b .item (.v 2) (.c (.int 3)), .v 1])] [.ite (.b .eq (.b .item (.v 2) (.c (.int 0))) (.c (.sym 2))) [.asg (.t [7, 8]) (.call 39 [.v 1, .b .item (.v 2) (.c (.int 1))]), .upd 3 (.call 49 [.b .item (.v 2) (.c (.int 2)), .v 7]), .upd 3 (.call 49 [.b .item (.v 2) (.c (.int 3)), .v 8])] [.for (.n 4) (.keys 1) [.set 3 (.call 38 [.v 4, .v 2]) (.c (.bl true))]]]]]], .fr [3], .asg (.n 1) (.v 3)], .ret (.v 1)]⟩
/-- _law_starts -/
def d__law_starts : Fd := ⟨2, 5, [.asg (.n 2) (.dT0), .for (.n 3) (.rng1 (.b .add (.v 1) (.c (.int 1)))) [.ite (.b .eq (.v 0) (.c (.int 1))) [.set 2 (.tup [.v 3]) (.c (.bl true))] [.for (.n 4) (.rng1 (.b .add (.v 1) (.c (.int 1)))) [.set 2 (.tup [.v 3, .v 4]) (.c (.bl true))]]], .ret (.v 2)]⟩
/-- _law_road -/
def d__law_road : Fd := ⟨2, 4, [.asg (.n 2) (.slTo (.v 0) (.b .item (.v 1) (.c (.int 0)))), .ite (.b .eq (.u .len (.v 1)) (.c (.int 1))) [.ret (.v 2)] [], .asg (.n 3) (.b .item (.v 0) (.b .item (.v 1) (.c (.int 0)))), .ite (.and (.b .eq (.b .item (.v 3) (.c (.int 0))) (.c (.sym 2))) (.b .eq (.b .item (.v 1) (.c (.int 1))) (.c (.int 0)))) [.asg (.n 2) (.b .add (.v 2) (.tup [.tup [.c (.sym 7), .b .item (.v 3) (.c (.int 1))]]))] [], .ite (.and (.b .eq (.b .item (.v 3) (.c (.int 0))) (.c (.sym 2))) (.b .eq (.b .item (.v 1) (.c (.int 1))) (.c (.int 1)))) [.asg (.n 2) (.b .add (.v 2) (.tup [.tup [.c (.sym 7), .tup [.c (.sym 8), .b .item (.v 3) (.c (.int 1))]]]))] [], .ret (.b .add (.v 2) (.call 51 [.b .item (.v 3) (.b .add (.c (.int 2)) (.b .item (.v 1) (.c (.int 1)))), .slFrom (.v 1) (.c (.int 2))]))]⟩
/-- _law_states -/
def d__law_states : Fd := ⟨3, 4, [.asg (.n 3) (.call 51 [.v 1, .v 2]), .fr [3], .ret (.call 49 [.v 3, .call 50 [.v 0, .call 45 [.v 3, .c (.int 10)]]])]⟩
/-- _law_sure -/
def d__law_sure : Fd := ⟨2, 4, [.asg (.n 2) (.u .sortI (.comp [3] (.n 3) (.keys 0) (.c (.bl true)) (.b .item (.v 3) (.v 1)))), .ite (.or (.b .eq (.v 2) (.lst [])) (.or (.b .gt (.b .item (.v 2) (.u .neg (.c (.int 1)))) (.c (.int 9))) (.b .ne (.b .item (.v 2) (.c (.int 0))) (.b .item (.v 2) (.u .neg (.c (.int 1))))))) [.ret (.tup [])] [], .ret (.tup [.b .item (.v 2) (.c (.int 0))])]⟩
/-- _law_paths -/
def d__law_paths : Fd := ⟨2, 5, [.asg (.n 2) (.lst []), .for (.n 3) (.rng1 (.u .len (.v 0))) [.asg (.n 4) (.b .item (.v 0) (.v 3)), .app 2 (.b .add (.v 1) (.tup [.v 3])), .ite (.or (.b .eq (.b .item (.v 4) (.c (.int 0))) (.c (.sym 2))) (.b .eq (.b .item (.v 4) (.c (.int 0))) (.c (.sym 1)))) [.asg (.n 2) (.b .add (.b .add (.v 2) (.call 54 [.b .item (.v 4) (.c (.int 2)), .b .add (.v 1) (.tup [.v 3, .c (.int 0)])])) (.call 54 [.b .item (.v 4) (.c (.int 3)), .b .add (.v 1) (.tup [.v 3, .c (.int 1)])]))] []], .ret (.v 2)]⟩
/-- _law_drawn_block -/
def d__law_drawn_block : Fd := ⟨2, 7, [.asg (.n 2) (.lst [.c (.sym 11), .c (.sym 11), .c (.sym 15), .c (.sym 6), .c (.sym 13), .c (.sym 12)]), .fr [2], .asg (.n 3) (.call 44 [.v 0, .v 1, .c (.bl false), .v 2, .b .add (.c (.int 1)) (.call 27 [.v 0, .c (.int 2)]), .c (.int 1)]), .fr [2], .asg (.n 4) (.call 44 [.v 0, .v 1, .c (.bl false), .v 2, .c (.int 1), .c (.int 0)]), .fr [2], .asg (.n 5) (.call 44 [.v 0, .v 1, .c (.bl false), .v 2, .c (.int 1), .c (.int 0)]), .asg (.n 6) (.call 27 [.v 0, .c (.int 3)]), .ite (.b .eq (.v 6) (.c (.int 0))) [.fr [3, 5], .asg (.n 4) (.b .add (.v 4) (.tup [.tup [.c (.sym 2), .call 42 [.v 0, .v 1], .v 3, .v 5]]))] [.ite (.b .eq (.v 6) (.c (.int 1))) [.fr [3, 5], .asg (.n 4) (.b .add (.v 4) (.tup [.tup [.c (.sym 1), .tup [.tup [.c (.int 0), .tup [.c (.int 1), .c (.int 3)]]], .v 5, .v 3]]))] [.asg (.n 4) (.b .add (.b .add (.v 4) (.tup [.tup [.c (.sym 7), .call 42 [.v 0, .v 1]]])) (.v 3))]], .ret (.b .add (.v 4) (.v 5))]⟩
/-- law -/
def d_law : Fd := ⟨1, 12, [.asg (.n 1) (.call 26 [.v 0]), .fr [1], .asg (.n 2) (.b .add (.c (.int 1)) (.u .toInt (.b .eq (.call 27 [.v 1, .c (.int 6)]) (.c (.int 0))))), .fr [1, 2], .asg (.n 3) (.call 55 [.v 1, .v 2]), .fr [2, 3], .asg (.n 4) (.call 47 [.c (.bl false), .v 2, .v 3]), .fr [3], .asg (.n 5) (.call 54 [.v 3, .tup []]), .fr [5], .for (.n 6) (.seq (.v 5)) [.fr [3, 4, 6], .ite (.u .not (.call 30 [.call 22 [.v 4, .v 6], .b .add (.slTo (.v 4) (.c (.int 6))) (.tup [.call 51 [.v 3, .v 6]])])) [.ret (.c (.bl false))] []], .for (.n 7) (.rng1 (.c (.int 3))) [.fr [1, 5], .asg (.n 6) (.call 28 [.v 1, .v 5]), .fr [2, 3, 6], .asg (.n 8) (.call 52 [.v 2, .v 3, .v 6]), .fr [2], .for (.n 9) (.rng1 (.v 2)) [.fr [4, 6, 8], .ite (.u .not (.call 30 [.call 25 [.v 4, .v 6, .v 9], .call 53 [.v 8, .v 9]])) [.ret (.c (.bl false))] []]], .asg (.n 10) (.b .item (.v 5) (.u .neg (.c (.int 1)))), .asg (.n 11) (.lst [.tup [], .tup [.u .len (.v 3)], .tup [.u .neg (.c (.int 1))], .tup [.c (.int 0), .c (.int 0)], .b .add (.v 10) (.tup [.c (.int 2), .c (.int 0)]), .b .add (.v 10) (.tup [.c (.int 0)]), .tup [.c (.sym 24)], .c (.int 0), .c (.sym 16), .tup [.c (.int 0), .c (.int 2), .c (.int 0)], .b .add (.slTo (.v 10) (.u .neg (.c (.int 1)))) (.tup [.c (.int 60)])]), .fr [4, 6], .ret (.u .allL (.comp [6] (.n 6) (.seq (.v 11)) (.c (.bl true)) (.and (.b .eq (.call 56 [.v 4, .v 6]) (.c (.sym 16))) (.b .eq (.call 57 [.v 4, .v 6]) (.c (.sym 16))))))]⟩
/-- with_block_blocks -/
def d_with_block_blocks : Fd := ⟨2, 2, [.ret (.b .add (.slTo (.v 0) (.c (.int 6))) (.tup [.v 1]))]⟩
/-- with_block_promises -/
def d_with_block_promises : Fd := ⟨2, 2, [.ret (.tup [.b .item (.v 0) (.c (.int 0)), .b .item (.v 0) (.c (.int 1)), .b .item (.v 0) (.c (.int 2)), .tup [], .tup [], .tup [], .v 1])]⟩
/-- try: call except NotFit as e: return e.word -/
def wordOf (r : X3) : X3 := match r with
  | .ok (_, _, st) => .ok (false, (.sym 0), st)
  | .exc 0 [w] st => .ok (false, w, st)
  | _ => .bad
def n__law_word_of (C : Cal) (ts : List T) (st : St) : X3 := if ts.length = 2 then wordOf (C 22 ts st) else .bad
def n__law_sure_word (C : Cal) (ts : List T) (st : St) : X3 := if ts.length = 2 then wordOf (C 25 (ts ++ [.int 0]) st) else .bad

def P : Nat → Df
  | 0 => .ir d_inner_blocks
  | 1 => .ir d_cap
  | 2 => .ir d_row_need
  | 3 => .ir d_need
  | 4 => .ir d_regions
  | 5 => .ir d_holds
  | 6 => .ir d_holds_in
  | 7 => .ir d_put_loops
  | 8 => .ir d_promised
  | 9 => .ir d_lowered
  | 10 => .ir d_draw_numbers
  | 11 => .ir d_sums_below
  | 12 => .ir d_sums_of
  | 13 => .ir d_drawn
  | 14 => .ir d_numbers_behind
  | 15 => .ir d_simple_states
  | 16 => .ir d_row_states
  | 17 => .ir d_block_states
  | 18 => .ir d_ends
  | 19 => .ir d_is_path_number
  | 20 => .ir d_has_path
  | 21 => .ir d_road_rows
  | 22 => .ir d_road
  | 23 => .ir d_states_behind
  | 24 => .ir d_sure_in
  | 25 => .ir d_sure
  | 26 => .ir d__law_start
  | 27 => .ir d__law_draw
  | 28 => .ir d__law_one_of
  | 29 => .ir d__law_is_int
  | 30 => .ir d__law_same
  | 31 => .ir d__law_gcd
  | 32 => .ir d__law_fraction
  | 33 => .ir d__law_plus
  | 34 => .ir d__law_rest
  | 35 => .ir d__law_part_of
  | 36 => .ir d__law_holds
  | 37 => .ir d__law_put
  | 38 => .ir d__law_simple
  | 39 => .ir d__law_split
  | 40 => .ir d__law_some_chance
  | 41 => .ir d__law_some_table
  | 42 => .ir d__law_some_test
  | 43 => .ir d__law_some_row
  | 44 => .ir d__law_some_block
  | 45 => .ir d__law_need
  | 46 => .ir d__law_cap
  | 47 => .ir d__law_program
  | 48 => .ir d__law_added
  | 49 => .ir d__law_support
  | 50 => .ir d__law_starts
  | 51 => .ir d__law_road
  | 52 => .ir d__law_states
  | 53 => .ir d__law_sure
  | 54 => .ir d__law_paths
  | 55 => .ir d__law_drawn_block
  | 56 => .nat n__law_word_of
  | 57 => .nat n__law_sure_word
  | 58 => .ir d_law
  | 59 => .ir d_with_block_blocks
  | 60 => .ir d_with_block_promises
  | _ => .no
end K82
end

section
set_option autoImplicit false
set_option linter.all false
set_option maxRecDepth 100000
set_option maxHeartbeats 2000000
/-! M0: the evaluator's steps, one by one, each with what is left to do named (no functions within, so that simp runs a def from the front). -/
namespace Ev
section
variable {Γ : Env} {st s : St} {i : Nat} {t u : T} {o : Bool} {p : Bool} {ts us : List T}
/-! slots -/
def rdo : Option (Option (Bool × T)) → Option T
  | some (some (_, t)) => some t
  | _ => none
@[simp] theorem rdo_s : rdo (some (some (o, t))) = some t := rfl
@[simp] theorem rdo_n : rdo (some none) = none := rfl
def rdfo : Option (Option (Bool × T)) → Option T
  | some (some (false, t)) => some t
  | _ => none
@[simp] theorem rdfo_f : rdfo (some (some (false, t))) = some t := rfl
@[simp] theorem rdfo_t : rdfo (some (some (true, t))) = none := rfl
@[simp] theorem rdfo_n : rdfo (some none) = none := rfl
@[simp] theorem rd_s : rd Γ i = rdo Γ[i]? := rfl
@[simp] theorem rdF_s : rdF Γ i = rdfo Γ[i]? := by
  unfold rdF rdfo; rcases Γ[i]? with _ | _ | ⟨_ | _, t⟩ <;> rfl
def kv : Option T → St → X3
  | some t, st => .ok (false, t, st)
  | none, _ => .bad
@[simp] theorem kv_s : kv (some t) st = .ok (false, t, st) := rfl
@[simp] theorem bor_v {r : X3} : bor Γ st r (.v i) = kv (rd Γ i) st := by
  show (match rd Γ i with | some t => .ok (false, t, st) | none => .bad : X3) = _
  rcases rd Γ i with _ | _ <;> rfl
def ownd : Option (Option (Bool × T)) → St → X3
  | some (some (o, t)), st => .ok (o, t, st)
  | _, _ => .bad
@[simp] theorem ownd_s : ownd (some (some (o, t))) st = .ok (o, t, st) := rfl
@[simp] theorem retE_v {r : X3} : retE Γ st r (.v i) = ownd Γ[i]? st := by
  show (match Γ[i]? with | some (some (o, t)) => .ok (o, t, st) | _ => .bad : X3) = _
  rcases Γ[i]? with _ | _ | ⟨o, t⟩ <;> rfl
@[simp] theorem bor_c {r : X3} (t : T) : bor Γ st r (.c t) = r := rfl
@[simp] theorem retE_c {r : X3} (t : T) : retE Γ st r (.c t) = r := rfl
@[simp] theorem bor_tup {r : X3} (es : List E) : bor Γ st r (.tup es) = r := rfl
@[simp] theorem retE_tup {r : X3} (es : List E) : retE Γ st r (.tup es) = r := rfl
@[simp] theorem bor_xt {r : X3} (es : List E) : bor Γ st r (.xt es) = r := rfl
@[simp] theorem retE_xt {r : X3} (es : List E) : retE Γ st r (.xt es) = r := rfl
@[simp] theorem bor_lst {r : X3} (es : List E) : bor Γ st r (.lst es) = r := rfl
@[simp] theorem retE_lst {r : X3} (es : List E) : retE Γ st r (.lst es) = r := rfl
@[simp] theorem bor_cell {r : X3} (es : List E) : bor Γ st r (.cell es) = r := rfl
@[simp] theorem retE_cell {r : X3} (es : List E) : retE Γ st r (.cell es) = r := rfl
@[simp] theorem bor_u {r : X3} (q : U1) (a : E) : bor Γ st r (.u q a) = r := rfl
@[simp] theorem retE_u {r : X3} (q : U1) (a : E) : retE Γ st r (.u q a) = r := rfl
@[simp] theorem bor_b {r : X3} (q : U2) (a b : E) : bor Γ st r (.b q a b) = r := rfl
@[simp] theorem retE_b {r : X3} (q : U2) (a b : E) : retE Γ st r (.b q a b) = r := rfl
@[simp] theorem bor_and {r : X3} (a b : E) : bor Γ st r (.and a b) = r := rfl
@[simp] theorem retE_and {r : X3} (a b : E) : retE Γ st r (.and a b) = r := rfl
@[simp] theorem bor_or {r : X3} (a b : E) : bor Γ st r (.or a b) = r := rfl
@[simp] theorem retE_or {r : X3} (a b : E) : retE Γ st r (.or a b) = r := rfl
@[simp] theorem bor_ite {r : X3} (c a b : E) : bor Γ st r (.ite c a b) = r := rfl
@[simp] theorem retE_ite {r : X3} (c a b : E) : retE Γ st r (.ite c a b) = r := rfl
@[simp] theorem bor_chain {r : X3} (q q2 : U2) (a b c : E) : bor Γ st r (.chain q q2 a b c) = r := rfl
@[simp] theorem retE_chain {r : X3} (q q2 : U2) (a b c : E) : retE Γ st r (.chain q q2 a b c) = r := rfl
@[simp] theorem bor_slTo {r : X3} (a b : E) : bor Γ st r (.slTo a b) = r := rfl
@[simp] theorem retE_slTo {r : X3} (a b : E) : retE Γ st r (.slTo a b) = r := rfl
@[simp] theorem bor_slFrom {r : X3} (a b : E) : bor Γ st r (.slFrom a b) = r := rfl
@[simp] theorem retE_slFrom {r : X3} (a b : E) : retE Γ st r (.slFrom a b) = r := rfl
@[simp] theorem bor_max3 {r : X3} (a b c : E) : bor Γ st r (.max3 a b c) = r := rfl
@[simp] theorem retE_max3 {r : X3} (a b c : E) : retE Γ st r (.max3 a b c) = r := rfl
@[simp] theorem bor_call {r : X3} (f : Nat) (es : List E) : bor Γ st r (.call f es) = r := rfl
@[simp] theorem retE_call {r : X3} (f : Nat) (es : List E) : retE Γ st r (.call f es) = r := rfl
@[simp] theorem bor_comp {r : X3} (own : List Nat) (g : G) (it : I) (c e : E) : bor Γ st r (.comp own g it c e) = r := rfl
@[simp] theorem retE_comp {r : X3} (own : List Nat) (g : G) (it : I) (c e : E) : retE Γ st r (.comp own g it c e) = r := rfl
@[simp] theorem bor_comp2 {r : X3} (own : List Nat) (g : G) (it : I) (own2 : List Nat) (g2 : G) (it2 : I) (e : E) : bor Γ st r (.comp2 own g it own2 g2 it2 e) = r := rfl
@[simp] theorem retE_comp2 {r : X3} (own : List Nat) (g : G) (it : I) (own2 : List Nat) (g2 : G) (it2 : I) (e : E) : retE Γ st r (.comp2 own g it own2 g2 it2 e) = r := rfl
@[simp] theorem bor_get {r : X3} (a b c : E) : bor Γ st r (.get a b c) = r := rfl
@[simp] theorem retE_get {r : X3} (a b c : E) : retE Γ st r (.get a b c) = r := rfl
@[simp] theorem bor_dK0 {r : X3}  : bor Γ st r .dK0 = r := rfl
@[simp] theorem retE_dK0 {r : X3}  : retE Γ st r .dK0 = r := rfl
@[simp] theorem bor_dT0 {r : X3}  : bor Γ st r .dT0 = r := rfl
@[simp] theorem retE_dT0 {r : X3}  : retE Γ st r .dT0 = r := rfl
@[simp] theorem bor_dK1 {r : X3} (a b : E) : bor Γ st r (.dK1 a b) = r := rfl
@[simp] theorem retE_dK1 {r : X3} (a b : E) : retE Γ st r (.dK1 a b) = r := rfl
@[simp] theorem bor_dT1 {r : X3} (a b : E) : bor Γ st r (.dT1 a b) = r := rfl
@[simp] theorem retE_dT1 {r : X3} (a b : E) : retE Γ st r (.dT1 a b) = r := rfl
@[simp] theorem bor_rng {r : X3} (a : E) : bor Γ st r (.rng a) = r := rfl
@[simp] theorem retE_rng {r : X3} (a : E) : retE Γ st r (.rng a) = r := rfl
/-! lists of slots -/
@[simp] theorem wipe_n : wipe Γ [] = Γ := rfl
@[simp] theorem wipe_c {v : Nat} {vs : List Nat} : wipe Γ (v :: vs) = (wipe Γ vs).set v none := rfl
@[simp] theorem sets_n : sets Γ [] [] = some Γ := rfl
@[simp] theorem sets_c {is : List Nat} : sets Γ (i :: is) (t :: ts) = sets (Γ.set i (some (false, t))) is ts := rfl
@[simp] theorem asgG_n : asgG (.n i) t Γ = some (Γ.set i (some (false, t))) := rfl
@[simp] theorem asgG_t {is : List Nat} : asgG (.t is) (.tup ts) Γ = sets Γ is ts := rfl
def unown1 : Option (Option (Bool × T)) → Env → Nat → Env
  | some (some (_, t)), Γ, i => Γ.set i (some (false, t))
  | _, Γ, _ => Γ
@[simp] theorem unown1_s : unown1 (some (some (o, t))) Γ i = Γ.set i (some (false, t)) := rfl
@[simp] theorem unown1_n : unown1 (some none) Γ i = Γ := rfl
@[simp] theorem unown_n : unown Γ [] = Γ := rfl
@[simp] theorem unown_c {is : List Nat} : unown Γ (i :: is) = unown (unown1 Γ[i]? Γ i) is := by
  show (match Γ[i]? with | some (some (_, t)) => unown (Γ.set i (some (false, t))) is | _ => unown Γ is) = _
  rcases Γ[i]? with _ | _ | ⟨o, t⟩ <;> rfl
@[simp] theorem startE_s {n : Nat} : startE n ts = ts.map (fun t => some (false, t)) ++ List.replicate (n - ts.length) none := rfl
@[simp] theorem rep_s {n : Nat} : List.replicate (n + 1) (none : Option (Bool × T)) = none :: List.replicate n none := rfl
/-! operators -/
@[simp] theorem opR_ok : opR (.ok (o, t)) st = .ok (o, t, st) := rfl
@[simp] theorem opR_vl : opR (vl t) st = .ok (false, t, st) := rfl
@[simp] theorem opR_if {c : Prop} [Decidable c] {a b : O} : opR (if c then a else b) st = if c then opR a st else opR b st := by split <;> rfl
@[simp] theorem opR_bad : opR .bad st = .bad := rfl
def oI (k : Int → T) : Option Int → O
  | some n => vl (k n)
  | none => .bad
def oN : Option Nat → O
  | some n => vl (.int n)
  | none => .bad
@[simp] theorem oN_s {n : Nat} : oN (some n) = vl (.int n) := rfl
def oT : Option T → O
  | some t => vl t
  | none => .bad
@[simp] theorem oT_s : oT (some t) = vl t := rfl
def oB (g : Bool → Bool) : Option Bool → O
  | some b => vl (.bl (g b))
  | none => .bad
@[simp] theorem oB_s {g : Bool → Bool} : oB g (some p) = vl (.bl (g p)) := rfl
def oM (f : Int → List Int → Int) : Option (List Int) → O
  | some (m :: ms) => vl (.int (f m ms))
  | _ => .bad
@[simp] theorem oM_s {f : Int → List Int → Int} {m : Int} {ms : List Int} : oM f (some (m :: ms)) = vl (.int (f m ms)) := rfl
def oA (f : List Bool → Bool) : Option (List Bool) → O
  | some bs => vl (.bl (f bs))
  | none => .bad
@[simp] theorem oA_s {f : List Bool → Bool} {bs : List Bool} : oA f (some bs) = vl (.bl (f bs)) := rfl
def oL (f : List Int → List Int) : Option (List Int) → O
  | some ns => .ok (true, .lst ((f ns).map T.int))
  | none => .bad
@[simp] theorem oL_s {f : List Int → List Int} {ns : List Int} : oL f (some ns) = .ok (true, .lst ((f ns).map T.int)) := rfl
def oSI : Option (List Int) → O
  | some ns => if ns.length < 4000 then .ok (true, .lst ((Ev.setI ns).map T.int)) else .bad
  | none => .bad
@[simp] theorem oSI_s {ns : List Int} : oSI (some ns) = if ns.length < 4000 then .ok (true, .lst ((Ev.setI ns).map T.int)) else .bad := rfl
def oST : Option (List (List Int)) → O
  | some ns => if (Ev.setT ns).length < 1228 ∧ [] ∉ ns then .ok (true, .lst ((Ev.setT ns).map fun n => .tup (n.map T.int))) else .bad
  | none => .bad
@[simp] theorem oST_s {ns : List (List Int)} : oST (some ns) = if (Ev.setT ns).length < 1228 ∧ [] ∉ ns then .ok (true, .lst ((Ev.setT ns).map fun n => .tup (n.map T.int))) else .bad := rfl
@[simp] theorem op1_not : op1 st .not (.bl p) = vl (.bl (!p)) := rfl
@[simp] theorem op1_neg {n : Int} : op1 st .neg (.int n) = vl (.int (-n)) := rfl
@[simp] theorem op1_toInt {n : Int} : op1 st .toInt (.int n) = vl (.int n) := rfl
@[simp] theorem op1_toIntb : op1 st .toInt (.bl p) = vl (.int (if p then 1 else 0)) := rfl
@[simp] theorem op1_abs {n : Int} : op1 st .abs (.int n) = vl (.int (if n < 0 then -n else n)) := rfl
@[simp] theorem op1_len : op1 st .len t = oN (lenOf st t) := by
  show (match lenOf st t with | some n => vl (.int n) | none => .bad : O) = _
  rcases lenOf st t with _ | n <;> rfl
@[simp] theorem op1_tupleL : op1 st .tupleOf (.lst ts) = vl (.tup ts) := rfl
@[simp] theorem op1_tupleT : op1 st .tupleOf (.tup ts) = vl (.tup ts) := rfl
@[simp] theorem op1_listL : op1 st .listOf (.lst ts) = .ok (true, .lst ts) := rfl
@[simp] theorem op1_listT : op1 st .listOf (.tup ts) = .ok (true, .lst ts) := rfl
@[simp] theorem op1_listD {ks : List (List Ky)} : op1 st .listOf (.dT ks ts) = .ok (true, .lst (ks.map kTup)) := rfl
@[simp] theorem op1_listK {ks : List Ky} : op1 st .listOf (.dK ks ts) = .ok (true, .lst (ks.map Ky.t)) := rfl
@[simp] theorem op1_max : op1 st .maxL (.lst ts) = oM maxI (intsOf ts) := by
  show (match intsOf ts with | some (m :: ms) => vl (.int (maxI m ms)) | _ => .bad : O) = _
  rcases intsOf ts with _ | _ | ⟨m, ms⟩ <;> rfl
@[simp] theorem op1_min : op1 st .minL (.lst ts) = oM minI (intsOf ts) := by
  show (match intsOf ts with | some (m :: ms) => vl (.int (minI m ms)) | _ => .bad : O) = _
  rcases intsOf ts with _ | _ | ⟨m, ms⟩ <;> rfl
@[simp] theorem op1_any : op1 st .anyL (.lst ts) = oA (·.any id) (blsOf ts) := by
  show (match blsOf ts with | some bs => vl (.bl (bs.any id)) | _ => .bad : O) = _
  rcases blsOf ts with _ | m <;> rfl
@[simp] theorem op1_all : op1 st .allL (.lst ts) = oA (·.all id) (blsOf ts) := by
  show (match blsOf ts with | some bs => vl (.bl (bs.all id)) | _ => .bad : O) = _
  rcases blsOf ts with _ | m <;> rfl
@[simp] theorem op1_sort : op1 st .sortI (.lst ts) = oL Ev.sortI (intsOf ts) := by
  show (match intsOf ts with | some ns => .ok (true, .lst ((Ev.sortI ns).map T.int)) | _ => .bad : O) = _
  rcases intsOf ts with _ | m <;> rfl
@[simp] theorem op1_setI : op1 st .setI (.lst ts) = oSI (intsOf ts) := by
  show (match intsOf ts with | some ns => if ns.length < 4000 then .ok (true, .lst ((Ev.setI ns).map T.int)) else .bad | _ => .bad : O) = _
  rcases intsOf ts with _ | m <;> rfl
@[simp] theorem op1_setT : op1 st .setT (.lst ts) = oST (tupsOf ts) := by
  show (match tupsOf ts with | some ns => if (Ev.setT ns).length < 1228 ∧ [] ∉ ns then .ok (true, .lst ((Ev.setT ns).map fun n => .tup (n.map T.int))) else .bad | _ => .bad : O) = _
  rcases tupsOf ts with _ | m <;> rfl
@[simp] theorem op1_dict : op1 st .dictOf (.xt []) = .ok (true, .dK [] []) := rfl
@[simp] theorem op1_isInt0 {n : Int} : op1 st .isInt (.int n) = vl (.bl true) := rfl
@[simp] theorem op1_isInt1  : op1 st .isInt (.bl p) = vl (.bl true) := rfl
@[simp] theorem op1_isInt2 {n : Nat} : op1 st .isInt (.sym n) = vl (.bl false) := rfl
@[simp] theorem op1_isInt3  : op1 st .isInt (.tup ts) = vl (.bl false) := rfl
@[simp] theorem op1_isInt4  : op1 st .isInt (.non) = vl (.bl false) := rfl
@[simp] theorem op1_isBool0 {n : Int} : op1 st .isBool (.int n) = vl (.bl false) := rfl
@[simp] theorem op1_isBool1  : op1 st .isBool (.bl p) = vl (.bl true) := rfl
@[simp] theorem op1_isBool2 {n : Nat} : op1 st .isBool (.sym n) = vl (.bl false) := rfl
@[simp] theorem op1_isBool3  : op1 st .isBool (.tup ts) = vl (.bl false) := rfl
@[simp] theorem op1_isBool4  : op1 st .isBool (.non) = vl (.bl false) := rfl
@[simp] theorem op1_isTup0 {n : Int} : op1 st .isTup (.int n) = vl (.bl false) := rfl
@[simp] theorem op1_isTup1  : op1 st .isTup (.bl p) = vl (.bl false) := rfl
@[simp] theorem op1_isTup2 {n : Nat} : op1 st .isTup (.sym n) = vl (.bl false) := rfl
@[simp] theorem op1_isTup3  : op1 st .isTup (.tup ts) = vl (.bl true) := rfl
@[simp] theorem op1_isTup4  : op1 st .isTup (.xt ts) = vl (.bl true) := rfl
@[simp] theorem op1_isTup5  : op1 st .isTup (.non) = vl (.bl false) := rfl
@[simp] theorem op1_isStr0 {n : Int} : op1 st .isStr (.int n) = vl (.bl false) := rfl
@[simp] theorem op1_isStr1  : op1 st .isStr (.bl p) = vl (.bl false) := rfl
@[simp] theorem op1_isStr2 {n : Nat} : op1 st .isStr (.sym n) = vl (.bl true) := rfl
@[simp] theorem op1_isStr3  : op1 st .isStr (.tup ts) = vl (.bl false) := rfl
@[simp] theorem op1_isStr4  : op1 st .isStr (.non) = vl (.bl false) := rfl
def eqO (b : Bool) (t u : T) : Option Bool := if T.plain t = true ∧ T.plain u = true ∧ min (T.depth t) (T.depth u) ≤ 64 then some (T.eqv t u) else none
@[simp] theorem eqOf_ss {a b : Nat} : eqOf (.sym a) (.sym b) = some (a == b) := rfl
@[simp] theorem eqOf_ii {a b : Int} : eqOf (.int a) (.int b) = some (a == b) := rfl
@[simp] theorem op2_addI {a b : Int} : op2 st .add (.int a) (.int b) = vl (.int (a + b)) := rfl
@[simp] theorem op2_addT : op2 st .add (.tup ts) (.tup us) = if ts.length + us.length ≤ SZ then vl (.tup (ts ++ us)) else .bad := rfl
@[simp] theorem op2_addL : op2 st .add (.lst ts) (.lst us) = if ts.length + us.length ≤ SZ then .ok (true, .lst (ts ++ us)) else .bad := rfl
@[simp] theorem op2_sub {a b : Int} : op2 st .sub (.int a) (.int b) = vl (.int (a - b)) := rfl
@[simp] theorem op2_mul {a b : Int} : op2 st .mul (.int a) (.int b) = if a.natAbs < W64 ∨ b.natAbs < W64 then vl (.int (a * b)) else .bad := rfl
@[simp] theorem op2_fdiv {a b : Int} : op2 st .fdiv (.int a) (.int b) = if 0 < b ∧ b < 1073741824 then vl (.int (a / b)) else .bad := rfl
@[simp] theorem op2_mod {a b : Int} : op2 st .mod (.int a) (.int b) = if 0 < b then vl (.int (a % b)) else .bad := rfl
@[simp] theorem op2_pow {a b : Int} : op2 st .pow (.int a) (.int b) = if 0 ≤ b ∧ b ≤ 1000000 ∧ a.natAbs < W64 then vl (.int (a ^ b.toNat)) else .bad := rfl
@[simp] theorem op2_eq : op2 st .eq t u = oB id (eqOf t u) := by
  show (match eqOf t u with | some b => vl (.bl b) | none => .bad : O) = _
  rcases eqOf t u with _ | b <;> rfl
@[simp] theorem op2_ne : op2 st .ne t u = oB not (eqOf t u) := by
  show (match eqOf t u with | some b => vl (.bl (!b)) | none => .bad : O) = _
  rcases eqOf t u with _ | b <;> rfl
@[simp] theorem op2_lt {a b : Int} : op2 st .lt (.int a) (.int b) = vl (.bl (decide (a < b))) := rfl
@[simp] theorem op2_le {a b : Int} : op2 st .le (.int a) (.int b) = vl (.bl (decide (a ≤ b))) := rfl
@[simp] theorem op2_gt {a b : Int} : op2 st .gt (.int a) (.int b) = vl (.bl (decide (b < a))) := rfl
@[simp] theorem op2_ge {a b : Int} : op2 st .ge (.int a) (.int b) = vl (.bl (decide (b ≤ a))) := rfl
@[simp] theorem op2_in : op2 st .isIn t u = oB id (memOf t u) := by
  show (match memOf t u with | some b => vl (.bl b) | none => .bad : O) = _
  rcases memOf t u with _ | b <;> rfl
@[simp] theorem op2_ni : op2 st .notIn t u = oB not (memOf t u) := by
  show (match memOf t u with | some b => vl (.bl (!b)) | none => .bad : O) = _
  rcases memOf t u with _ | b <;> rfl
@[simp] theorem op2_max {a b : Int} : op2 st .max2 (.int a) (.int b) = vl (.int (if b > a then b else a)) := rfl
@[simp] theorem op2_min {a b : Int} : op2 st .min2 (.int a) (.int b) = vl (.int (if b < a then b else a)) := rfl
@[simp] theorem op2_item : op2 st .item t u = oT (itemOf st t u) := by
  show (match itemOf st t u with | some t => vl t | none => .bad : O) = _
  rcases itemOf st t u with _ | b <;> rfl
@[simp] theorem item_t {n : Int} : itemOf st (.tup ts) (.int n) = (ixOf ts.length n).bind fun j => ts[j]? := rfl
@[simp] theorem item_l {n : Int} : itemOf st (.lst ts) (.int n) = (ixOf ts.length n).bind fun j => ts[j]? := rfl
@[simp] theorem item_r {k : Nat} {n : Int} : itemOf st (.ref k) (.int n) = (st[k]?).bind fun ts => (ixOf ts.length n).bind fun j => ts[j]? := rfl
@[simp] theorem item_k {ks : List Ky} : itemOf st (.dK ks ts) u = (kyOf u).bind fun k => dGet ks ts k := by cases u <;> rfl
@[simp] theorem item_d {ks : List (List Ky)} : itemOf st (.dT ks ts) (.tup us) = (kysOf us).bind fun k => dGet ks ts k := rfl
@[simp] theorem ixOf_n {n k : Nat} (h : k < n) : ixOf n (k : Int) = some k := by
  unfold ixOf
  rw [if_pos (Int.natCast_nonneg k), if_pos (Int.ofNat_lt.mpr h)]; rfl
@[simp] theorem ixOf_0 {n : Nat} (h : 0 < n) : ixOf n 0 = some 0 := ixOf_n h
@[simp] theorem ixOf_1 {n : Nat} (h : 1 < n) : ixOf n 1 = some 1 := ixOf_n h
@[simp] theorem ixOf_2 {n : Nat} (h : 2 < n) : ixOf n 2 = some 2 := ixOf_n h
@[simp] theorem ixOf_3 {n : Nat} (h : 3 < n) : ixOf n 3 = some 3 := ixOf_n h
@[simp] theorem ixOf_4 {n : Nat} (h : 4 < n) : ixOf n 4 = some 4 := ixOf_n h
@[simp] theorem ixOf_6 {n : Nat} (h : 6 < n) : ixOf n 6 = some 6 := ixOf_n h
@[simp] theorem kyOf_i {n : Int} : kyOf (.int n) = some (.i n) := rfl
@[simp] theorem kysOf_n : kysOf [] = some [] := rfl
@[simp] theorem kysOf_c : kysOf (t :: ts) = (kyOf t).bind fun k => (kysOf ts).map fun ks => k :: ks := rfl
@[simp] theorem intsOf_n : intsOf [] = some [] := rfl
@[simp] theorem intsOf_c {n : Int} : intsOf (.int n :: ts) = (intsOf ts).map fun ns => n :: ns := by
  show (intOf (.int n)).bind (fun n => (intsOf ts).map fun ns => n :: ns) = _; rfl
@[simp] theorem blsOf_n : blsOf [] = some [] := rfl
@[simp] theorem blsOf_c : blsOf (.bl p :: ts) = (blsOf ts).map fun ns => p :: ns := rfl
@[simp] theorem mem_sym {a : Nat} : memOf (.sym a) (.tup ts) = if ts.all T.flat = true then some (inL (.sym a) ts) else none := by
  show (if T.flat (.sym a) = true ∧ ts.all T.flat = true then some (inL (.sym a) ts) else none) = _
  by_cases h : ts.all T.flat = true
  · rw [if_pos h, if_pos ⟨rfl, h⟩]
  · rw [if_neg h, if_neg fun z => h z.2]
@[simp] theorem flat_sym {a : Nat} : T.flat (.sym a) = true := rfl
@[simp] theorem inL_n : inL t [] = false := rfl
@[simp] theorem inL_s {a b : Nat} : inL (.sym a) (.sym b :: ts) = ((b == a) || inL (.sym a) ts) := rfl
@[simp] theorem len_t : lenOf st (.tup ts) = some ts.length := rfl
@[simp] theorem len_l : lenOf st (.lst ts) = some ts.length := rfl
@[simp] theorem len_x : lenOf st (.xt ts) = some ts.length := rfl
@[simp] theorem len_r {k : Nat} : lenOf st (.ref k) = (st[k]?).map List.length := rfl
@[simp] theorem len_k {ks : List Ky} : lenOf st (.dK ks ts) = some ks.length := rfl
@[simp] theorem cut_t {lo hi : Option Int} : cutT lo hi (.tup ts) = vl (.tup (cutL ts ((lo.map (bdOf ts.length)).getD 0) ((hi.map (bdOf ts.length)).getD ts.length))) := rfl
@[simp] theorem cut_l {lo hi : Option Int} : cutT lo hi (.lst ts) = .ok (true, .lst (cutL ts ((lo.map (bdOf ts.length)).getD 0) ((hi.map (bdOf ts.length)).getD ts.length))) := rfl
@[simp] theorem bdOf_n {n k : Nat} : bdOf n (k : Int) = min k n := by
  unfold bdOf
  rw [if_neg (by omega)]; rfl
theorem bdOf_lit {n : Nat} {k : Nat} {m : Int} (h : m = (k : Int)) : bdOf n m = min k n := by rw [h]; exact bdOf_n
@[simp] theorem bdOf_1 {n : Nat} : bdOf n 1 = min 1 n := bdOf_n
@[simp] theorem bdOf_2 {n : Nat} : bdOf n 2 = min 2 n := bdOf_n
@[simp] theorem bdOf_6 {n : Nat} : bdOf n 6 = min 6 n := bdOf_n
@[simp] theorem bdOf_1m {n k : Nat} : bdOf n ((k : Int) + 1) = min (k + 1) n := by rw [← bdOf_n]; rfl
@[simp] theorem cutL_0 {α : Type} {xs : List α} {n : Nat} : cutL xs 0 n = xs.take n := by unfold cutL; simp
@[simp] theorem cutL_e {α : Type} {xs : List α} {n m : Nat} (h : xs.length ≤ m) : cutL xs n m = xs.drop n := by unfold cutL; exact List.take_of_length_le (by rw [List.length_drop]; omega)
@[simp] theorem SZ_s : SZ = 16777216 := rfl
@[simp] theorem W64_s : W64 = 18446744073709551616 := rfl
end
section
variable {C : Cal} {W : Nat} {Γ : Env} {st s : St} {i : Nat} {t u : T} {o p : Bool} {ts us : List T} {e a b c : E} {es : List E}
/-! expressions -/
def kU (q : U1) : X3 → X3
  | .ok (_, t, s) => opR (op1 s q t) s
  | .exc c fs s => .exc c fs s
  | .bad => .bad
@[simp] theorem kU_ok {q : U1} : kU q (.ok (o, t, s)) = opR (op1 s q t) s := rfl
def kB (C : Cal) (q : U2) (b : E) (Γ : Env) (r : X3) : X3 := r.bind fun x => (bor Γ x.2.2 (evE C b Γ x.2.2) b).bind fun y => opR (op2 y.2.2 q x.2.1 y.2.1) y.2.2
def kB2 (q : U2) (t : T) (r : X3) : X3 := r.bind fun y => opR (op2 y.2.2 q t y.2.1) y.2.2
@[simp] theorem kB_ok {q : U2} : kB C q b Γ (.ok (o, t, s)) = kB2 q t (bor Γ s (evE C b Γ s) b) := rfl
@[simp] theorem kB2_ok {q : U2} : kB2 q t (.ok (o, u, s)) = opR (op2 s q t u) s := rfl
def kBl (r : X3) : X3 := (boolR r).bind fun y => .ok (false, .bl y.1, y.2)
@[simp] theorem kBl_ok : kBl (.ok (o, .bl p, s)) = .ok (false, .bl p, s) := rfl
@[simp] theorem kBl_if {c : Prop} [Decidable c] {x y : X3} : kBl (if c then x else y) = if c then kBl x else kBl y := by split <;> rfl
def kAnd (C : Cal) (b : E) (Γ : Env) (r : X3) : X3 := (boolR r).bind fun x => if x.1 = true then kBl (evE C b Γ x.2) else .ok (false, .bl false, x.2)
@[simp] theorem kAnd_ok : kAnd C b Γ (.ok (o, .bl p, s)) = if p = true then kBl (evE C b Γ s) else .ok (false, .bl false, s) := rfl
def kOr (C : Cal) (b : E) (Γ : Env) (r : X3) : X3 := (boolR r).bind fun x => if x.1 = true then .ok (false, .bl true, x.2) else kBl (evE C b Γ x.2)
@[simp] theorem kOr_ok : kOr C b Γ (.ok (o, .bl p, s)) = if p = true then .ok (false, .bl true, s) else kBl (evE C b Γ s) := rfl
def kIte (C : Cal) (a b : E) (Γ : Env) (r : X3) : X3 := (boolR r).bind fun x => if x.1 = true then evE C a Γ x.2 else evE C b Γ x.2
@[simp] theorem kIte_ok : kIte C a b Γ (.ok (o, .bl p, s)) = if p = true then evE C a Γ s else evE C b Γ s := rfl
def kTp (r : R (List T × St)) : X3 := r.bind fun x => if x.1.length ≤ SZ then .ok (false, .tup x.1, x.2) else .bad
@[simp] theorem kTp_ok : kTp (.ok (ts, s)) = if ts.length ≤ SZ then .ok (false, .tup ts, s) else .bad := rfl
def kXt (r : R (List T × St)) : X3 := r.bind fun x => if x.1.length ≤ SZ then .ok (false, .xt x.1, x.2) else .bad
@[simp] theorem kXt_ok : kXt (.ok (ts, s)) = if ts.length ≤ SZ then .ok (false, .xt ts, s) else .bad := rfl
def kLs (r : R (List T × St)) : X3 := r.bind fun x => if x.1.length ≤ SZ then .ok (true, .lst x.1, x.2) else .bad
@[simp] theorem kLs_ok : kLs (.ok (ts, s)) = if ts.length ≤ SZ then .ok (true, .lst ts, s) else .bad := rfl
def kCe (r : R (List T × St)) : X3 := r.bind fun x => if x.1.length ≤ SZ then .ok (false, .ref x.2.length, x.2 ++ [x.1]) else .bad
@[simp] theorem kCe_ok : kCe (.ok (ts, s)) = if ts.length ≤ SZ then .ok (false, .ref s.length, s ++ [ts]) else .bad := rfl
def kCall (C : Cal) (f : Nat) (r : R (List T × St)) : X3 := r.bind fun x => C f x.1 x.2
@[simp] theorem kCall_ok {f : Nat} : kCall C f (.ok (ts, s)) = C f ts s := rfl
def kEs (C : Cal) (es : List E) (Γ : Env) (r : X3) : R (List T × St) := r.bind fun x => (evEs C es Γ x.2.2).bind fun y => .ok (x.2.1 :: y.1, y.2)
def kEs2 (t : T) (r : R (List T × St)) : R (List T × St) := r.bind fun y => .ok (t :: y.1, y.2)
@[simp] theorem kEs_ok : kEs C es Γ (.ok (o, t, s)) = kEs2 t (evEs C es Γ s) := rfl
@[simp] theorem kEs2_ok : kEs2 t (.ok (ts, s)) = .ok (t :: ts, s) := rfl
def kSl (C : Cal) (to : Bool) (e : E) (Γ : Env) (r : X3) : X3 := r.bind fun x => (evE C e Γ x.2.2).bind fun y => match y.2.1 with
  | .int n => opR (if to = true then cutT none (some n) x.2.1 else cutT (some n) none x.2.1) y.2.2
  | _ => .bad
def kSl2 (to : Bool) (t : T) (r : X3) : X3 := r.bind fun y => match y.2.1 with
  | .int n => opR (if to = true then cutT none (some n) t else cutT (some n) none t) y.2.2
  | _ => .bad
@[simp] theorem kSl_ok {to : Bool} : kSl C to e Γ (.ok (o, t, s)) = kSl2 to t (evE C e Γ s) := rfl
@[simp] theorem kSl2_to {n : Int} : kSl2 true t (.ok (o, .int n, s)) = opR (cutT none (some n) t) s := rfl
@[simp] theorem kSl2_fr {n : Int} : kSl2 false t (.ok (o, .int n, s)) = opR (cutT (some n) none t) s := rfl
def kM (C : Cal) (b c : E) (Γ : Env) (r : X3) : X3 := r.bind fun x => (evE C b Γ x.2.2).bind fun y => (evE C c Γ y.2.2).bind fun z => match x.2.1, y.2.1, z.2.1 with
    | .int i, .int j, .int k => .ok (false, .int (maxI i [j, k]), z.2.2)
    | _, _, _ => .bad
def kM2 (C : Cal) (t : T) (c : E) (Γ : Env) (r : X3) : X3 := r.bind fun y => (evE C c Γ y.2.2).bind fun z => match t, y.2.1, z.2.1 with
    | .int i, .int j, .int k => .ok (false, .int (maxI i [j, k]), z.2.2)
    | _, _, _ => .bad
def kM3 (t u : T) (r : X3) : X3 := r.bind fun z => match t, u, z.2.1 with
    | .int i, .int j, .int k => .ok (false, .int (maxI i [j, k]), z.2.2)
    | _, _, _ => .bad
@[simp] theorem kM_ok : kM C b c Γ (.ok (o, t, s)) = kM2 C t c Γ (evE C b Γ s) := rfl
@[simp] theorem kM2_ok : kM2 C t c Γ (.ok (o, u, s)) = kM3 t u (evE C c Γ s) := rfl
@[simp] theorem kM3_ok {i j k : Int} : kM3 (.int i) (.int j) (.ok (o, .int k, s)) = .ok (false, .int (maxI i [j, k]), s) := rfl
def kCh (C : Cal) (q q' : U2) (b c : E) (Γ : Env) (r : X3) : X3 := r.bind fun x => (evE C b Γ x.2.2).bind fun y => (boolR (opR (op2 y.2.2 q x.2.1 y.2.1) y.2.2)).bind fun k =>
    if k.1 = true then (evE C c Γ k.2).bind fun z => opR (op2 z.2.2 q' y.2.1 z.2.1) z.2.2 else .ok (false, .bl false, k.2)
/-- the turn of a comprehension -/
def cB (C : Cal) (own : List Nat) (g : G) (c e : E) (Γ : Env) (t : T) (s : St) : R (List T × St) := match asgG g t (wipe Γ own) with
  | none => .bad
  | some Γ1 => (boolR (evE C c Γ1 s)).bind fun y => if y.1 = true then (evE C e Γ1 y.2).bind fun z => .ok ([z.2.1], z.2.2) else .ok ([], y.2)
def kCb (C : Cal) (e : E) (Γ : Env) (r : X3) : R (List T × St) := (boolR r).bind fun y => if y.1 = true then (evE C e Γ y.2).bind fun z => .ok ([z.2.1], z.2.2) else .ok ([], y.2)
def kC1 (r : X3) : R (List T × St) := r.bind fun z => .ok ([z.2.1], z.2.2)
@[simp] theorem kC1_ok : kC1 (.ok (o, t, s)) = .ok ([t], s) := rfl
@[simp] theorem kCb_ok : kCb C e Γ (.ok (o, .bl p, s)) = if p = true then kC1 (evE C e Γ s) else .ok ([], s) := rfl
def cB0 (C : Cal) (c e : E) (s : St) : Option Env → R (List T × St)
  | none => .bad
  | some Γ1 => kCb C e Γ1 (evE C c Γ1 s)
@[simp] theorem cB0_s : cB0 C c e s (some Γ) = kCb C e Γ (evE C c Γ s) := rfl
@[simp] theorem cB_eq {own : List Nat} {g : G} : cB C own g c e Γ t s = cB0 C c e s (asgG g t (wipe Γ own)) := by
  unfold cB cB0; rcases asgG g t (wipe Γ own) with _ | _ <;> rfl
def kCo (C : Cal) (own : List Nat) (g : G) (c e : E) (Γ : Env) (r : R (List T × St)) : X3 := r.bind fun x => (R.noexc (compL (cB C own g c e Γ) x.1 x.2)).bind fun r => if r.1.length ≤ SZ then .ok (true, .lst r.1, r.2) else .bad
def kCl (r : R (List T × St)) : X3 := (R.noexc r).bind fun r => if r.1.length ≤ SZ then .ok (true, .lst r.1, r.2) else .bad
@[simp] theorem kCo_ok {own : List Nat} {g : G} : kCo C own g c e Γ (.ok (ts, s)) = kCl (compL (cB C own g c e Γ) ts s) := rfl
@[simp] theorem kCl_ok : kCl (.ok (ts, s)) = if ts.length ≤ SZ then .ok (true, .lst ts, s) else .bad := rfl
def kCm (f : T → St → R (List T × St)) (ts : List T) (r : R (List T × St)) : R (List T × St) := r.bind fun x => (compL f ts x.2).bind fun y => .ok (x.1 ++ y.1, y.2)
def kCm2 (us : List T) (r : R (List T × St)) : R (List T × St) := r.bind fun y => .ok (us ++ y.1, y.2)
@[simp] theorem kCm_ok {f : T → St → R (List T × St)} : kCm f ts (.ok (us, s)) = kCm2 us (compL f ts s) := rfl
@[simp] theorem kCm2_ok : kCm2 us (.ok (ts, s)) = .ok (us ++ ts, s) := rfl
@[simp] theorem compL_n {f : T → St → R (List T × St)} : compL f [] st = .ok ([], st) := rfl
@[simp] theorem compL_s {f : T → St → R (List T × St)} : compL f (t :: ts) st = kCm f ts (f t st) := rfl
/-- the turns of a comprehension with two clauses -/
def cI (C : Cal) (own2 : List Nat) (g2 : G) (e : E) (Γ : Env) (t : T) (s : St) : R (List T × St) := match asgG g2 t (wipe Γ own2) with
  | none => .bad
  | some Γ2 => (evE C e Γ2 s).bind fun z => .ok ([z.2.1], z.2.2)
def cI0 (C : Cal) (e : E) (s : St) : Option Env → R (List T × St)
  | none => .bad
  | some Γ1 => kC1 (evE C e Γ1 s)
@[simp] theorem cI0_s : cI0 C e s (some Γ) = kC1 (evE C e Γ s) := rfl
@[simp] theorem cI_eq {own2 : List Nat} {g2 : G} : cI C own2 g2 e Γ t s = cI0 C e s (asgG g2 t (wipe Γ own2)) := by
  unfold cI cI0; rcases asgG g2 t (wipe Γ own2) with _ | _ <;> rfl
def cO (C : Cal) (own : List Nat) (g : G) (own2 : List Nat) (g2 : G) (it2 : I) (e : E) (Γ : Env) (t : T) (s : St) : R (List T × St) := match asgG g t (wipe Γ own) with
  | none => .bad
  | some Γ1 => if retI Γ1 it2 = true then (evI C it2 Γ1 s).bind fun y => compL (cI C own2 g2 e Γ1) y.1 y.2 else .bad
def kO (C : Cal) (own2 : List Nat) (g2 : G) (e : E) (Γ : Env) (r : R (List T × St)) : R (List T × St) := r.bind fun y => compL (cI C own2 g2 e Γ) y.1 y.2
@[simp] theorem kO_ok {own2 : List Nat} {g2 : G} : kO C own2 g2 e Γ (.ok (ts, s)) = compL (cI C own2 g2 e Γ) ts s := rfl
def cO0 (C : Cal) (own2 : List Nat) (g2 : G) (it2 : I) (e : E) (s : St) : Option Env → R (List T × St)
  | none => .bad
  | some Γ1 => if retI Γ1 it2 = true then kO C own2 g2 e Γ1 (evI C it2 Γ1 s) else .bad
@[simp] theorem cO0_s {own2 : List Nat} {g2 : G} {it2 : I} : cO0 C own2 g2 it2 e s (some Γ) = if retI Γ it2 = true then kO C own2 g2 e Γ (evI C it2 Γ s) else .bad := rfl
@[simp] theorem cO_eq {own own2 : List Nat} {g g2 : G} {it2 : I} : cO C own g own2 g2 it2 e Γ t s = cO0 C own2 g2 it2 e s (asgG g t (wipe Γ own)) := by
  unfold cO cO0; rcases asgG g t (wipe Γ own) with _ | _ <;> rfl
def kCo2 (C : Cal) (own : List Nat) (g : G) (own2 : List Nat) (g2 : G) (it2 : I) (e : E) (Γ : Env) (r : R (List T × St)) : X3 := r.bind fun x => kCl (compL (cO C own g own2 g2 it2 e Γ) x.1 x.2)
@[simp] theorem kCo2_ok {own own2 : List Nat} {g g2 : G} {it2 : I} : kCo2 C own g own2 g2 it2 e Γ (.ok (ts, s)) = kCl (compL (cO C own g own2 g2 it2 e Γ) ts s) := rfl
def kG (C : Cal) (k z : E) (Γ : Env) (r : X3) : X3 := r.bind fun x => if isD x.2.1 = true then (evE C k Γ x.2.2).bind fun y => (evE C z Γ y.2.2).bind fun w => match getOf x.2.1 y.2.1 with
    | some o => .ok (false, o.getD w.2.1, w.2.2)
    | none => .bad
    else .bad
def kK (C : Cal) (e : E) (Γ : Env) (r : X3) : X3 := r.bind fun x => (evE C e Γ x.2.2).bind fun y => match kyOf x.2.1 with
    | some k => .ok (true, .dK [k] [y.2.1], y.2.2)
    | none => .bad
def kT (C : Cal) (e : E) (Γ : Env) (r : X3) : X3 := r.bind fun x => (evE C e Γ x.2.2).bind fun y => match x.2.1 with
    | .tup us => match kysOf us with
      | some k => .ok (true, .dT [k] [y.2.1], y.2.2)
      | none => .bad
    | _ => .bad
def kR (r : X3) : X3 := r.bind fun x => match x.2.1 with
    | .int n => if 0 ≤ n ∧ n ≤ (SZ : Int) then .ok (true, .lst (rangeT 0 n.toNat), x.2.2) else .bad
    | _ => .bad
@[simp] theorem kR_ok {n : Int} : kR (.ok (o, .int n, s)) = if 0 ≤ n ∧ n ≤ (SZ : Int) then .ok (true, .lst (rangeT 0 n.toNat), s) else .bad := rfl
@[simp] theorem e_c : evE C (.c t) Γ st = .ok (false, t, st) := by rfl
@[simp] theorem e_v : evE C (.v i) Γ st = kv (rdF Γ i) st := by
  show (match rdF Γ i with | some t => .ok (false, t, st) | none => .bad : X3) = _
  rcases rdF Γ i with _ | _ <;> rfl
@[simp] theorem e_tup : evE C (.tup es) Γ st = kTp (evEs C es Γ st) := by rfl
@[simp] theorem e_xt : evE C (.xt es) Γ st = kXt (evEs C es Γ st) := by rfl
@[simp] theorem e_lst : evE C (.lst es) Γ st = kLs (evEs C es Γ st) := by rfl
@[simp] theorem e_cell : evE C (.cell es) Γ st = kCe (evEs C es Γ st) := by rfl
@[simp] theorem e_u {q : U1} : evE C (.u q a) Γ st = kU q (bor Γ st (evE C a Γ st) a) := by
  show R.bind _ _ = _
  unfold kU R.bind
  rcases bor Γ st (evE C a Γ st) a with ⟨_, _, _⟩ | _ | _ <;> rfl
@[simp] theorem e_b {q : U2} : evE C (.b q a b) Γ st = kB C q b Γ (bor Γ st (evE C a Γ st) a) := by rfl
@[simp] theorem e_and : evE C (.and a b) Γ st = kAnd C b Γ (evE C a Γ st) := by rfl
@[simp] theorem e_or : evE C (.or a b) Γ st = kOr C b Γ (evE C a Γ st) := by rfl
@[simp] theorem e_ite : evE C (.ite c a b) Γ st = kIte C a b Γ (evE C c Γ st) := by rfl
@[simp] theorem e_chain {q q' : U2} : evE C (.chain q q' a b c) Γ st = kCh C q q' b c Γ (evE C a Γ st) := by rfl
@[simp] theorem e_slTo : evE C (.slTo a b) Γ st = kSl C true b Γ (bor Γ st (evE C a Γ st) a) := by rfl
@[simp] theorem e_slFrom : evE C (.slFrom a b) Γ st = kSl C false b Γ (bor Γ st (evE C a Γ st) a) := by rfl
@[simp] theorem e_max3 : evE C (.max3 a b c) Γ st = kM C b c Γ (evE C a Γ st) := by rfl
@[simp] theorem e_call {f : Nat} : evE C (.call f es) Γ st = kCall C f (evEs C es Γ st) := by rfl
@[simp] theorem e_comp {own : List Nat} {g : G} {it : I} : evE C (.comp own g it c e) Γ st = kCo C own g c e Γ (evI C it Γ st) := by rfl
@[simp] theorem e_comp2 {own own2 : List Nat} {g g2 : G} {it it2 : I} : evE C (.comp2 own g it own2 g2 it2 e) Γ st = kCo2 C own g own2 g2 it2 e Γ (evI C it Γ st) := by rfl
@[simp] theorem e_get : evE C (.get a b c) Γ st = kG C b c Γ (bor Γ st (evE C a Γ st) a) := by rfl
@[simp] theorem e_dK0 : evE C .dK0 Γ st = .ok (true, .dK [] [], st) := by rfl
@[simp] theorem e_dT0 : evE C .dT0 Γ st = .ok (true, .dT [] [], st) := by rfl
@[simp] theorem e_dK1 : evE C (.dK1 a b) Γ st = kK C b Γ (evE C a Γ st) := by rfl
@[simp] theorem e_dT1 : evE C (.dT1 a b) Γ st = kT C b Γ (evE C a Γ st) := by rfl
@[simp] theorem e_rng : evE C (.rng a) Γ st = kR (evE C a Γ st) := by rfl
@[simp] theorem es_n : evEs C [] Γ st = .ok ([], st) := by rfl
@[simp] theorem es_c : evEs C (e :: es) Γ st = kEs C es Γ (evE C e Γ st) := by rfl
/-! what is walked -/
def kSq (r : X3) : R (List T × St) := r.bind fun x => match itemsOf x.2.1 with
    | some ts => .ok (ts, x.2.2)
    | none => .bad
@[simp] theorem kSq_l : kSq (.ok (o, .lst ts, s)) = .ok (ts, s) := rfl
@[simp] theorem kSq_t : kSq (.ok (o, .tup ts, s)) = .ok (ts, s) := rfl
def kR1 (r : X3) : R (List T × St) := r.bind fun x => match x.2.1 with
    | .int n => if -RG ≤ n ∧ n < RG then .ok (rangeT 0 n.toNat, x.2.2) else .bad
    | _ => .bad
theorem kR1_ok {n : Int} : kR1 (.ok (o, .int n, s)) = if -RG ≤ n ∧ n < RG then .ok (rangeT 0 n.toNat, s) else .bad := rfl
theorem rg_nat {n : Nat} (h : n < 4000000000) : -RG ≤ (n : Int) ∧ (n : Int) < RG := by unfold RG; omega
@[simp] theorem kR1_n {n : Nat} (h : n < 4000000000) : kR1 (.ok (o, .int (n : Int), s)) = .ok (rangeT 0 n, s) := by
  have h2 := rg_nat h
  rw [kR1_ok]
  generalize RG = q at h2 ⊢
  rw [if_pos h2, Int.toNat_natCast]
def kR2 (C : Cal) (b : E) (Γ : Env) (r : X3) : R (List T × St) := r.bind fun x => (evE C b Γ x.2.2).bind fun y => match x.2.1, y.2.1 with
    | .int m, .int n => if -RG ≤ m ∧ m < RG ∧ -RG ≤ n ∧ n < RG then .ok (rangeT m (n - m).toNat, y.2.2) else .bad
    | _, _ => .bad
def kR3 (t : T) (r : X3) : R (List T × St) := r.bind fun y => match t, y.2.1 with
    | .int m, .int n => if -RG ≤ m ∧ m < RG ∧ -RG ≤ n ∧ n < RG then .ok (rangeT m (n - m).toNat, y.2.2) else .bad
    | _, _ => .bad
@[simp] theorem kR2_ok : kR2 C b Γ (.ok (o, t, s)) = kR3 t (evE C b Γ s) := rfl
theorem kR3_ok {m n : Int} : kR3 (.int m) (.ok (o, .int n, s)) = if -RG ≤ m ∧ m < RG ∧ -RG ≤ n ∧ n < RG then .ok (rangeT m (n - m).toNat, s) else .bad := rfl
theorem kR3_n {m : Int} {n : Nat} (h1 : -1000 ≤ m) (h2 : m < 1000) (h : n < 4000000000) : kR3 (.int m) (.ok (o, .int (n : Int), s)) = .ok (rangeT m ((n : Int) - m).toNat, s) := by
  have h3 : -RG ≤ m ∧ m < RG ∧ -RG ≤ (n : Int) ∧ (n : Int) < RG := by unfold RG; omega
  rw [kR3_ok]
  generalize RG = q at h3 ⊢
  rw [if_pos h3]
def kRv (r : X3) : R (List T × St) := r.bind fun x => match x.2.1 with
    | .tup ts => .ok (ts.reverse, x.2.2)
    | _ => .bad
@[simp] theorem kRv_ok : kRv (.ok (o, .tup ts, s)) = .ok (ts.reverse, s) := rfl
def kEn (r : X3) : R (List T × St) := r.bind fun x => match x.2.1 with
    | .tup ts => .ok (enumT 0 ts, x.2.2)
    | _ => .bad
@[simp] theorem kEn_ok : kEn (.ok (o, .tup ts, s)) = .ok (enumT 0 ts, s) := rfl
def kKy (s : St) : Option T → R (List T × St)
  | some (.dK ks _) => .ok (ks.map Ky.t, s)
  | some (.dT ks _) => .ok (ks.map kTup, s)
  | _ => .bad
@[simp] theorem kKy_k {ks : List Ky} : kKy s (some (.dK ks ts)) = .ok (ks.map Ky.t, s) := rfl
@[simp] theorem kKy_t {ks : List (List Ky)} : kKy s (some (.dT ks ts)) = .ok (ks.map kTup, s) := rfl
@[simp] theorem i_seq : evI C (.seq e) Γ st = kSq (bor Γ st (evE C e Γ st) e) := by rfl
@[simp] theorem i_r1 : evI C (.rng1 e) Γ st = kR1 (evE C e Γ st) := by rfl
@[simp] theorem i_r2 : evI C (.rng2 a b) Γ st = kR2 C b Γ (evE C a Γ st) := by rfl
@[simp] theorem i_rev : evI C (.rev e) Γ st = kRv (bor Γ st (evE C e Γ st) e) := by rfl
@[simp] theorem i_enum : evI C (.enum e) Γ st = kEn (bor Γ st (evE C e Γ st) e) := by rfl
@[simp] theorem i_keys : evI C (.keys i) Γ st = kKy st (rdF Γ i) := by
  show (match rdF Γ i with | some (.dK ks _) => .ok (ks.map Ky.t, st) | some (.dT ks _) => .ok (ks.map kTup, st) | _ => .bad : R (List T × St)) = _
  rcases rdF Γ i with _ | t
  · rfl
  · cases t <;> rfl
@[simp] theorem retI_seq_c (t : T) : retI Γ (.seq (.c t)) = true := rfl
@[simp] theorem retI_rev_c (t : T) : retI Γ (.rev (.c t)) = true := rfl
@[simp] theorem retI_enum_c (t : T) : retI Γ (.enum (.c t)) = true := rfl
@[simp] theorem retI_seq_tup (es : List E) : retI Γ (.seq (.tup es)) = true := rfl
@[simp] theorem retI_rev_tup (es : List E) : retI Γ (.rev (.tup es)) = true := rfl
@[simp] theorem retI_enum_tup (es : List E) : retI Γ (.enum (.tup es)) = true := rfl
@[simp] theorem retI_seq_xt (es : List E) : retI Γ (.seq (.xt es)) = true := rfl
@[simp] theorem retI_rev_xt (es : List E) : retI Γ (.rev (.xt es)) = true := rfl
@[simp] theorem retI_enum_xt (es : List E) : retI Γ (.enum (.xt es)) = true := rfl
@[simp] theorem retI_seq_lst (es : List E) : retI Γ (.seq (.lst es)) = true := rfl
@[simp] theorem retI_rev_lst (es : List E) : retI Γ (.rev (.lst es)) = true := rfl
@[simp] theorem retI_enum_lst (es : List E) : retI Γ (.enum (.lst es)) = true := rfl
@[simp] theorem retI_seq_cell (es : List E) : retI Γ (.seq (.cell es)) = true := rfl
@[simp] theorem retI_rev_cell (es : List E) : retI Γ (.rev (.cell es)) = true := rfl
@[simp] theorem retI_enum_cell (es : List E) : retI Γ (.enum (.cell es)) = true := rfl
@[simp] theorem retI_seq_u (q : U1) (a : E) : retI Γ (.seq (.u q a)) = true := rfl
@[simp] theorem retI_rev_u (q : U1) (a : E) : retI Γ (.rev (.u q a)) = true := rfl
@[simp] theorem retI_enum_u (q : U1) (a : E) : retI Γ (.enum (.u q a)) = true := rfl
@[simp] theorem retI_seq_b (q : U2) (a b : E) : retI Γ (.seq (.b q a b)) = true := rfl
@[simp] theorem retI_rev_b (q : U2) (a b : E) : retI Γ (.rev (.b q a b)) = true := rfl
@[simp] theorem retI_enum_b (q : U2) (a b : E) : retI Γ (.enum (.b q a b)) = true := rfl
@[simp] theorem retI_seq_and (a b : E) : retI Γ (.seq (.and a b)) = true := rfl
@[simp] theorem retI_rev_and (a b : E) : retI Γ (.rev (.and a b)) = true := rfl
@[simp] theorem retI_enum_and (a b : E) : retI Γ (.enum (.and a b)) = true := rfl
@[simp] theorem retI_seq_or (a b : E) : retI Γ (.seq (.or a b)) = true := rfl
@[simp] theorem retI_rev_or (a b : E) : retI Γ (.rev (.or a b)) = true := rfl
@[simp] theorem retI_enum_or (a b : E) : retI Γ (.enum (.or a b)) = true := rfl
@[simp] theorem retI_seq_ite (c a b : E) : retI Γ (.seq (.ite c a b)) = true := rfl
@[simp] theorem retI_rev_ite (c a b : E) : retI Γ (.rev (.ite c a b)) = true := rfl
@[simp] theorem retI_enum_ite (c a b : E) : retI Γ (.enum (.ite c a b)) = true := rfl
@[simp] theorem retI_seq_chain (q q2 : U2) (a b c : E) : retI Γ (.seq (.chain q q2 a b c)) = true := rfl
@[simp] theorem retI_rev_chain (q q2 : U2) (a b c : E) : retI Γ (.rev (.chain q q2 a b c)) = true := rfl
@[simp] theorem retI_enum_chain (q q2 : U2) (a b c : E) : retI Γ (.enum (.chain q q2 a b c)) = true := rfl
@[simp] theorem retI_seq_slTo (a b : E) : retI Γ (.seq (.slTo a b)) = true := rfl
@[simp] theorem retI_rev_slTo (a b : E) : retI Γ (.rev (.slTo a b)) = true := rfl
@[simp] theorem retI_enum_slTo (a b : E) : retI Γ (.enum (.slTo a b)) = true := rfl
@[simp] theorem retI_seq_slFrom (a b : E) : retI Γ (.seq (.slFrom a b)) = true := rfl
@[simp] theorem retI_rev_slFrom (a b : E) : retI Γ (.rev (.slFrom a b)) = true := rfl
@[simp] theorem retI_enum_slFrom (a b : E) : retI Γ (.enum (.slFrom a b)) = true := rfl
@[simp] theorem retI_seq_max3 (a b c : E) : retI Γ (.seq (.max3 a b c)) = true := rfl
@[simp] theorem retI_rev_max3 (a b c : E) : retI Γ (.rev (.max3 a b c)) = true := rfl
@[simp] theorem retI_enum_max3 (a b c : E) : retI Γ (.enum (.max3 a b c)) = true := rfl
@[simp] theorem retI_seq_call (f : Nat) (es : List E) : retI Γ (.seq (.call f es)) = true := rfl
@[simp] theorem retI_rev_call (f : Nat) (es : List E) : retI Γ (.rev (.call f es)) = true := rfl
@[simp] theorem retI_enum_call (f : Nat) (es : List E) : retI Γ (.enum (.call f es)) = true := rfl
@[simp] theorem retI_seq_comp (own : List Nat) (g : G) (it : I) (c e : E) : retI Γ (.seq (.comp own g it c e)) = true := rfl
@[simp] theorem retI_rev_comp (own : List Nat) (g : G) (it : I) (c e : E) : retI Γ (.rev (.comp own g it c e)) = true := rfl
@[simp] theorem retI_enum_comp (own : List Nat) (g : G) (it : I) (c e : E) : retI Γ (.enum (.comp own g it c e)) = true := rfl
@[simp] theorem retI_seq_comp2 (own : List Nat) (g : G) (it : I) (own2 : List Nat) (g2 : G) (it2 : I) (e : E) : retI Γ (.seq (.comp2 own g it own2 g2 it2 e)) = true := rfl
@[simp] theorem retI_rev_comp2 (own : List Nat) (g : G) (it : I) (own2 : List Nat) (g2 : G) (it2 : I) (e : E) : retI Γ (.rev (.comp2 own g it own2 g2 it2 e)) = true := rfl
@[simp] theorem retI_enum_comp2 (own : List Nat) (g : G) (it : I) (own2 : List Nat) (g2 : G) (it2 : I) (e : E) : retI Γ (.enum (.comp2 own g it own2 g2 it2 e)) = true := rfl
@[simp] theorem retI_seq_get (a b c : E) : retI Γ (.seq (.get a b c)) = true := rfl
@[simp] theorem retI_rev_get (a b c : E) : retI Γ (.rev (.get a b c)) = true := rfl
@[simp] theorem retI_enum_get (a b c : E) : retI Γ (.enum (.get a b c)) = true := rfl
@[simp] theorem retI_seq_dK0  : retI Γ (.seq .dK0) = true := rfl
@[simp] theorem retI_rev_dK0  : retI Γ (.rev .dK0) = true := rfl
@[simp] theorem retI_enum_dK0  : retI Γ (.enum .dK0) = true := rfl
@[simp] theorem retI_seq_dT0  : retI Γ (.seq .dT0) = true := rfl
@[simp] theorem retI_rev_dT0  : retI Γ (.rev .dT0) = true := rfl
@[simp] theorem retI_enum_dT0  : retI Γ (.enum .dT0) = true := rfl
@[simp] theorem retI_seq_dK1 (a b : E) : retI Γ (.seq (.dK1 a b)) = true := rfl
@[simp] theorem retI_rev_dK1 (a b : E) : retI Γ (.rev (.dK1 a b)) = true := rfl
@[simp] theorem retI_enum_dK1 (a b : E) : retI Γ (.enum (.dK1 a b)) = true := rfl
@[simp] theorem retI_seq_dT1 (a b : E) : retI Γ (.seq (.dT1 a b)) = true := rfl
@[simp] theorem retI_rev_dT1 (a b : E) : retI Γ (.rev (.dT1 a b)) = true := rfl
@[simp] theorem retI_enum_dT1 (a b : E) : retI Γ (.enum (.dT1 a b)) = true := rfl
@[simp] theorem retI_seq_rng (a : E) : retI Γ (.seq (.rng a)) = true := rfl
@[simp] theorem retI_rev_rng (a : E) : retI Γ (.rev (.rng a)) = true := rfl
@[simp] theorem retI_enum_rng (a : E) : retI Γ (.enum (.rng a)) = true := rfl
@[simp] theorem retI_seq_v : retI Γ (.seq (.v i)) = (rdF Γ i).isSome := rfl
@[simp] theorem retI_rev_v : retI Γ (.rev (.v i)) = (rdF Γ i).isSome := rfl
@[simp] theorem retI_enum_v : retI Γ (.enum (.v i)) = (rdF Γ i).isSome := rfl
@[simp] theorem retI_keys : retI Γ (.keys i) = (rdF Γ i).isSome := rfl
@[simp] theorem retI_r1 : retI Γ (.rng1 a) = true := rfl
@[simp] theorem retI_r2 : retI Γ (.rng2 a b) = true := rfl
/-! statements -/
variable {g : G} {ss ss2 : List S} {it : I}
def kSt (C : Cal) (W : Nat) (ss : List S) (r : F) : F := r.then fun Γ1 st1 => evSs C W ss Γ1 st1
@[simp] theorem kSt_nx : kSt C W ss (.nx Γ s) = evSs C W ss Γ s := rfl
@[simp] theorem kSt_ret : kSt C W ss (.ret o t s) = .ret o t s := rfl
@[simp] theorem kSt_exc {n : Nat} : kSt C W ss (.exc n ts s) = .exc n ts s := rfl
@[simp] theorem kSt_if {c : Prop} [Decidable c] {x y : F} : kSt C W ss (if c then x else y) = if c then kSt C W ss x else kSt C W ss y := by split <;> rfl
@[simp] theorem ss_n : evSs C W [] Γ st = .nx Γ st := by rfl
@[simp] theorem ss_c {q : S} : evSs C W (q :: ss) Γ st = kSt C W ss (evS C W q Γ st) := by rfl
def kA (g : G) (Γ : Env) (r : X3) : F := r.f fun x => match g with
    | .n i => .nx (Γ.set i (some (x.1, x.2.1))) x.2.2
    | .t is => match x.2.1 with
      | .tup ts => match sets Γ is ts with
        | some Γ1 => .nx Γ1 x.2.2
        | none => .bad
      | _ => .bad
def nxO (s : St) : Option Env → F
  | some Γ => .nx Γ s
  | none => .bad
@[simp] theorem nxO_s : nxO s (some Γ) = .nx Γ s := rfl
@[simp] theorem kA_n : kA (.n i) Γ (.ok (o, t, s)) = .nx (Γ.set i (some (o, t))) s := rfl
@[simp] theorem kA_t {is : List Nat} : kA (.t is) Γ (.ok (o, .tup ts, s)) = nxO s (sets Γ is ts) := by
  show (match sets Γ is ts with | some Γ1 => .nx Γ1 s | none => .bad : F) = _
  rcases sets Γ is ts with _ | _ <;> rfl
def kRe (r : X3) : F := r.f fun x => .ret x.1 x.2.1 x.2.2
@[simp] theorem kRe_ok : kRe (.ok (o, t, s)) = .ret o t s := rfl
@[simp] theorem kRe_if {c : Prop} [Decidable c] {x y : X3} : kRe (if c then x else y) = if c then kRe x else kRe y := by split <;> rfl
def kEx (Γ : Env) (r : X3) : F := r.f fun x => .nx Γ x.2.2
@[simp] theorem kEx_ok : kEx Γ (.ok (o, t, s)) = .nx Γ s := rfl
def kIf (C : Cal) (W : Nat) (a b : List S) (Γ : Env) (r : X3) : F := (boolR r).f fun x => if x.1 = true then evSs C W a Γ x.2 else evSs C W b Γ x.2
@[simp] theorem kIf_ok : kIf C W ss ss2 Γ (.ok (o, .bl p, s)) = if p = true then evSs C W ss Γ s else evSs C W ss2 Γ s := rfl
@[simp] theorem kIf_if {c : Prop} [Decidable c] {x y : X3} : kIf C W ss ss2 Γ (if c then x else y) = if c then kIf C W ss ss2 Γ x else kIf C W ss ss2 Γ y := by split <;> rfl
/-- the turn of a loop -/
def fB (C : Cal) (W : Nat) (g : G) (body : List S) (t : T) (Γ1 : Env) (s1 : St) : F := match asgG g t Γ1 with
      | none => .bad
      | some Γ2 => evSs C W body Γ2 s1
def fB0 (C : Cal) (W : Nat) (body : List S) (s : St) : Option Env → F
  | none => .bad
  | some Γ => evSs C W body Γ s
@[simp] theorem fB0_s : fB0 C W ss s (some Γ) = evSs C W ss Γ s := rfl
@[simp] theorem fB_eq : fB C W g ss t Γ s = fB0 C W ss s (asgG g t Γ) := by
  unfold fB fB0; rcases asgG g t Γ with _ | _ <;> rfl
def kFo (C : Cal) (W : Nat) (g : G) (body : List S) (Γ : Env) (r : R (List T × St)) : F := r.f fun x => forL (fB C W g body) x.1 Γ x.2
@[simp] theorem kFo_ok : kFo C W g ss Γ (.ok (ts, s)) = forL (fB C W g ss) ts Γ s := rfl
@[simp] theorem lk_nx : F.lk it (.nx Γ s) = .nx Γ s := by cases it <;> rfl
@[simp] theorem lk_ret : F.lk it (.ret o t s) = .ret o t s := by cases it <;> rfl
def kAp (i : Nat) (Γ : Env) (r : X3) : F := r.f fun x => appAt Γ x.2.2 i x.2.1
@[simp] theorem kAp_ok : kAp i Γ (.ok (o, t, s)) = appAt Γ s i t := rfl
def kXd (i : Nat) (Γ : Env) (r : X3) : F := r.f fun x => if x.1 = true then extAt Γ x.2.2 i x.2.1 else .bad
@[simp] theorem kXd_ok : kXd i Γ (.ok (true, t, s)) = extAt Γ s i t := rfl
def kUp (i : Nat) (Γ : Env) (r : X3) : F := r.f fun x => updAt Γ x.2.2 i x.2.1
@[simp] theorem kUp_ok : kUp i Γ (.ok (o, t, s)) = updAt Γ s i t := rfl
def kSe (C : Cal) (i : Nat) (k : E) (Γ : Env) (r : X3) : F := r.f fun x => if rcv Γ i = true then (evE C k Γ x.2.2).f fun y => setAt Γ y.2.2 i y.2.1 x.2.1 else .bad
def kSe2 (i : Nat) (Γ : Env) (t : T) (r : X3) : F := r.f fun y => setAt Γ y.2.2 i y.2.1 t
@[simp] theorem kSe_ok : kSe C i e Γ (.ok (o, t, s)) = if rcv Γ i = true then kSe2 i Γ t (evE C e Γ s) else .bad := rfl
@[simp] theorem kSe2_ok : kSe2 i Γ t (.ok (o, u, s)) = setAt Γ s i u t := rfl
def kRa (n : Nat) (r : R (List T × St)) : F := r.f fun x => .exc n x.1 x.2
@[simp] theorem kRa_ok {n : Nat} : kRa n (.ok (ts, s)) = .exc n ts s := rfl
/-- the test and the turn of a while -/
def wT (C : Cal) (c : E) (Γ : Env) (s : St) : R (Bool × St) := boolR (evE C c Γ s)
def wB (C : Cal) (W : Nat) (body : List S) (Γ : Env) (s : St) : F := evSs C W body Γ s
def kWh (n : Nat) (C : Cal) (W : Nat) (c : E) (body : List S) (Γ : Env) (r : X3) : F := (boolR r).f fun x => if x.1 = true then (evSs C W body Γ x.2).then fun Γ1 st1 => whileL (wT C c) (wB C W body) n Γ1 st1 else .nx Γ x.2
def kWh2 (n : Nat) (C : Cal) (W : Nat) (c : E) (body : List S) (r : F) : F := r.then fun Γ1 st1 => whileL (wT C c) (wB C W body) n Γ1 st1
theorem while_s {n : Nat} : whileL (wT C c) (wB C W ss) (n + 1) Γ s = kWh n C W c ss Γ (evE C c Γ s) := rfl
@[simp] theorem kWh_ok {n : Nat} : kWh n C W c ss Γ (.ok (o, .bl p, s)) = if p = true then kWh2 n C W c ss (evSs C W ss Γ s) else .nx Γ s := rfl
@[simp] theorem kWh2_ok {n : Nat} : kWh2 n C W c ss (.nx Γ s) = whileL (wT C c) (wB C W ss) n Γ s := rfl
@[simp] theorem s_asg : evS C W (.asg g e) Γ st = kA g Γ (evE C e Γ st) := by rfl
@[simp] theorem s_ret : evS C W (.ret e) Γ st = kRe (retE Γ st (evE C e Γ st) e) := by rfl
@[simp] theorem s_ex : evS C W (.ex e) Γ st = kEx Γ (evE C e Γ st) := by rfl
@[simp] theorem s_ite : evS C W (.ite c ss ss2) Γ st = kIf C W ss ss2 Γ (evE C c Γ st) := by rfl
@[simp] theorem s_for : evS C W (.for g it ss) Γ st = if retI Γ it = true then F.lk it (kFo C W g ss Γ (evI C it Γ st)) else .bad := by rfl
theorem s_while : evS C W (.while c ss) Γ st = whileL (wT C c) (wB C W ss) W Γ st := by rfl
@[simp] theorem s_app : evS C W (.app i e) Γ st = if rcvL Γ i = true then kAp i Γ (evE C e Γ st) else .bad := by rfl
@[simp] theorem s_ext : evS C W (.ext i e) Γ st = if rcvL Γ i = true then kXd i Γ (evE C e Γ st) else .bad := by rfl
@[simp] theorem s_upd : evS C W (.upd i e) Γ st = if rcvT Γ i = true ∧ notV i e = true then kUp i Γ (bor Γ st (evE C e Γ st) e) else .bad := by rfl
@[simp] theorem s_set : evS C W (.set i a e) Γ st = kSe C i a Γ (evE C e Γ st) := by rfl
@[simp] theorem s_fr {is : List Nat} : evS C W (.fr is) Γ st = .nx (unown Γ is) st := by rfl
@[simp] theorem s_raise {n : Nat} : evS C W (.raise n es) Γ st = kRa n (evEs C es Γ st) := by rfl
@[simp] theorem fin_nx : fin (.nx Γ s) = .ok (false, .non, s) := rfl
@[simp] theorem fin_ret : fin (.ret o t s) = .ok (o, t, s) := rfl
@[simp] theorem fin_exc {n : Nat} : fin (.exc n ts s) = .exc n ts s := rfl
@[simp] theorem fin_if {c : Prop} [Decidable c] {x y : F} : fin (if c then x else y) = if c then fin x else fin y := by split <;> rfl
/-! changing what a slot holds -/
def apO (i : Nat) (t : T) (Γ : Env) (st : St) : Option (Option (Bool × T)) → F
  | some (some (true, .lst ts)) => if ts.length < SZ then .nx (Γ.set i (some (true, .lst (ts ++ [t])))) st else .bad
  | some (some (_, .ref k)) => match st[k]? with
    | some ts => if ts.length < SZ then .nx Γ (st.set k (ts ++ [t])) else .bad
    | none => .bad
  | _ => .bad
@[simp] theorem appAt_s : appAt Γ st i t = apO i t Γ st Γ[i]? := by
  unfold appAt apO; rfl
@[simp] theorem apO_l : apO i t Γ st (some (some (true, .lst ts))) = if ts.length < SZ then .nx (Γ.set i (some (true, .lst (ts ++ [t])))) st else .bad := rfl
def exO (i : Nat) (us : List T) (Γ : Env) (st : St) : Option (Option (Bool × T)) → F
  | some (some (true, .lst ts)) => if ts.length + us.length ≤ SZ then .nx (Γ.set i (some (true, .lst (ts ++ us)))) st else .bad
  | _ => .bad
@[simp] theorem extAt_l : extAt Γ st i (.lst us) = exO i us Γ st Γ[i]? := by
  show (match Γ[i]? with | some (some (true, .lst ts)) => if ts.length + us.length ≤ SZ then .nx (Γ.set i (some (true, .lst (ts ++ us)))) st else .bad | _ => .bad : F) = _
  unfold exO; rfl
@[simp] theorem exO_l : exO i us Γ st (some (some (true, .lst ts))) = if ts.length + us.length ≤ SZ then .nx (Γ.set i (some (true, .lst (ts ++ us)))) st else .bad := rfl
def upO (i : Nat) (ks : List (List Ky)) (us : List T) (Γ : Env) (st : St) : Option (Option (Bool × T)) → F
  | some (some (true, .dT ks0 ts)) => if ks0.length + ks.length ≤ SZ ∧ (ks0 ≠ [] ∨ (ks.Nodup ∧ ks.all boxK = true)) then .nx (Γ.set i (some (true, .dT (dPuts ks0 ts ks us).1 (dPuts ks0 ts ks us).2))) st else .bad
  | _ => .bad
@[simp] theorem updAt_d {ks : List (List Ky)} : updAt Γ st i (.dT ks us) = upO i ks us Γ st Γ[i]? := by
  show (match Γ[i]? with | some (some (true, .dT ks0 ts)) => if ks0.length + ks.length ≤ SZ ∧ (ks0 ≠ [] ∨ (ks.Nodup ∧ ks.all boxK = true)) then .nx (Γ.set i (some (true, .dT (dPuts ks0 ts ks us).1 (dPuts ks0 ts ks us).2))) st else .bad | _ => .bad : F) = _
  unfold upO; rfl
@[simp] theorem upO_d {ks ks0 : List (List Ky)} : upO i ks us Γ st (some (some (true, .dT ks0 ts))) = if ks0.length + ks.length ≤ SZ ∧ (ks0 ≠ [] ∨ (ks.Nodup ∧ ks.all boxK = true)) then .nx (Γ.set i (some (true, .dT (dPuts ks0 ts ks us).1 (dPuts ks0 ts ks us).2))) st else .bad := rfl
def seO (i : Nat) (k x : T) (Γ : Env) (st : St) : Option (Option (Bool × T)) → F
  | some (some (true, .dK ks ts)) => match kyOf k with
    | some y => if ks.length < SZ then .nx (Γ.set i (some (true, .dK (dPut ks ts y x).1 (dPut ks ts y x).2))) st else .bad
    | none => .bad
  | some (some (true, .dT ks ts)) => match k with
    | .tup us => match kysOf us with
      | some y => if ks.length < SZ then .nx (Γ.set i (some (true, .dT (dPut ks ts y x).1 (dPut ks ts y x).2))) st else .bad
      | none => .bad
    | _ => .bad
  | some (some (_, .ref c)) => match k, st[c]? with
    | .int n, some ts => match ixOf ts.length n with
      | some j => .nx Γ (st.set c (ts.set j x))
      | none => .bad
    | _, _ => .bad
  | _ => .bad
@[simp] theorem setAt_s : setAt Γ st i t u = seO i t u Γ st Γ[i]? := by
  unfold setAt seO; rfl
theorem seO_k {ks : List Ky} {k : Ky} (h : kyOf t = some k) : seO i t u Γ st (some (some (true, .dK ks ts))) = if ks.length < SZ then .nx (Γ.set i (some (true, .dK (dPut ks ts k u).1 (dPut ks ts k u).2))) st else .bad := by
  show (match kyOf t with | some y => if ks.length < SZ then .nx (Γ.set i (some (true, .dK (dPut ks ts y u).1 (dPut ks ts y u).2))) st else .bad | none => .bad : F) = _
  rw [h]
theorem seO_t {ks : List (List Ky)} {k : List Ky} (h : kysOf us = some k) : seO i (.tup us) u Γ st (some (some (true, .dT ks ts))) = if ks.length < SZ then .nx (Γ.set i (some (true, .dT (dPut ks ts k u).1 (dPut ks ts k u).2))) st else .bad := by
  show (match kysOf us with | some y => if ks.length < SZ then .nx (Γ.set i (some (true, .dT (dPut ks ts y u).1 (dPut ks ts y u).2))) st else .bad | none => .bad : F) = _
  rw [h]
theorem seO_r {c : Nat} {n : Int} {j : Nat} (h : st[c]? = some ts) (h2 : ixOf ts.length n = some j) : seO i (.int n) u Γ st (some (some (o, .ref c))) = .nx Γ (st.set c (ts.set j u)) := by
  cases o <;> simp only [seO, h, h2]
def rcO : Option (Option (Bool × T)) → Bool
  | some (some (true, _)) => true
  | some (some (_, .ref _)) => true
  | _ => false
@[simp] theorem rcv_s : rcv Γ i = rcO Γ[i]? := by unfold rcv rcO; rfl
@[simp] theorem rcO_t : rcO (some (some (true, t))) = true := rfl
@[simp] theorem rcO_r {k : Nat} : rcO (some (some (o, .ref k))) = true := by cases o <;> rfl
def rlO : Option (Option (Bool × T)) → Bool
  | some (some (true, .lst _)) => true
  | some (some (_, .ref _)) => true
  | _ => false
@[simp] theorem rcvL_s : rcvL Γ i = rlO Γ[i]? := by unfold rcvL rlO; rfl
@[simp] theorem rlO_t : rlO (some (some (true, .lst ts))) = true := rfl
@[simp] theorem rlO_r {k : Nat} : rlO (some (some (o, .ref k))) = true := by cases o <;> rfl
def rtO : Option (Option (Bool × T)) → Bool
  | some (some (true, .dT _ _)) => true
  | _ => false
@[simp] theorem rcvT_s : rcvT Γ i = rtO Γ[i]? := by unfold rcvT rtO; rfl
@[simp] theorem rtO_t {ks : List (List Ky)} : rtO (some (some (true, .dT ks ts))) = true := rfl
end
@[simp] theorem notV_c {i : Nat} (t : T) : notV i (.c t) = true := rfl
@[simp] theorem notV_tup {i : Nat} (es : List E) : notV i (.tup es) = true := rfl
@[simp] theorem notV_xt {i : Nat} (es : List E) : notV i (.xt es) = true := rfl
@[simp] theorem notV_lst {i : Nat} (es : List E) : notV i (.lst es) = true := rfl
@[simp] theorem notV_cell {i : Nat} (es : List E) : notV i (.cell es) = true := rfl
@[simp] theorem notV_u {i : Nat} (q : U1) (a : E) : notV i (.u q a) = true := rfl
@[simp] theorem notV_b {i : Nat} (q : U2) (a b : E) : notV i (.b q a b) = true := rfl
@[simp] theorem notV_and {i : Nat} (a b : E) : notV i (.and a b) = true := rfl
@[simp] theorem notV_or {i : Nat} (a b : E) : notV i (.or a b) = true := rfl
@[simp] theorem notV_ite {i : Nat} (c a b : E) : notV i (.ite c a b) = true := rfl
@[simp] theorem notV_chain {i : Nat} (q q2 : U2) (a b c : E) : notV i (.chain q q2 a b c) = true := rfl
@[simp] theorem notV_slTo {i : Nat} (a b : E) : notV i (.slTo a b) = true := rfl
@[simp] theorem notV_slFrom {i : Nat} (a b : E) : notV i (.slFrom a b) = true := rfl
@[simp] theorem notV_max3 {i : Nat} (a b c : E) : notV i (.max3 a b c) = true := rfl
@[simp] theorem notV_call {i : Nat} (f : Nat) (es : List E) : notV i (.call f es) = true := rfl
@[simp] theorem notV_comp {i : Nat} (own : List Nat) (g : G) (it : I) (c e : E) : notV i (.comp own g it c e) = true := rfl
@[simp] theorem notV_comp2 {i : Nat} (own : List Nat) (g : G) (it : I) (own2 : List Nat) (g2 : G) (it2 : I) (e : E) : notV i (.comp2 own g it own2 g2 it2 e) = true := rfl
@[simp] theorem notV_get {i : Nat} (a b c : E) : notV i (.get a b c) = true := rfl
@[simp] theorem notV_dK0 {i : Nat}  : notV i .dK0 = true := rfl
@[simp] theorem notV_dT0 {i : Nat}  : notV i .dT0 = true := rfl
@[simp] theorem notV_dK1 {i : Nat} (a b : E) : notV i (.dK1 a b) = true := rfl
@[simp] theorem notV_dT1 {i : Nat} (a b : E) : notV i (.dT1 a b) = true := rfl
@[simp] theorem notV_rng {i : Nat} (a : E) : notV i (.rng a) = true := rfl
end Ev
end

section
set_option autoImplicit false
set_option linter.all false
set_option maxRecDepth 100000
set_option maxHeartbeats 2000000
/-! M1: running the defs; typed data. -/
namespace K82
open Ev
abbrev C (d : Nat) : Cal := callD P 200 d
theorem call_ir {f : Nat} {fd : Fd} (h : P f = .ir fd) (d : Nat) (ts : List T) (st : St) : C (d + 1) f ts st = if ts.length = fd.np then fin (evSs (C d) 200 fd.body (startE fd.nl ts) st) else .bad := by
  show callD P 200 (d + 1) f ts st = _
  unfold callD
  rw [h]

/-! ### loops -/
theorem compL_flat {α : Type} {f : T → St → R (List T × St)} {st : St} (g : α → List T) (k : α → T) : ∀ (l : List α), (∀ a ∈ l, f (k a) st = .ok (g a, st)) → compL f (l.map k) st = .ok (l.flatMap g, st)
  | [], _ => rfl
  | a :: l, h => by
    have h1 := h a List.mem_cons_self
    have ih := compL_flat g k l fun b hb => h b (List.mem_cons_of_mem _ hb)
    simp only [List.map_cons, compL, h1, R.bind_ok, ih, List.flatMap_cons]
theorem compL_map {α : Type} {f : T → St → R (List T × St)} {st : St} (g : α → T) (k : α → T) (l : List α) (h : ∀ a ∈ l, f (k a) st = .ok ([g a], st)) : compL f (l.map k) st = .ok (l.map g, st) := by
  rw [compL_flat (fun a => [g a]) k l h, List.map_eq_flatMap]
theorem compL_if {α : Type} {f : T → St → R (List T × St)} {st : St} (c : α → Bool) (g : α → T) (k : α → T) (l : List α) (h : ∀ a ∈ l, f (k a) st = .ok (if c a = true then [g a] else [], st)) : compL f (l.map k) st = .ok ((l.filter c).map g, st) := by
  rw [compL_flat (fun a => if c a = true then [g a] else []) k l h]
  congr 2
  induction l with
  | nil => rfl
  | cons a l ih =>
    have ih := ih fun b hb => h b (List.mem_cons_of_mem _ hb)
    rw [List.flatMap_cons, ih]
    by_cases z : c a = true
    · rw [if_pos z, List.filter_cons_of_pos z]; rfl
    · rw [if_neg z, List.filter_cons_of_neg z]; rfl
theorem forL_go {f : T → Env → St → F} (I : List T → Env → St → Prop) (h : ∀ t ts Γ st, I (t :: ts) Γ st → ∃ Γ' st', f t Γ st = .nx Γ' st' ∧ I ts Γ' st') : ∀ ts Γ st, I ts Γ st → ∃ Γ' st', forL f ts Γ st = .nx Γ' st' ∧ I [] Γ' st'
  | [], Γ, st, i => ⟨Γ, st, rfl, i⟩
  | t :: ts, Γ, st, i => by
    obtain ⟨Γ1, st1, e, i1⟩ := h t ts Γ st i
    obtain ⟨Γ2, st2, e2, i2⟩ := forL_go I h ts Γ1 st1 i1
    exact ⟨Γ2, st2, by simp only [forL, e, F.then_nx, e2], i2⟩
/-- a loop whose state is told by b -/
theorem forL_inv {α β : Type} {f : T → Env → St → F} {st : St} (k : α → T) (step : β → α → β) (I : β → Env → Prop) : ∀ (l : List α) (h : ∀ b a Γ, a ∈ l → I b Γ → ∃ Γ', f (k a) Γ st = .nx Γ' st ∧ I (step b a) Γ') (b : β) (Γ : Env), I b Γ → ∃ Γ', forL f (l.map k) Γ st = .nx Γ' st ∧ I (l.foldl step b) Γ'
  | [], _, b, Γ, i => ⟨Γ, rfl, i⟩
  | a :: l, h, b, Γ, i => by
    obtain ⟨Γ1, e, i1⟩ := h b a Γ List.mem_cons_self i
    obtain ⟨Γ2, e2, i2⟩ := forL_inv k step I l (fun b a Γ m => h b a Γ (List.mem_cons_of_mem _ m)) (step b a) Γ1 i1
    exact ⟨Γ2, by simp only [List.map_cons, forL, e, F.then_nx, e2], i2⟩

theorem forL_k {α β : Type} {f : T → Env → St → F} {st : St} (K : F → Prop) (k : α → T) (step : β → α → β) (I : β → Env → Prop) (l : List α) (b : β) (Γ : Env) (i : I b Γ) (h : ∀ b a Γ, a ∈ l → I b Γ → ∃ Γ', f (k a) Γ st = .nx Γ' st ∧ I (step b a) Γ')
    (q : ∀ Γ', I (l.foldl step b) Γ' → K (.nx Γ' st)) : K (forL f (l.map k) Γ st) := by
  obtain ⟨Γ', e, i'⟩ := forL_inv k step I l h b Γ i
  rw [e]; exact q Γ' i'
/-- a loop told by what is behind it -/
theorem forL_pk {α : Type} {f : T → Env → St → F} {st : St} (K : F → Prop) (k : α → T) (l : List α) (I : List α → Env → Prop) (Γ : Env) (i : I [] Γ) (h : ∀ pre a post Γ, l = pre ++ a :: post → I pre Γ → ∃ Γ', f (k a) Γ st = .nx Γ' st ∧ I (pre ++ [a]) Γ')
    (q : ∀ Γ', I l Γ' → K (.nx Γ' st)) : K (forL f (l.map k) Γ st) := by
  have go : ∀ (r p : List α) (Γ : Env), l = p ++ r → I p Γ → K (forL f (r.map k) Γ st) := by
    intro r
    induction r with
    | nil => intro p Γ e i; rw [List.append_nil] at e; subst e; exact q Γ i
    | cons a r ih =>
      intro p Γ e i
      obtain ⟨Γ', e1, i1⟩ := h p a r Γ e i
      rw [List.map_cons, forL, e1, F.then_nx]
      exact ih (p ++ [a]) Γ' (by rw [e, List.append_assoc]; rfl) i1
  exact go l [] Γ rfl i
theorem forL_gk {f : T → Env → St → F} (K : F → Prop) (I : List T → Env → St → Prop) (ts : List T) (Γ : Env) (st : St) (i : I ts Γ st) (h : ∀ t ts Γ st, I (t :: ts) Γ st → ∃ Γ' st', f t Γ st = .nx Γ' st' ∧ I ts Γ' st')
    (q : ∀ Γ' st', I [] Γ' st' → K (.nx Γ' st')) : K (forL f ts Γ st) := by
  obtain ⟨Γ', st', e, i'⟩ := forL_go I h ts Γ st i
  rw [e]; exact q Γ' st' i'
/-! ### typed data -/
def itsL (s : List Int) : List T := s.map T.int
def gi (s : List Int) (w : Nat) : Int := s.getD w 0
@[simp] theorem ints_len (s : List Int) : (itsL s).length = s.length := List.length_map ..
theorem ints_get {s : List Int} {w : Nat} (h : w < s.length) : (itsL s)[w]? = some (.int (gi s w)) := by
  unfold itsL gi
  rw [List.getElem?_map, List.getD_eq_getElem?_getD, List.getElem?_eq_getElem h]; rfl
@[simp] theorem ints_getE {s : List Int} {w : Nat} (h : w < (itsL s).length) : (itsL s)[w] = .int (gi s w) := by
  have h' : w < s.length := by rw [← ints_len]; exact h
  have e := ints_get h'
  rw [List.getElem?_eq_getElem h] at e
  exact Option.some.inj e
@[simp] theorem ints_map (s : List Int) : s.map T.int = itsL s := rfl
@[simp] theorem intsOf_ints : ∀ s : List Int, intsOf (itsL s) = some s
  | [] => rfl
  | x :: s => by
    have ih := intsOf_ints s
    show (intOf (.int x)).bind (fun n => (intsOf (itsL s)).map fun ns => n :: ns) = _
    rw [ih]; rfl
def sT (s : List Int) : T := .tup (itsL s)
inductive Te where
  | lt (w k : Nat)
  | eq (w k : Nat)
  | no (t : Te)
def Te.t : Te → T
  | .lt w k => .tup [.sym 4, .int w, .int k]
  | .eq w k => .tup [.sym 5, .int w, .int k]
  | .no t => .tup [.sym 8, t.t]
def Te.dp : Te → Nat
  | .no t => t.dp + 1
  | _ => 1
def Te.cap : Te → Int
  | .lt _ k => k
  | .eq _ k => k + 1
  | .no t => t.cap
def Te.ok (m : Nat) : Te → Prop
  | .lt w _ => w < m
  | .eq w _ => w < m
  | .no t => t.ok m
def Te.holds : Te → List Int → Bool
  | .lt w k, s => decide (gi s w < k)
  | .eq w k, s => gi s w == k
  | .no t, s => !t.holds s
theorem m_cap : ∀ (t : Te) (d : Nat) (st : St), t.dp ≤ d → C d 1 [t.t] st = .ok (false, .int t.cap, st)
  | .lt w k, d + 1, st, _ => by
    simp -implicitDefEqProofs [call_ir (show P 1 = Df.ir _ from rfl), d_cap, Te.t, Te.cap]
  | .eq w k, d + 1, st, _ => by
    simp -implicitDefEqProofs [call_ir (show P 1 = Df.ir _ from rfl), d_cap, Te.t, Te.cap]
  | .no t, d + 1, st, h => by
    have ih := m_cap t d st (by simp only [Te.dp] at h; omega)
    simp -implicitDefEqProofs [call_ir (show P 1 = Df.ir _ from rfl), d_cap, Te.t, Te.cap, ih, maxI]
theorem m_cap' : ∀ (t : Te) (d : Nat) (st : St), t.dp ≤ d → C d 46 [t.t] st = .ok (false, .int t.cap, st)
  | .lt w k, d + 1, st, _ => by
    simp -implicitDefEqProofs [call_ir (show P 46 = Df.ir _ from rfl), d__law_cap, Te.t, Te.cap]
  | .eq w k, d + 1, st, _ => by
    simp -implicitDefEqProofs [call_ir (show P 46 = Df.ir _ from rfl), d__law_cap, Te.t, Te.cap]
  | .no t, d + 1, st, h => by
    have ih := m_cap' t d st (by simp only [Te.dp] at h; omega)
    simp -implicitDefEqProofs [call_ir (show P 46 = Df.ir _ from rfl), d__law_cap, Te.t, Te.cap, ih, maxI]
theorem m_holds : ∀ (t : Te) (s : List Int) (d : Nat) (st : St), t.dp ≤ d → t.ok s.length → C d 5 [t.t, .lst (itsL s)] st = .ok (false, .bl (t.holds s), st)
  | .lt w k, s, d + 1, st, _, h => by
    have h : w < s.length := h
    simp -implicitDefEqProofs [call_ir (show P 5 = Df.ir _ from rfl), d_holds, Te.t, Te.holds, h, ints_get h]
  | .eq w k, s, d + 1, st, _, h => by
    have h : w < s.length := h
    simp -implicitDefEqProofs [call_ir (show P 5 = Df.ir _ from rfl), d_holds, Te.t, Te.holds, h, ints_get h]
  | .no t, s, d + 1, st, hd, h => by
    have ih := m_holds t s d st (by simp only [Te.dp] at hd; omega) h
    simp -implicitDefEqProofs [call_ir (show P 5 = Df.ir _ from rfl), d_holds, Te.t, Te.holds, ih]
theorem m_holds' : ∀ (t : Te) (s : List Int) (d : Nat) (st : St), t.dp ≤ d → t.ok s.length → C d 36 [t.t, sT s] st = .ok (false, .bl (t.holds s), st)
  | .lt w k, s, d + 1, st, _, h => by
    have h : w < s.length := h
    simp -implicitDefEqProofs [call_ir (show P 36 = Df.ir _ from rfl), d__law_holds, Te.t, Te.holds, sT, h, ints_get h]
  | .eq w k, s, d + 1, st, _, h => by
    have h : w < s.length := h
    simp -implicitDefEqProofs [call_ir (show P 36 = Df.ir _ from rfl), d__law_holds, Te.t, Te.holds, sT, h, ints_get h]
  | .no t, s, d + 1, st, hd, h => by
    have ih := m_holds' t s d st (by simp only [Te.dp] at hd; omega) h
    simp -implicitDefEqProofs [call_ir (show P 36 = Df.ir _ from rfl), d__law_holds, Te.t, Te.holds, ih]
def farTo (n : Int) (s : List Int) : List Int := s.map fun x => if x = -1 then n else x
@[simp] theorem farTo_len (n : Int) (s : List Int) : (farTo n s).length = s.length := List.length_map ..
theorem m_holds_in (t : Te) (n : Int) (s : List Int) (d : Nat) (st : St) (hd : t.dp ≤ d) (h : t.ok s.length) (hz : s.length ≤ 16777216) : C (d + 1) 6 [t.t, .int n, sT s] st = .ok (false, .bl (t.holds (farTo n s)), st) := by
  have ih := m_holds t (farTo n s) d st hd (by rw [farTo_len]; exact h)
  simp -implicitDefEqProofs [call_ir (show P 6 = Df.ir _ from rfl), d_holds_in, sT]
  unfold itsL
  rw [compL_map (fun x => T.int (if x = -1 then n else x)) T.int s fun x _ => ?_]
  · have e : s.map (fun x => T.int (if x = -1 then n else x)) = itsL (farTo n s) := by unfold itsL farTo; rw [List.map_map]; rfl
    simp -implicitDefEqProofs [e, ih, hz]
  · by_cases z : x = -1
    · simp -implicitDefEqProofs [z]
    · simp -implicitDefEqProofs [z]
end K82
end

section
set_option autoImplicit false
set_option linter.all false
set_option maxRecDepth 100000
set_option maxHeartbeats 2000000
/-! M2: rows, needs. -/
namespace K82
open Ev
inductive Rw where
  | set (w n : Nat)
  | add (w n : Nat)
  | less (w n : Nat)
  | copy (w y : Nat)
  | draw (w : Nat) (ns : List (Nat × T))
  | given (t : Te)
  | ite (t : Te) (a b : List Rw)
  | alt (c : T) (a b : List Rw)
def drT (ns : List (Nat × T)) : T := .tup [.sym 18, .tup (ns.map fun p => .tup [.int p.1, p.2])]
mutual
def Rw.t : Rw → T
  | .set w n => .tup [.sym 11, .int w, .int n]
  | .add w n => .tup [.sym 15, .int w, .int n]
  | .less w n => .tup [.sym 6, .int w, .int n]
  | .copy w y => .tup [.sym 12, .int w, .int y]
  | .draw w ns => .tup [.sym 13, .int w, drT ns]
  | .given t => .tup [.sym 7, t.t]
  | .ite t a b => .tup [.sym 2, t.t, .tup (bT a), .tup (bT b)]
  | .alt c a b => .tup [.sym 1, c, .tup (bT a), .tup (bT b)]
def bT : List Rw → List T
  | [] => []
  | r :: b => r.t :: bT b
end
theorem bT_map : ∀ b, bT b = b.map Rw.t
  | [] => rfl
  | r :: b => by rw [bT, bT_map b]; rfl
@[simp] theorem bT_len (b : List Rw) : (bT b).length = b.length := by rw [bT_map, List.length_map]
theorem bT_app (a b : List Rw) : bT (a ++ b) = bT a ++ bT b := by rw [bT_map, bT_map, bT_map, List.map_append]
section
variable {M : Rw → Prop} (h1 : ∀ w n, M (.set w n)) (h2 : ∀ w n, M (.add w n)) (h3 : ∀ w n, M (.less w n)) (h4 : ∀ w n, M (.copy w n)) (h5 : ∀ w n, M (.draw w n)) (h6 : ∀ t, M (.given t))
  (h7 : ∀ t a b, (∀ r ∈ a, M r) → (∀ r ∈ b, M r) → M (.ite t a b)) (h8 : ∀ c a b, (∀ r ∈ a, M r) → (∀ r ∈ b, M r) → M (.alt c a b))
include h1 h2 h3 h4 h5 h6 h7 h8
mutual
theorem Rw.ind : ∀ r, M r
  | .set w n => h1 w n
  | .add w n => h2 w n
  | .less w n => h3 w n
  | .copy w n => h4 w n
  | .draw w n => h5 w n
  | .given t => h6 t
  | .ite t a b => h7 t a b (Rw.inds a) (Rw.inds b)
  | .alt c a b => h8 c a b (Rw.inds a) (Rw.inds b)
theorem Rw.inds : ∀ (b : List Rw), ∀ r ∈ b, M r
  | [], _, h => absurd h (by simp)
  | x :: b, r, h => by
    have a1 := Rw.ind x
    have a2 := Rw.inds b
    rcases List.mem_cons.mp h with e | h
    · rw [e]; exact a1
    · exact a2 r h
end
end
mutual
def Rw.dp : Rw → Nat
  | .given t => t.dp + 8
  | .ite t a b => max t.dp (max (dps a) (dps b)) + 8
  | .alt _ a b => max (dps a) (dps b) + 8
  | _ => 8
def dps : List Rw → Nat
  | [] => 8
  | r :: b => max r.dp (dps b)
end
theorem dps_mem : ∀ {b : List Rw} {r : Rw}, r ∈ b → r.dp ≤ dps b
  | x :: b, r, h => by
    rw [dps]
    rcases List.mem_cons.mp h with e | h
    · rw [e]; omega
    · have := dps_mem h; omega
theorem dps_8 : ∀ b : List Rw, 8 ≤ dps b
  | [] => Nat.le_refl _
  | r :: b => by have := dps_8 b; rw [dps]; omega
theorem dp_8 (r : Rw) : 8 ≤ r.dp := by cases r <;> simp only [Rw.dp] <;> omega
mutual
def Rw.need : Rw → Int → Int
  | .less _ k, n => n + k
  | .given t, n => if t.cap > n then t.cap else n
  | .ite t a b, n => maxI t.cap [need a n, need b n]
  | .alt _ a b, n => if need b n > need a n then need b n else need a n
  | _, n => n
def need : List Rw → Int → Int
  | [], n => n
  | r :: b, n => r.need (need b n)
end
theorem need_foldr (n : Int) : ∀ b : List Rw, need b n = b.foldr (fun r n => r.need n) n
  | [] => rfl
  | r :: b => by rw [need, need_foldr n b]; rfl
theorem forL_range {f : T → Env → St → F} {st : St} (I : Nat → Env → Prop) (n : Nat) (h : ∀ k Γ, k < n → I k Γ → ∃ Γ', f (.int (k : Int)) Γ st = .nx Γ' st ∧ I (k + 1) Γ') (Γ : Env) (h0 : I 0 Γ) : ∃ Γ', forL f (rangeT 0 n) Γ st = .nx Γ' st ∧ I n Γ' := by
  have go : ∀ (m k : Nat) (Γ : Env), k + m = n → I k Γ → ∃ Γ', forL f ((List.range' k m).map fun j : Nat => T.int (j : Int)) Γ st = .nx Γ' st ∧ I n Γ' := by
    intro m
    induction m with
    | zero => intro k Γ e i; exact ⟨Γ, rfl, by have : k = n := by omega
                                               rw [← this]; exact i⟩
    | succ m ih =>
      intro k Γ e i
      obtain ⟨Γ1, e1, i1⟩ := h k Γ (by omega) i
      obtain ⟨Γ2, e2, i2⟩ := ih (k + 1) Γ1 (by omega) i1
      exact ⟨Γ2, by rw [List.range'_succ, List.map_cons, forL, e1, F.then_nx, e2], i2⟩
  have e : rangeT 0 n = (List.range' 0 n).map fun j : Nat => T.int (j : Int) := by
    unfold rangeT
    rw [List.range_eq_range']
    exact List.map_congr_left fun k _ => by rw [Int.zero_add]
  rw [e]
  exact go n 0 Γ (by omega) h0
theorem forL_rk {f : T → Env → St → F} {st : St} (K : F → Prop) (I : Nat → Env → Prop) (n : Nat) (Γ : Env) (h0 : I 0 Γ) (h : ∀ k Γ, k < n → I k Γ → ∃ Γ', f (.int (k : Int)) Γ st = .nx Γ' st ∧ I (k + 1) Γ') (q : ∀ Γ', I n Γ' → K (.nx Γ' st)) : K (forL f (rangeT 0 n) Γ st) := by
  obtain ⟨Γ', e, i⟩ := forL_range I n h Γ h0
  rw [e]; exact q Γ' i
/-! ### row_need, need -/
def NR (r : Rw) : Prop := ∀ d n st, r.dp ≤ d → C d 2 [r.t, .int n] st = .ok (false, .int (r.need n), st)
def NB (b : List Rw) : Prop := ∀ d n st, dps b ≤ d → C (d + 1) 3 [.tup (bT b), .int n] st = .ok (false, .int (need b n), st)
theorem nb_of {b : List Rw} (h : ∀ r ∈ b, NR r) : NB b := by
  intro d n st hd
  simp -implicitDefEqProofs [call_ir (show P 3 = Df.ir _ from rfl), d_need]
  rw [bT_map, ← List.map_reverse]
  refine forL_k (fun z => fin (kSt _ _ _ (F.lk _ z)) = _) Rw.t (fun n r => r.need n) (fun m Γ => ∃ j, Γ = [some (false, .tup (b.map Rw.t)), some (false, .int m), j]) b.reverse n _ ⟨none, rfl⟩ (fun m r Γ hm hi => ?_) fun Γ' hi => ?_
  · obtain ⟨j, rfl⟩ := hi
    have hr := h r (List.mem_reverse.mp hm) d m st (Nat.le_trans (dps_mem (List.mem_reverse.mp hm)) hd)
    exact ⟨[some (false, .tup (b.map Rw.t)), some (false, .int (r.need m)), some (false, r.t)], by simp -implicitDefEqProofs [hr], _, rfl⟩
  · obtain ⟨j, rfl⟩ := hi
    simp -implicitDefEqProofs [need_foldr]
theorem nr : ∀ r, NR r := by
  refine Rw.ind (fun w n => ?_) (fun w n => ?_) (fun w n => ?_) (fun w n => ?_) (fun w n => ?_) (fun t => ?_) (fun t a b ha hb => ?_) (fun c a b ha hb => ?_)
  all_goals intro d m st hd
  · obtain ⟨d, rfl⟩ : ∃ k, d = k + 1 := ⟨d - 1, by simp only [Rw.dp] at hd; omega⟩
    simp -implicitDefEqProofs [call_ir (show P 2 = Df.ir _ from rfl), d_row_need, Rw.t, Rw.need]
  · obtain ⟨d, rfl⟩ : ∃ k, d = k + 1 := ⟨d - 1, by simp only [Rw.dp] at hd; omega⟩
    simp -implicitDefEqProofs [call_ir (show P 2 = Df.ir _ from rfl), d_row_need, Rw.t, Rw.need]
  · obtain ⟨d, rfl⟩ : ∃ k, d = k + 1 := ⟨d - 1, by simp only [Rw.dp] at hd; omega⟩
    simp -implicitDefEqProofs [call_ir (show P 2 = Df.ir _ from rfl), d_row_need, Rw.t, Rw.need]
  · obtain ⟨d, rfl⟩ : ∃ k, d = k + 1 := ⟨d - 1, by simp only [Rw.dp] at hd; omega⟩
    simp -implicitDefEqProofs [call_ir (show P 2 = Df.ir _ from rfl), d_row_need, Rw.t, Rw.need]
  · obtain ⟨d, rfl⟩ : ∃ k, d = k + 1 := ⟨d - 1, by simp only [Rw.dp] at hd; omega⟩
    simp -implicitDefEqProofs [call_ir (show P 2 = Df.ir _ from rfl), d_row_need, Rw.t, Rw.need]
  · simp only [Rw.dp] at hd
    obtain ⟨d, rfl⟩ : ∃ k, d = k + 1 := ⟨d - 1, by omega⟩
    have h1 := m_cap t d st (by omega)
    simp -implicitDefEqProofs [call_ir (show P 2 = Df.ir _ from rfl), d_row_need, Rw.t, Rw.need, h1]
  · simp only [Rw.dp] at hd
    obtain ⟨d, rfl⟩ : ∃ k, d = k + 2 := ⟨d - 2, by omega⟩
    have h1 := m_cap t (d + 1) st (by omega)
    have h2 := nb_of ha d m st (by omega)
    have h3 := nb_of hb d m st (by omega)
    simp -implicitDefEqProofs [call_ir (show P 2 = Df.ir _ from rfl), d_row_need, Rw.t, Rw.need, h1, h2, h3]
  · simp only [Rw.dp] at hd
    obtain ⟨d, rfl⟩ : ∃ k, d = k + 2 := ⟨d - 2, by omega⟩
    have h2 := nb_of ha d m st (by omega)
    have h3 := nb_of hb d m st (by omega)
    simp -implicitDefEqProofs [call_ir (show P 2 = Df.ir _ from rfl), d_row_need, Rw.t, Rw.need, h2, h3]
theorem m_need (b : List Rw) : NB b := nb_of fun r _ => nr r
def _root_.Ev.S.bd : S → List S
  | .for _ _ b => b
  | .while _ b => b
  | _ => []
def _root_.Ev.Fd.loop (d : Fd) (k : Nat) : List S := (d.body.getD k .never).bd
/-! ### _law_need -/
def NL (b : List Rw) : Prop := ∀ d n st, dps b ≤ d → C (d + 1) 45 [.tup (bT b), .int n] st = .ok (false, .int (need b n), st)
def SubL (r : Rw) : Prop := (∀ t a b, r = .ite t a b → NL a ∧ NL b) ∧ ∀ c a b, r = .alt c a b → NL a ∧ NL b
theorem lneed_turn (cc : Cal) (r : Rw) (b : List Rw) (k : Nat) (m : Int) (st : St) (j : Option (Bool × T)) (hk : k < b.length) (eg : (bT b)[b.length - 1 - k]? = some r.t)
    (h1 : ∀ t, (r = .given t ∨ ∃ x y, r = .ite t x y) → cc 46 [t.t] st = .ok (false, .int t.cap, st))
    (h2 : ∀ x, ((∃ c y, r = .alt c x y ∨ r = .alt c y x) ∨ ∃ t y, r = .ite t x y ∨ r = .ite t y x) → cc 45 [.tup (bT x), .int m] st = .ok (false, .int (need x m), st)) :
    evSs cc 200 (d__law_need.loop 0) [some (false, .tup (bT b)), some (false, .int m), some (false, .int k), j] st = .nx [some (false, .tup (bT b)), some (false, .int (r.need m)), some (false, .int k), some (false, r.t)] st := by
  have ei : ((b.length : Int) - 1 - (k : Int)) = ((b.length - 1 - k : Nat) : Int) := by omega
  have ex := ixOf_n (show b.length - 1 - k < (bT b).length by rw [bT_len]; omega)
  rw [bT_len] at ex
  unfold Fd.loop d__law_need
  cases r with
  | given t => simp -implicitDefEqProofs [S.bd, Rw.t, Rw.need, h1 t (.inl rfl), ei, ex, eg]
  | ite t x y => simp -implicitDefEqProofs [S.bd, Rw.t, Rw.need, h1 t (.inr ⟨x, y, rfl⟩), h2 x (.inr ⟨t, y, .inl rfl⟩), h2 y (.inr ⟨t, x, .inr rfl⟩), ei, ex, eg]
  | alt c x y => simp -implicitDefEqProofs [S.bd, Rw.t, Rw.need, h2 x (.inl ⟨c, y, .inl rfl⟩), h2 y (.inl ⟨c, x, .inr rfl⟩), ei, ex, eg]
  | _ => simp -implicitDefEqProofs [S.bd, Rw.t, Rw.need, ei, ex, eg]
theorem lneed_of {b : List Rw} (hz : b.length < 1000) (h : ∀ r ∈ b, SubL r) : NL b := by
  intro d n st hd
  obtain ⟨d, rfl⟩ : ∃ k, d = k + 1 := ⟨d - 1, by have := dps_8 b; omega⟩
  have hz' : b.length < 4000000000 := by omega
  simp -implicitDefEqProofs [call_ir (show P 45 = Df.ir _ from rfl), d__law_need, hz']
  refine forL_rk (fun z => fin (kSt _ _ _ (F.lk _ z)) = _) (fun k Γ => ∃ j1 j2, Γ = [some (false, .tup (bT b)), some (false, .int (need (b.drop (b.length - k)) n)), j1, j2]) b.length _ ⟨none, none, by simp -implicitDefEqProofs [need]⟩ (fun k Γ hk hi => ?_) fun Γ' hi => ?_
  · obtain ⟨j1, j2, rfl⟩ := hi
    have hlt : b.length - 1 - k < b.length := by omega
    have ed : b.drop (b.length - (k + 1)) = b[b.length - 1 - k] :: b.drop (b.length - k) := by
      have e1 : b.length - (k + 1) = b.length - 1 - k := by omega
      have e2 : b.length - k = b.length - 1 - k + 1 := by omega
      rw [e1, e2]; exact List.drop_eq_getElem_cons hlt
    have em : b[b.length - 1 - k] ∈ b := List.getElem_mem hlt
    have hs := h _ em
    have hdp := Nat.le_trans (dps_mem em) hd
    have eg : (bT b)[b.length - 1 - k]? = some (b[b.length - 1 - k]).t := by rw [bT_map, List.getElem?_map, List.getElem?_eq_getElem hlt]; rfl
    rw [ed, need]
    generalize b[b.length - 1 - k] = r at hs hdp eg
    generalize need (b.drop (b.length - k)) n = m
    refine ⟨_, (fB_eq).trans (lneed_turn (C (d + 1)) r b k m st j2 hk eg (fun t ht => ?_) fun x hx => ?_), _, _, rfl⟩
    · rcases ht with rfl | ⟨x, y, rfl⟩ <;> simp only [Rw.dp] at hdp <;> exact m_cap' t (d + 1) st (by omega)
    · rcases hx with ⟨c, y, rfl | rfl⟩ | ⟨c, y, rfl | rfl⟩ <;> simp only [Rw.dp] at hdp
      · exact (hs.2 _ _ _ rfl).1 d m st (by omega)
      · exact (hs.2 _ _ _ rfl).2 d m st (by omega)
      · exact (hs.1 _ _ _ rfl).1 d m st (by omega)
      · exact (hs.1 _ _ _ rfl).2 d m st (by omega)
  · obtain ⟨j1, j2, rfl⟩ := hi
    simp -implicitDefEqProofs [need]
mutual
def Rw.wid : Rw → Prop
  | .ite _ a b => wids a ∧ wids b
  | .alt _ a b => wids a ∧ wids b
  | _ => True
def wids : List Rw → Prop
  | [] => True
  | r :: b => (b.length < 999) ∧ r.wid ∧ wids b
end
end K82
end

section
set_option autoImplicit false
set_option linter.all false
set_option maxRecDepth 100000
set_option maxHeartbeats 2000000
/-! M3: states; the program's side. -/
namespace K82
open Ev
/-! ### lowered -/
def cutN (n : Int) (s : List Int) : List Int := s.map fun x => if n ≤ x then -1 else x
@[simp] theorem cutN_len (n : Int) (s : List Int) : (cutN n s).length = s.length := List.length_map ..
def low (S : List (List Int)) (n : Int) : List (List Int) := setT (S.map (cutN n))
def sqT (q : Bool) (ts : List T) : T := if q = true then .tup ts else .lst ts
@[simp] theorem kSq_q {o q : Bool} {ts : List T} {s : St} : kSq (.ok (o, sqT q ts, s)) = .ok (ts, s) := by cases q <;> rfl
theorem sT_eq (s : List Int) : sT s = .tup (itsL s) := rfl
theorem tupsOf_sT : ∀ S : List (List Int), tupsOf (S.map sT) = some S
  | [] => rfl
  | s :: S => by
    have ih := tupsOf_sT S
    show (intsOf (itsL s)).bind (fun n => (tupsOf (S.map sT)).map fun ns => n :: ns) = _
    rw [ih, intsOf_ints]; rfl
/-- all of m numbers -/
def Wd (m : Nat) (S : List (List Int)) : Prop := ∀ s ∈ S, s.length = m
theorem low_turn (cc : Cal) (q : T) (n : Int) (s : List Int) (st : St) (hz : s.length ≤ 16777216) :
    cB cc [2] (.n 2) (.c (.bl true)) (.u .tupleOf (.comp [3] (.n 3) (.seq (.v 2)) (.c (.bl true)) (.ite (.b .ge (.v 3) (.v 1)) (.c (.int (-1))) (.v 3)))) [some (false, q), some (false, .int n), none, none] (sT s) st = .ok ([sT (cutN n s)], st) := by
  simp -implicitDefEqProofs [sT]
  unfold itsL
  rw [compL_map (fun x => T.int (if n ≤ x then -1 else x)) T.int s fun x _ => ?_]
  · have e : s.map (fun x => T.int (if n ≤ x then -1 else x)) = itsL (cutN n s) := by unfold itsL cutN; rw [List.map_map]; rfl
    simp -implicitDefEqProofs [e, hz]
  · by_cases z : n ≤ x <;> simp -implicitDefEqProofs [z]
theorem m_lowered {m : Nat} {S : List (List Int)} (q : Bool) (n : Int) (d : Nat) (st : St) (hw : Wd m S) (h1 : 0 < m) (h2 : m < 1000) (hl : S.length ≤ 16777216) (hc : (low S n).length < 1228) : C (d + 1) 9 [sqT q (S.map sT), .int n] st = .ok (false, .tup ((low S n).map sT), st) := by
  rw [call_ir (show P 9 = Df.ir _ from rfl)]
  generalize C d = cc
  simp -implicitDefEqProofs [d_lowered]
  rw [compL_map (fun s => sT (cutN n s)) sT S fun s hs => low_turn cc _ n s st (by rw [hw s hs]; omega)]
  have e : S.map (fun s => sT (cutN n s)) = (S.map (cutN n)).map sT := by rw [List.map_map]; rfl
  have hne : [] ∉ S.map (cutN n) := by
    intro z
    obtain ⟨s, hs, e⟩ := List.mem_map.mp z
    have := congrArg List.length e
    rw [cutN_len, hw s hs] at this
    simp only [List.length_nil] at this
    omega
  have hc' : (setT (S.map (cutN n))).length < 1228 := hc
  rw [e]
  simp -implicitDefEqProofs [tupsOf_sT, hl, -List.map_map, hne, hc']
  show _ = (low S n).map sT
  rfl
/-! ### what a draw gives -/
def minc (c n : Int) : Int := if n < c then n else c
def dnums (ns : List (Nat × T)) (c : Int) : List Int := setI (ns.map fun p => minc c p.1)
theorem m_drawNums (ns : List (Nat × T)) (c : Int) (d : Nat) (st : St) (hz : ns.length < 4000) : C (d + 1) 10 [drT ns, .int c] st = .ok (true, .lst (itsL (dnums ns c)), st) := by
  rw [call_ir (show P 10 = Df.ir _ from rfl)]
  generalize C d = cc
  simp -implicitDefEqProofs [d_draw_numbers, drT]
  rw [compL_map (fun p => T.int (minc c p.1)) (fun p => .tup [.int p.1, p.2]) ns fun p hp => by unfold minc; simp]
  have e : ns.map (fun p => T.int (minc c p.1)) = itsL (ns.map fun p => minc c p.1) := by unfold itsL; rw [List.map_map]; rfl
  have hz2 : ns.length ≤ 16777216 := by omega
  rw [e]
  simp -implicitDefEqProofs [hz, hz2, dnums]
def sum1 (some : List Int) (c : Int) : List Int := setI (some.map fun n => minc c n)
theorem m_sums (ns : List Int) (c : Int) (d : Nat) (st : St) (hz : ns.length < 4000) : C (d + 1) 12 [.lst (itsL ns), .int 1, .int c] st = .ok (true, .lst (itsL (sum1 ns c)), st) := by
  rw [call_ir (show P 12 = Df.ir _ from rfl)]
  generalize C d = cc
  have e1 : kR1 (.ok (false, .int 1, st)) = .ok (rangeT 0 1, st) := kR1_n (n := 1) (by decide)
  have e2 : rangeT 0 1 = [.int 0] := rfl
  simp -implicitDefEqProofs [d_sums_of, e1, e2, forL]
  unfold itsL
  rw [compL_map (fun n => T.int (minc c n)) T.int ns fun p hp => by unfold minc; simp]
  have e : ns.map (fun n => T.int (minc c n)) = itsL (ns.map fun n => minc c n) := by unfold itsL; rw [List.map_map]; rfl
  have hz2 : ns.length ≤ 16777216 := by omega
  rw [e]
  simp -implicitDefEqProofs [hz, hz2, sum1]
def drawn (mine : Int) (ns : List (Nat × T)) (c : Int) : List Int :=
  if mine = -1 ∨ dnums ns c = [0] then [mine] else (sum1 (dnums ns c) c).map fun n => mine + n
theorem setI_len : ∀ ns : List Int, (setI ns).length ≤ ns.length
  | [] => Nat.le_refl _
  | x :: xs => by
    have ih := setI_len xs
    have h : ∀ l : List Int, (insU x l).length ≤ l.length + 1 := by
      intro l
      induction l with
      | nil => exact Nat.le_refl _
      | cons y l ih =>
        unfold insU
        split
        · simp
        · split
          · simp
          · simp only [List.length_cons]; omega
    have := h (setI xs)
    simp only [setI, List.length_cons]
    omega
theorem dnums_len (ns : List (Nat × T)) (c : Int) : (dnums ns c).length ≤ ns.length := by
  have := setI_len (ns.map fun p => minc c p.1)
  rw [List.length_map] at this
  exact this
theorem sum1_len (ns : List Int) (c : Int) : (sum1 ns c).length ≤ ns.length := by
  have := setI_len (ns.map fun p => minc c p)
  rw [List.length_map] at this
  exact this
@[simp] theorem beq0 (ns : List Int) : eqOf (.lst (itsL ns)) (.lst [.int 0]) = some (decide (ns = [0])) := by
  have hp : ∀ l : List Int, T.plains (itsL l) = true := by
    intro l; induction l with
    | nil => rfl
    | cons x l ih => show (T.plain (.int x) && T.plains (itsL l)) = true; rw [ih]; rfl
  have hd : ∀ l : List Int, T.depths (itsL l) = 0 := by
    intro l; induction l with
    | nil => rfl
    | cons x l ih => show max (T.depth (.int x)) (T.depths (itsL l)) = 0; rw [ih]; rfl
  have e1 : T.plain (.lst (itsL ns)) = true := hp ns
  have e2 : T.plain (.lst [.int 0]) = true := rfl
  have e3 : T.depth (.lst (itsL ns)) = 1 := by show T.depths (itsL ns) + 1 = 1; rw [hd]
  have e4 : T.depth (.lst [.int 0]) = 1 := rfl
  unfold eqOf
  rw [e1, e2, e3, e4, if_pos ⟨rfl, rfl, by decide⟩]
  show some (T.eqvs (itsL ns) [.int 0]) = _
  rcases ns with _ | ⟨x, _ | ⟨y, l⟩⟩
  · rfl
  · show some ((x == 0) && true) = some (decide ([x] = [0]))
    rw [Bool.and_true]
    by_cases h : x = 0 <;> simp -implicitDefEqProofs [h]
  · show some ((x == 0) && T.eqvs (itsL (y :: l)) []) = _
    have : T.eqvs (itsL (y :: l)) [] = false := rfl
    rw [this, Bool.and_false]
    simp
theorem m_drawn (mine : Int) (ns : List (Nat × T)) (c : Int) (d : Nat) (st : St) (hz : ns.length < 4000) : C (d + 2) 13 [.int mine, drT ns, .int 1, .int c] st = .ok (true, .lst (itsL (drawn mine ns c)), st) := by
  rw [call_ir (show P 13 = Df.ir _ from rfl)]
  have h1 := m_drawNums ns c d st hz
  have hl := dnums_len ns c
  have h2 := m_sums (dnums ns c) c d st (by omega)
  have hl2 := sum1_len (dnums ns c) c
  generalize C (d + 1) = cc at h1 h2 ⊢
  unfold drawn
  simp -implicitDefEqProofs [d_drawn, h1]
  by_cases hm : mine = -1
  · simp -implicitDefEqProofs [hm]; rfl
  · by_cases h0 : dnums ns c = [0]
    · simp -implicitDefEqProofs [hm, h0]; rfl
    · simp -implicitDefEqProofs [hm, h0, h2]
      unfold itsL
      rw [compL_map (fun n => T.int (mine + n)) T.int (sum1 (dnums ns c) c) fun p hp => by simp]
      have hz2 : (sum1 (dnums ns c) c).length ≤ 16777216 := by omega
      simp -implicitDefEqProofs [hz2]
/-! ### numbers_behind, simple_states -/
def Rw.nums (s : List Int) (c : Int) : Rw → List Int
  | .set _ n => [n]
  | .copy _ y => [gi s y]
  | .draw w ns => drawn (gi s w) ns c
  | .less w k => if gi s w = -1 then [-1] else [if gi s w - k > 0 then gi s w - k else 0]
  | .add w k => if gi s w = -1 then [-1] else [gi s w + k]
  | _ => []
def Rw.w : Rw → Nat
  | .set w _ => w
  | .copy w _ => w
  | .draw w _ => w
  | .less w _ => w
  | .add w _ => w
  | _ => 0
def Rw.simple (m : Nat) : Rw → Prop
  | .set w _ => w < m
  | .copy w y => w < m ∧ y < m
  | .draw w ns => w < m ∧ 0 < ns.length ∧ ns.length ≤ 3
  | .less w _ => w < m
  | .add w _ => w < m
  | _ => False
theorem m_numsBehind {r : Rw} {s : List Int} (hs : r.simple s.length) (c : Int) (d : Nat) (st : St) : ∃ o, C (d + 3) 14 [r.t, sT s, .int c] st = .ok (o, .lst (itsL (r.nums s c)), st) := by
  rw [call_ir (show P 14 = Df.ir _ from rfl)]
  have h1 := fun mine ns hz => m_drawn mine ns c d st hz
  generalize C (d + 2) = cc at h1 ⊢
  cases r with
  | set w n => exact ⟨true, by simp -implicitDefEqProofs [d_numbers_behind, Rw.t, sT, Rw.nums, ints_getE, show w < s.length from hs]; rfl⟩
  | copy w y => exact ⟨true, by simp -implicitDefEqProofs [d_numbers_behind, Rw.t, sT, Rw.nums, ints_getE, show w < s.length from hs.1, show y < s.length from hs.2]; rfl⟩
  | draw w ns =>
    have h2 := h1 (gi s w) ns (by have := hs.2.2; omega)
    exact ⟨true, by simp -implicitDefEqProofs [d_numbers_behind, Rw.t, sT, Rw.nums, ints_getE, show w < s.length from hs.1, h2]⟩
  | less w k =>
    refine ⟨true, ?_⟩
    by_cases h : gi s w = -1 <;> simp -implicitDefEqProofs [d_numbers_behind, Rw.t, sT, Rw.nums, ints_getE, show w < s.length from hs, h] <;> rfl
  | add w k =>
    refine ⟨true, ?_⟩
    by_cases h : gi s w = -1 <;> simp -implicitDefEqProofs [d_numbers_behind, Rw.t, sT, Rw.nums, ints_getE, show w < s.length from hs, h] <;> rfl
  | _ => exact hs.elim
def pt (s : List Int) (w : Nat) (x : Int) : List Int := s.take w ++ x :: s.drop (w + 1)
theorem pt_len {s : List Int} {w : Nat} (h : w < s.length) (x : Int) : (pt s w x).length = s.length := by
  unfold pt
  rw [List.length_append, List.length_cons, List.length_take, List.length_drop]
  omega
theorem ints_take (s : List Int) (w : Nat) : (itsL s).take w = itsL (s.take w) := by unfold itsL; rw [List.map_take]
theorem ints_drop (s : List Int) (w : Nat) : (itsL s).drop w = itsL (s.drop w) := by unfold itsL; rw [List.map_drop]
theorem ints_pt (s : List Int) (w : Nat) (x : Int) : itsL (s.take w) ++ T.int x :: itsL (s.drop (w + 1)) = itsL (pt s w x) := by unfold itsL pt; rw [List.map_append, List.map_cons]
def Rw.step (r : Rw) (c : Int) (s : List Int) : List (List Int) := (r.nums s c).map (pt s r.w)
theorem w_item {r : Rw} {m : Nat} (hs : r.simple m) : ∃ x y, r.t = .tup (x :: .int r.w :: y) ∧ r.w < m := by
  cases r with
  | set w n => exact ⟨_, _, rfl, hs⟩
  | copy w y => exact ⟨_, _, rfl, hs.1⟩
  | draw w ns => exact ⟨_, _, rfl, hs.1⟩
  | less w k => exact ⟨_, _, rfl, hs⟩
  | add w k => exact ⟨_, _, rfl, hs⟩
  | _ => exact hs.elim
theorem nums_len {r : Rw} {m : Nat} (hs : r.simple m) (s : List Int) (c : Int) : (r.nums s c).length ≤ 3 := by
  cases r with
  | draw w ns =>
    simp only [Rw.nums, drawn]
    split
    · simp
    · rw [List.length_map]
      have h1 := sum1_len (dnums ns c) c
      have h2 := dnums_len ns c
      have h3 := hs.2.2
      omega
  | less w k => simp only [Rw.nums]; split <;> simp
  | add w k => simp only [Rw.nums]; split <;> simp
  | set w k => simp [Rw.nums]
  | copy w k => simp [Rw.nums]
  | _ => exact hs.elim
theorem simple_turn (cc : Cal) {r : Rw} {s : List Int} (hs : r.simple s.length) (c : Int) (st : St) (q : T) (acc : List T) (j : Option (Bool × T)) (o : Bool) (hz : acc.length ≤ 16000000) (hl : s.length ≤ 1000)
    (h : cc 14 [r.t, sT s, .int c] st = .ok (o, .lst (itsL (r.nums s c)), st)) :
    evSs cc 200 (d_simple_states.loop 2) [some (false, r.t), some (false, q), some (false, .int c), some (false, .int r.w), some (true, .lst acc), some (false, sT s), none] st = .nx [some (false, r.t), some (false, q), some (false, .int c), some (false, .int r.w), some (true, .lst (acc ++ (r.step c s).map sT)), some (false, sT s), none] st := by
  obtain ⟨_, _, _, hw⟩ := w_item hs
  have h3 := nums_len hs s c
  unfold Fd.loop d_simple_states
  simp -implicitDefEqProofs [S.bd, h]
  unfold itsL
  rw [compL_map (fun x => sT (pt s r.w x)) T.int (r.nums s c) fun x hx => ?_]
  · have e : (r.nums s c).map (fun x => sT (pt s r.w x)) = (r.step c s).map sT := by unfold Rw.step; rw [List.map_map]; rfl
    have h4 : (r.nums s c).length ≤ 16777216 := by omega
    have h5 : acc.length + (r.step c s).length ≤ 16777216 := by unfold Rw.step; rw [List.length_map]; omega
    rw [e]
    have h4' : (r.step c s).length ≤ 16777216 := by unfold Rw.step; rw [List.length_map]; omega
    simp -implicitDefEqProofs [h4', h5]
  · have a1 : min r.w s.length = r.w := by omega
    have a2 : min (r.w + 1) s.length = r.w + 1 := by omega
    have a3 : r.w + 1 ≤ 16777216 := by omega
    have a4 : r.w + 1 + (s.length - (r.w + 1)) ≤ 16777216 := by omega
    simp -implicitDefEqProofs [sT, a1, a2, a3, a4, ints_take, ints_drop, ints_pt]
theorem m_simpleStates {r : Rw} {m : Nat} {S : List (List Int)} (q : Bool) (hr : r.simple m) (hw : Wd m S) (hm : m ≤ 1000) (hl : S.length ≤ 4000000) (c : Int) (d : Nat) (st : St) :
    C (d + 4) 15 [r.t, sqT q (S.map sT), .int c] st = .ok (true, .lst ((S.flatMap (r.step c)).map sT), st) := by
  rw [call_ir (show P 15 = Df.ir _ from rfl)]
  have h1 := fun s (hs : s ∈ S) => m_numsBehind (r := r) (s := s) (by rw [hw s hs]; exact hr) c d st
  generalize C (d + 3) = cc at h1 ⊢
  obtain ⟨x, y, ex, hwm⟩ := w_item hr
  have e0 : itemOf st r.t (.int 1) = some (.int r.w) := by rw [ex]; simp -implicitDefEqProofs []
  simp -implicitDefEqProofs [d_simple_states, e0]
  have hb : ∀ p : List (List Int), (p.flatMap (r.step c)).length ≤ 3 * p.length := by
    intro p
    induction p with
    | nil => exact Nat.le_refl _
    | cons s p ih =>
      have := nums_len hr s c
      rw [List.flatMap_cons, List.length_append, List.length_cons]
      have e : (r.step c s).length = (r.nums s c).length := by unfold Rw.step; rw [List.length_map]
      omega
  refine forL_pk (fun z => fin (kSt _ _ _ (F.lk _ z)) = _) sT S (fun p Γ => ∃ j, Γ = [some (false, r.t), some (false, sqT q (S.map sT)), some (false, .int c), some (false, .int r.w), some (true, .lst ((p.flatMap (r.step c)).map sT)), j, none]) _ ⟨none, rfl⟩ (fun p s post Γ e i => ?_) fun Γ' i => ?_
  · obtain ⟨j, rfl⟩ := i
    have hs : s ∈ S := by rw [e]; simp
    have hpl : p.length ≤ S.length := by rw [e, List.length_append]; omega
    obtain ⟨o, h2⟩ := h1 s hs
    refine ⟨_, (fB_eq).trans (simple_turn cc (by rw [hw s hs]; exact hr) c st _ _ j o (by rw [List.length_map]; have := hb p; omega) (by rw [hw s hs]; exact hm) h2), some (false, sT s), ?_⟩
    rw [List.flatMap_append, List.map_append]
    simp -implicitDefEqProofs []
  · obtain ⟨j, rfl⟩ := i
    simp -implicitDefEqProofs []
end K82
end

section
set_option autoImplicit false
set_option linter.all false
set_option maxRecDepth 100000
set_option maxHeartbeats 2000000
/-! M4: block_states. -/
namespace K82
open Ev
def holdsIn (t : Te) (n : Int) (s : List Int) : Bool := t.holds (farTo n s)
mutual
def Rw.sts : Rw → List (List Int) → Int → List (List Int)
  | .given t, S, c => low ((low S ((Rw.given t).need c)).filter (holdsIn t ((Rw.given t).need c))) c
  | .ite t a b, S, c => low (blk a ((low S (maxI t.cap [need a c, need b c])).filter (holdsIn t (maxI t.cap [need a c, need b c]))) c ++ blk b ((low S (maxI t.cap [need a c, need b c])).filter (fun s => !holdsIn t (maxI t.cap [need a c, need b c]) s)) c) c
  | .alt _ a b, S, c => low (blk a (low S (if need b c > need a c then need b c else need a c)) c ++ blk b (low S (if need b c > need a c then need b c else need a c)) c) c
  | .set w n, S, c => low ((low S c).flatMap ((Rw.set w n).step c)) c
  | .add w n, S, c => low ((low S c).flatMap ((Rw.add w n).step c)) c
  | .less w n, S, c => low ((low S (c + n)).flatMap ((Rw.less w n).step c)) c
  | .copy w y, S, c => low ((low S c).flatMap ((Rw.copy w y).step c)) c
  | .draw w ns, S, c => low ((low S c).flatMap ((Rw.draw w ns).step c)) c
def blk : List Rw → List (List Int) → Int → List (List Int)
  | [], S, c => low S c
  | r :: b, S, c => blk b (r.sts S (need b c)) c
end
mutual
def Rw.ok (m : Nat) : Rw → Prop
  | .given t => t.ok m
  | .ite t a b => t.ok m ∧ oks m a ∧ oks m b
  | .alt _ a b => oks m a ∧ oks m b
  | .set w _ => w < m
  | .copy w y => w < m ∧ y < m
  | .draw w ns => w < m ∧ 0 < ns.length ∧ ns.length ≤ 3
  | .less w _ => w < m
  | .add w _ => w < m
def oks (m : Nat) : List Rw → Prop
  | [] => True
  | r :: b => r.ok m ∧ oks m b
end
theorem oks_mem {m : Nat} : ∀ {b : List Rw}, oks m b → ∀ r ∈ b, r.ok m
  | x :: b, h, r, hr => by
    rw [oks] at h
    rcases List.mem_cons.mp hr with e | hr
    · rw [e]; exact h.1
    · exact oks_mem h.2 r hr
/-! ### sizes -/
/-- states of m numbers from -1 on -/
def Gd (m : Nat) (S : List (List Int)) : Prop := ∀ s ∈ S, s.length = m ∧ ∀ x ∈ s, -1 ≤ x
theorem Gd.wd {m : Nat} {S : List (List Int)} (h : Gd m S) : Wd m S := fun s hs => (h s hs).1
theorem mem_insUT {x y : List Int} : ∀ {l : List (List Int)}, y ∈ insUT x l ↔ y = x ∨ y ∈ l
  | [] => by simp [insUT]
  | z :: l => by
    unfold insUT
    split
    · simp
    · split
      · rename_i h; rw [h]; simp
      · rw [List.mem_cons, mem_insUT, List.mem_cons]
        constructor
        · rintro (h | h | h)
          · exact .inr (.inl h)
          · exact .inl h
          · exact .inr (.inr h)
        · rintro (h | h | h)
          · exact .inr (.inl h)
          · exact .inl h
          · exact .inr (.inr h)
theorem mem_setT {y : List Int} : ∀ {l : List (List Int)}, y ∈ setT l ↔ y ∈ l
  | [] => by simp [setT]
  | x :: l => by rw [setT, mem_insUT, mem_setT, List.mem_cons]
theorem lexLt_irr : ∀ x : List Int, lexLt x x = false
  | [] => rfl
  | a :: x => by unfold lexLt; rw [if_pos rfl]; exact lexLt_irr x
theorem lexLt_trans : ∀ {x y z : List Int}, lexLt x y = true → lexLt y z = true → lexLt x z = true
  | [], [], _, h, _ => by cases h
  | [], _ :: _, [], _, h => by cases h
  | [], _ :: _, _ :: _, _, _ => rfl
  | _ :: _, [], _, h, _ => by cases h
  | _ :: _, _ :: _, [], _, h => by cases h
  | a :: x, b :: y, c :: z, h1, h2 => by
    unfold lexLt at h1 h2 ⊢
    by_cases e1 : a = b
    · subst e1
      rw [if_pos rfl] at h1
      by_cases e2 : a = c
      · subst e2
        rw [if_pos rfl] at h2 ⊢
        exact lexLt_trans h1 h2
      · rw [if_neg e2] at h2 ⊢
        exact h2
    · rw [if_neg e1] at h1
      have l1 := of_decide_eq_true h1
      by_cases e2 : b = c
      · subst e2
        rw [if_neg e1]
        exact h1
      · rw [if_neg e2] at h2
        have l2 := of_decide_eq_true h2
        rw [if_neg (by omega)]
        exact decide_eq_true (by omega)
theorem lexLt_tot : ∀ {x y : List Int}, lexLt x y = false → x ≠ y → lexLt y x = true
  | [], [], _, h => absurd rfl h
  | [], _ :: _, h, _ => by cases h
  | _ :: _, [], _, _ => rfl
  | a :: x, b :: y, h, n => by
    unfold lexLt at h ⊢
    by_cases e : a = b
    · subst e
      rw [if_pos rfl] at h ⊢
      exact lexLt_tot h fun z => n (by rw [z])
    · rw [if_neg e] at h
      have l := of_decide_eq_false h
      rw [if_neg fun z => e z.symm]
      exact decide_eq_true (by omega)
theorem insUT_pw {x : List Int} : ∀ {l : List (List Int)}, l.Pairwise (fun a b => lexLt a b = true) → (insUT x l).Pairwise (fun a b => lexLt a b = true)
  | [], _ => by simp [insUT]
  | z :: l, h => by
    obtain ⟨h1, h2⟩ := List.pairwise_cons.mp h
    unfold insUT
    split
    · rename_i q
      refine List.pairwise_cons.mpr ⟨fun y hy => ?_, h⟩
      rcases List.mem_cons.mp hy with e | hy
      · rw [e]; exact q
      · exact lexLt_trans q (h1 y hy)
    · rename_i q
      split
      · exact h
      · rename_i n
        refine List.pairwise_cons.mpr ⟨fun y hy => ?_, insUT_pw h2⟩
        rcases mem_insUT.mp hy with e | hy
        · rw [e]
          exact lexLt_tot (by cases z' : lexLt x z with
            | true => exact absurd z' q
            | false => rfl) n
        · exact h1 y hy
theorem setT_pw : ∀ l : List (List Int), (setT l).Pairwise (fun a b => lexLt a b = true)
  | [] => List.Pairwise.nil
  | x :: l => insUT_pw (setT_pw l)
theorem setT_nodup (l : List (List Int)) : (setT l).Nodup := (setT_pw l).imp fun {a b} h e => by
  rw [e, lexLt_irr] at h; cases h
/-- pigeons -/
theorem nodup_le {α : Type} [DecidableEq α] : ∀ (l D : List α), l.Nodup → (∀ x ∈ l, x ∈ D) → l.length ≤ D.length
  | [], _, _, _ => Nat.zero_le _
  | x :: l, D, hn, hs => by
    obtain ⟨h1, h2⟩ := List.nodup_cons.mp hn
    have hx : x ∈ D := hs x List.mem_cons_self
    have ih := nodup_le l (D.erase x) h2 fun y hy => (List.mem_erase_of_ne (fun e => h1 (by rw [← e]; exact hy))).2 (hs y (List.mem_cons_of_mem _ hy))
    have e := List.length_erase_of_mem hx
    have hp : 0 < D.length := List.length_pos_of_mem hx
    rw [List.length_cons]
    omega
/-- the numbers from -1 to below n -/
def far (n : Nat) : List Int := -1 :: (List.range n).map fun k : Nat => (k : Int)
theorem mem_far {n : Nat} {x : Int} : x ∈ far n ↔ -1 ≤ x ∧ x < n := by
  unfold far
  rw [List.mem_cons, List.mem_map]
  constructor
  · rintro (h | ⟨k, hk, e⟩)
    · omega
    · have := List.mem_range.mp hk; omega
  · rintro ⟨h1, h2⟩
    by_cases e : x = -1
    · exact .inl e
    · exact .inr ⟨x.toNat, List.mem_range.mpr (by omega), by omega⟩
def box (m n : Nat) : List (List Int) := match m with
  | 1 => (far n).map fun x => [x]
  | _ => (far n).flatMap fun x => (far n).map fun y => [x, y]
theorem far_len (n : Nat) : (far n).length = n + 1 := by unfold far; simp
theorem box_len {m n : Nat} (hm : m = 1 ∨ m = 2) : (box m n).length ≤ (n + 1) * (n + 1) := by
  rcases hm with rfl | rfl
  · show ((far n).map fun x => [x]).length ≤ _
    rw [List.length_map, far_len]
    exact Nat.le_mul_of_pos_left _ (by omega)
  · show ((far n).flatMap fun x => (far n).map fun y => [x, y]).length ≤ _
    rw [List.length_flatMap]
    simp only [List.length_map, far_len]
    have : ∀ l : List Int, (l.map fun _ => n + 1).sum = l.length * (n + 1) := by
      intro l
      induction l with
      | nil => simp
      | cons x l ih => rw [List.map_cons, List.sum_cons, ih, List.length_cons, Nat.add_mul, Nat.one_mul, Nat.add_comm]
    rw [this, far_len]
    exact Nat.le_refl _
theorem mem_box {m n : Nat} (hm : m = 1 ∨ m = 2) {s : List Int} (h : s.length = m) (hx : ∀ x ∈ s, x ∈ far n) : s ∈ box m n := by
  rcases hm with rfl | rfl
  · match s, h with
    | [x], _ => exact List.mem_map.mpr ⟨x, hx x (by simp), rfl⟩
  · match s, h with
    | [x, y], _ => exact List.mem_flatMap.mpr ⟨x, hx x (by simp), List.mem_map.mpr ⟨y, hx y (by simp), rfl⟩⟩
theorem mem_low {S : List (List Int)} {n : Int} {s : List Int} : s ∈ low S n ↔ ∃ u ∈ S, cutN n u = s := by
  unfold low
  rw [mem_setT, List.mem_map]
theorem cut_far {n : Int} {u : List Int} (h : ∀ x ∈ u, -1 ≤ x) (hn : 0 ≤ n) : ∀ x ∈ cutN n u, x ∈ far n.toNat := by
  intro x hx
  obtain ⟨y, hy, rfl⟩ := List.mem_map.mp hx
  have := h y hy
  rw [mem_far]
  split <;> omega
theorem low_gd {m : Nat} {S : List (List Int)} (h : Gd m S) {n : Int} (hn : 0 ≤ n) : Gd m (low S n) := by
  intro s hs
  obtain ⟨u, hu, rfl⟩ := mem_low.mp hs
  exact ⟨by rw [cutN_len]; exact (h u hu).1, fun x hx => (mem_far.mp (cut_far (h u hu).2 hn x hx)).1⟩
theorem low_few {m : Nat} {S : List (List Int)} (hm : m = 1 ∨ m = 2) (h : Gd m S) {n : Int} (hn : 0 ≤ n) (h33 : n ≤ 33) : (low S n).length < 1228 := by
  have h1 := nodup_le (low S n) (box m n.toNat) (setT_nodup _) fun s hs => by
    obtain ⟨u, hu, rfl⟩ := mem_low.mp hs
    exact mem_box hm (by rw [cutN_len]; exact (h u hu).1) (cut_far (h u hu).2 hn)
  have h2 := box_len (n := n.toNat) hm
  have h3 : (n.toNat + 1) * (n.toNat + 1) ≤ 34 * 34 := Nat.mul_le_mul (by omega) (by omega)
  omega
theorem maxI_ge : ∀ (l : List Int) (m : Int), m ≤ maxI m l ∧ ∀ x ∈ l, x ≤ maxI m l
  | [], m => ⟨Int.le_refl _, fun x h => absurd h (by simp)⟩
  | y :: l, m => by
    unfold maxI
    obtain ⟨h1, h2⟩ := maxI_ge l (if m < y then y else m)
    have h3 : m ≤ (if m < y then y else m) ∧ y ≤ (if m < y then y else m) := by split <;> omega
    refine ⟨by omega, fun x hx => ?_⟩
    rcases List.mem_cons.mp hx with e | hx
    · rw [e]; omega
    · exact h2 x hx
mutual
theorem Rw.need_ge : ∀ (r : Rw) (n : Int), n ≤ r.need n
  | .set _ _, n => Int.le_refl _
  | .add _ _, n => Int.le_refl _
  | .copy _ _, n => Int.le_refl _
  | .draw _ _, n => Int.le_refl _
  | .less _ k, n => by rw [Rw.need]; omega
  | .given t, n => by rw [Rw.need]; split <;> omega
  | .ite t a b, n => by
    rw [Rw.need]
    have h1 := need_ge a n
    have h2 := (maxI_ge [need a n, need b n] t.cap).2 (need a n) (by simp)
    omega
  | .alt c a b, n => by
    rw [Rw.need]
    have h1 := need_ge a n
    split <;> omega
theorem need_ge : ∀ (b : List Rw) (n : Int), n ≤ need b n
  | [], n => Int.le_refl _
  | r :: b, n => by
    rw [need]
    have h1 := need_ge b n
    have h2 := Rw.need_ge r (need b n)
    omega
end
theorem nums_ge {r : Rw} {s : List Int} (hr : r.simple s.length) (h : ∀ x ∈ s, -1 ≤ x) {c : Int} (hc : 0 ≤ c) : ∀ x ∈ r.nums s c, -1 ≤ x := by
  have hg : ∀ w, w < s.length → -1 ≤ gi s w := fun w hw => by
    unfold gi
    rw [List.getD_eq_getElem?_getD, List.getElem?_eq_getElem hw]
    exact h _ (List.getElem_mem hw)
  have mem_setI : ∀ {l : List Int} {x : Int}, x ∈ setI l ↔ x ∈ l := by
    have mi : ∀ {l : List Int} {x y : Int}, y ∈ insU x l ↔ y = x ∨ y ∈ l := by
      intro l x y
      induction l with
      | nil => simp [insU]
      | cons z l ih =>
        unfold insU
        split
        · simp
        · split
          · rename_i e; rw [e]; simp
          · rw [List.mem_cons, ih, List.mem_cons]
            constructor
            · rintro (h | h | h)
              · exact .inr (.inl h)
              · exact .inl h
              · exact .inr (.inr h)
            · rintro (h | h | h)
              · exact .inr (.inl h)
              · exact .inl h
              · exact .inr (.inr h)
    intro l
    induction l with
    | nil => intro x; simp [setI]
    | cons y l ih => intro x; rw [setI, mi, ih, List.mem_cons]
  intro x hx
  cases r with
  | set w n => simp only [Rw.nums, List.mem_singleton] at hx; omega
  | copy w y => simp only [Rw.nums, List.mem_singleton] at hx; rw [hx]; exact hg y hr.2
  | less w k =>
    have := hg w hr
    simp only [Rw.nums] at hx
    split at hx
    · simp only [List.mem_singleton] at hx; omega
    · simp only [List.mem_singleton] at hx; rw [hx]; split <;> omega
  | add w k =>
    have := hg w hr
    simp only [Rw.nums] at hx
    split at hx <;> simp only [List.mem_singleton] at hx <;> omega
  | draw w ns =>
    have g := hg w hr.1
    simp only [Rw.nums, drawn] at hx
    split at hx
    · simp only [List.mem_singleton] at hx; omega
    · obtain ⟨y, hy, rfl⟩ := List.mem_map.mp hx
      unfold sum1 at hy
      obtain ⟨z, hz, rfl⟩ := List.mem_map.mp (mem_setI.mp hy)
      unfold dnums at hz
      obtain ⟨p, hp, rfl⟩ := List.mem_map.mp (mem_setI.mp hz)
      have : 0 ≤ minc c (minc c p.1) := by
        have a1 : 0 ≤ minc c (p.1 : Int) := by unfold minc; split <;> omega
        generalize minc c (p.1 : Int) = q at a1 ⊢
        unfold minc; split <;> omega
      omega
  | _ => exact hr.elim
theorem step_gd {r : Rw} {m : Nat} (hr : r.simple m) {S : List (List Int)} (h : Gd m S) {c : Int} (hc : 0 ≤ c) : Gd m (S.flatMap (r.step c)) := by
  intro s hs
  obtain ⟨u, hu, hs⟩ := List.mem_flatMap.mp hs
  obtain ⟨x, hx, rfl⟩ := List.mem_map.mp hs
  obtain ⟨_, _, _, hw⟩ := w_item hr
  have hl := (h u hu).1
  refine ⟨by rw [pt_len (by omega), hl], fun y hy => ?_⟩
  unfold pt at hy
  rcases List.mem_append.mp hy with hy | hy
  · exact (h u hu).2 y (List.mem_of_mem_take hy)
  · rcases List.mem_cons.mp hy with e | hy
    · rw [e]; exact nums_ge (by rw [hl]; exact hr) (h u hu).2 hc x hx
    · exact (h u hu).2 y (List.mem_of_mem_drop hy)
theorem Gd.filter {m : Nat} {S : List (List Int)} (h : Gd m S) (p : List Int → Bool) : Gd m (S.filter p) := fun s hs => h s (List.mem_filter.mp hs).1
theorem Gd.app {m : Nat} {S S' : List (List Int)} (h : Gd m S) (h' : Gd m S') : Gd m (S ++ S') := fun s hs => by
  rcases List.mem_append.mp hs with hs | hs
  · exact h s hs
  · exact h' s hs
mutual
theorem Rw.sts_gd {m : Nat} : ∀ (r : Rw), r.ok m → ∀ (S : List (List Int)) (c : Int), Gd m S → 0 ≤ c → Gd m (r.sts S c)
  | .set w n, ho, S, c, h, hc => low_gd (step_gd (r := .set w n) ho (low_gd h hc) hc) hc
  | .add w n, ho, S, c, h, hc => low_gd (step_gd (r := .add w n) ho (low_gd h hc) hc) hc
  | .copy w n, ho, S, c, h, hc => low_gd (step_gd (r := .copy w n) ho (low_gd h hc) hc) hc
  | .draw w n, ho, S, c, h, hc => low_gd (step_gd (r := .draw w n) ho (low_gd h hc) hc) hc
  | .less w n, ho, S, c, h, hc => low_gd (step_gd (r := .less w n) ho (low_gd h (by omega)) hc) hc
  | .given t, ho, S, c, h, hc => low_gd ((low_gd h (Int.le_trans hc (Rw.need_ge (.given t) c))).filter _) hc
  | .ite t a b, ho, S, c, h, hc => low_gd ((blk_gd a ho.2.1 _ c ((low_gd h (Int.le_trans hc (Rw.need_ge (.ite t a b) c))).filter _) hc).app (blk_gd b ho.2.2 _ c ((low_gd h (Int.le_trans hc (Rw.need_ge (.ite t a b) c))).filter _) hc)) hc
  | .alt t a b, ho, S, c, h, hc => low_gd ((blk_gd a ho.1 _ c (low_gd h (Int.le_trans hc (Rw.need_ge (.alt t a b) c))) hc).app (blk_gd b ho.2 _ c (low_gd h (Int.le_trans hc (Rw.need_ge (.alt t a b) c))) hc)) hc
theorem blk_gd {m : Nat} : ∀ (b : List Rw), oks m b → ∀ (S : List (List Int)) (c : Int), Gd m S → 0 ≤ c → Gd m (blk b S c)
  | [], _, S, c, h, hc => low_gd h hc
  | r :: b, ho, S, c, h, hc => blk_gd b ho.2 _ c (Rw.sts_gd r ho.1 S _ h (Int.le_trans hc (need_ge b c))) hc
end
theorem blk_few {m : Nat} (hm : m = 1 ∨ m = 2) : ∀ (b : List Rw), oks m b → ∀ (S : List (List Int)) (c : Int), Gd m S → 0 ≤ c → c ≤ 33 → (blk b S c).length < 1228
  | [], _, S, c, h, hc, h33 => low_few hm h hc h33
  | r :: b, ho, S, c, h, hc, h33 => blk_few hm b ho.2 _ c (Rw.sts_gd r ho.1 S _ h (Int.le_trans hc (need_ge b c))) hc h33
end K82
end

section
set_option autoImplicit false
set_option linter.all false
set_option maxRecDepth 100000
set_option maxHeartbeats 2000000
/-! M5: row_states, block_states. -/
namespace K82
open Ev
def RS (r : Rw) : Prop := ∀ m S q c d st, r.dp + 4 ≤ d → r.ok m → (m = 1 ∨ m = 2) → Gd m S → S.length < 4000 → 0 ≤ c → r.need c ≤ 33 → C d 16 [r.t, sqT q (S.map sT), .int c] st = .ok (false, .tup ((r.sts S c).map sT), st)
def BS (b : List Rw) : Prop := ∀ m S q c d st, dps b + 6 ≤ d → oks m b → (m = 1 ∨ m = 2) → Gd m S → S.length < 4000 → 0 ≤ c → need b c ≤ 33 → C d 17 [.tup (bT b), sqT q (S.map sT), .int c] st = .ok (false, .tup ((blk b S c).map sT), st)
theorem Rw.sts_few {m : Nat} (hm : m = 1 ∨ m = 2) : ∀ (r : Rw), r.ok m → ∀ (S : List (List Int)) (c : Int), Gd m S → 0 ≤ c → c ≤ 33 → (r.sts S c).length < 1228
  | .set w n, ho, S, c, h, hc, h33 => low_few hm (step_gd (r := .set w n) ho (low_gd h hc) hc) hc h33
  | .add w n, ho, S, c, h, hc, h33 => low_few hm (step_gd (r := .add w n) ho (low_gd h hc) hc) hc h33
  | .copy w n, ho, S, c, h, hc, h33 => low_few hm (step_gd (r := .copy w n) ho (low_gd h hc) hc) hc h33
  | .draw w n, ho, S, c, h, hc, h33 => low_few hm (step_gd (r := .draw w n) ho (low_gd h hc) hc) hc h33
  | .less w n, ho, S, c, h, hc, h33 => low_few hm (step_gd (r := .less w n) ho (low_gd h (by omega)) hc) hc h33
  | .given t, ho, S, c, h, hc, h33 => low_few hm ((low_gd h (Int.le_trans hc (Rw.need_ge (.given t) c))).filter _) hc h33
  | .ite t a b, ho, S, c, h, hc, h33 => low_few hm ((blk_gd a ho.2.1 _ c ((low_gd h (Int.le_trans hc (Rw.need_ge (.ite t a b) c))).filter _) hc).app (blk_gd b ho.2.2 _ c ((low_gd h (Int.le_trans hc (Rw.need_ge (.ite t a b) c))).filter _) hc)) hc h33
  | .alt t a b, ho, S, c, h, hc, h33 => low_few hm ((blk_gd a ho.1 _ c (low_gd h (Int.le_trans hc (Rw.need_ge (.alt t a b) c))) hc).app (blk_gd b ho.2 _ c (low_gd h (Int.le_trans hc (Rw.need_ge (.alt t a b) c))) hc)) hc h33
theorem forL_ek {f : T → Env → St → F} {st : St} (K : F → Prop) (l : List T) (I : Nat → Env → Prop) (Γ : Env) (i : I 0 Γ) (h : ∀ k t Γ, l[k]? = some t → I k Γ → ∃ Γ', f (.tup [.int (k : Int), t]) Γ st = .nx Γ' st ∧ I (k + 1) Γ')
    (q : ∀ Γ', I l.length Γ' → K (.nx Γ' st)) : K (forL f (enumT 0 l) Γ st) := by
  have go : ∀ (r p : List T) (Γ : Env), l = p ++ r → I p.length Γ → K (forL f (enumT p.length r) Γ st) := by
    intro r
    induction r with
    | nil => intro p Γ e i; rw [List.append_nil] at e; subst e; exact q Γ i
    | cons a r ih =>
      intro p Γ e i
      obtain ⟨Γ', e1, i1⟩ := h p.length a Γ (by rw [e]; simp) i
      rw [enumT, forL, e1, F.then_nx]
      have := ih (p ++ [a]) Γ' (by rw [e, List.append_assoc]; rfl) (by rw [List.length_append]; exact i1)
      rw [List.length_append] at this
      exact this
  exact go l [] Γ rfl i
theorem bs_of {b : List Rw} (h : ∀ r ∈ b, RS r) : BS b := by
  intro m S q c d st hd ho hm hg hl hc h33
  obtain ⟨d, rfl⟩ : ∃ k, d = k + 2 := ⟨d - 2, by omega⟩
  rw [call_ir (show P 17 = Df.ir _ from rfl)]
  have hlow := fun (S : List (List Int)) (q : Bool) (hg : Gd m S) (hl : S.length < 4000) => m_lowered q c d st hg.wd (by omega) (by omega) (by omega) (low_few hm hg hc (Int.le_trans (need_ge b c) h33))
  have hneed := fun k => m_need (b.drop k) d c st
  have hrow := fun (r : Rw) (hr : r ∈ b) (S : List (List Int)) (q : Bool) (n : Int) => h r hr m S q n (d + 1) st (by have := dps_mem hr; omega) (oks_mem ho r hr) hm
  have hdrop : ∀ k, dps (b.drop k) ≤ d := by
    intro k
    have : ∀ (l : List Rw), (∀ r ∈ l, r ∈ b) → dps l ≤ max 8 (dps b) := by
      intro l
      induction l with
      | nil => intro _; rw [dps]; omega
      | cons x l ih =>
        intro hh
        have h1 := ih fun r hr => hh r (List.mem_cons_of_mem _ hr)
        have h2 := dps_mem (hh x List.mem_cons_self)
        rw [dps]; omega
    have := this (b.drop k) fun r hr => List.mem_of_mem_drop hr
    have := dps_8 b
    omega
  have hneed := fun k => hneed k (hdrop k)
  generalize C (d + 1) = cc at hlow hneed hrow ⊢
  simp -implicitDefEqProofs [d_block_states]
  refine forL_ek (fun z => fin (kSt _ _ _ (F.lk _ z)) = _) (bT b) (fun k Γ => ∃ S' q' j1 j2, Γ = [some (false, .tup (bT b)), some (false, sqT q' (S'.map sT)), some (false, .int c), j1, j2] ∧ blk (b.drop k) S' c = blk b S c ∧ Gd m S' ∧ S'.length < 4000) _ ⟨S, q, none, none, rfl, rfl, hg, hl⟩ (fun k t Γ ht i => ?_) fun Γ' i => ?_
  · obtain ⟨S', q', j1, j2, rfl, e, hg', hl'⟩ := i
    have hk : k < b.length := by
      have := (List.getElem?_eq_some_iff.mp ht).1
      rw [bT_len] at this; exact this
    have et : t = (b[k]).t := by
      rw [bT_map, List.getElem?_map, List.getElem?_eq_getElem hk] at ht
      exact (Option.some.inj ht).symm
    have ed : b.drop k = b[k] :: b.drop (k + 1) := List.drop_eq_getElem_cons hk
    have em : b[k] ∈ b := List.getElem_mem hk
    have hn33 : (b[k]).need (need (b.drop (k + 1)) c) ≤ 33 := by
      have : ∀ (j : Nat), need (b.drop j) c ≤ need b c := by
        intro j
        induction j with
        | zero => exact Int.le_refl _
        | succ j ih =>
          by_cases hj : j < b.length
          · rw [List.drop_eq_getElem_cons hj, need] at ih
            exact Int.le_trans (Rw.need_ge _ _) ih
          · rw [List.drop_eq_nil_of_le (by omega), need]
            exact need_ge b c
      have h2 := this k
      rw [ed, need] at h2
      omega
    have hn0 : 0 ≤ need (b.drop (k + 1)) c := Int.le_trans hc (need_ge _ _)
    have h1 := hrow _ em S' q' (need (b.drop (k + 1)) c) hg' hl' hn0 hn33
    have h2 := hneed (k + 1)
    rw [ed, blk] at e
    have hgd := Rw.sts_gd _ (oks_mem ho _ em) S' _ hg' hn0
    have hfew := Rw.sts_few hm _ (oks_mem ho _ em) S' _ hg' hn0 (Int.le_trans (Rw.need_ge _ _) hn33)
    refine ⟨[some (false, .tup (bT b)), some (false, .tup (((b[k]).sts S' (need (b.drop (k + 1)) c)).map sT)), some (false, .int c), some (false, .int k), some (false, t)], ?_, _, true, _, _, rfl, e, hgd, by omega⟩
    subst et
    have a1 : min (k + 1) b.length = k + 1 := by omega
    have a2 : (bT b).drop (k + 1) = bT (b.drop (k + 1)) := by rw [bT_map, bT_map, List.map_drop]
    simp -implicitDefEqProofs [a1, a2, h2, h1]
  · obtain ⟨S', q', j1, j2, rfl, e, hg', hl'⟩ := i
    rw [bT_len, List.drop_length, blk] at e
    have := hlow S' q' hg' hl'
    simp -implicitDefEqProofs [this, e]
/-- a row that is no choice -/
theorem rs_simple {r : Rw} {m : Nat} (S : List (List Int)) (q : Bool) (c : Int) (d : Nat) (st : St) (hr : r.simple m) (hd : r.dp + 4 ≤ d) (ho : r.ok m) (hm : m = 1 ∨ m = 2) (hg : Gd m S) (hl : S.length < 4000) (hc : 0 ≤ c) (h33 : r.need c ≤ 33)
    (ex : ∃ k x, r.t = .tup (.sym k :: x) ∧ k ≠ 1 ∧ k ≠ 2 ∧ k ≠ 7) : C d 16 [r.t, sqT q (S.map sT), .int c] st = .ok (false, .tup ((low ((low S (r.need c)).flatMap (r.step c)) c).map sT), st) := by
  have h8 := dp_8 r
  obtain ⟨d, rfl⟩ : ∃ k, d = k + 6 := ⟨d - 6, by omega⟩
  have hn0 : 0 ≤ r.need c := Int.le_trans hc (Rw.need_ge r c)
  have hn := nr r (d + 5) c st (by omega)
  have hl1 := m_lowered q (r.need c) (d + 4) st hg.wd (by omega) (by omega) (by omega) (low_few hm hg hn0 h33)
  have g1 := low_gd hg hn0
  have f1 := low_few hm hg hn0 h33
  have hs := m_simpleStates true hr g1.wd (by omega) (by omega) c (d + 1) st
  have g2 := step_gd hr g1 hc
  have f2 := low_few hm g2 hc (Int.le_trans (Rw.need_ge r c) h33)
  have hlen : ((low S (r.need c)).flatMap (r.step c)).length ≤ 16777216 := by
    have : ∀ p : List (List Int), (p.flatMap (r.step c)).length ≤ 3 * p.length := by
      intro p
      induction p with
      | nil => exact Nat.le_refl _
      | cons s p ih =>
        have := nums_len hr s c
        rw [List.flatMap_cons, List.length_append, List.length_cons]
        have e : (r.step c s).length = (r.nums s c).length := by unfold Rw.step; rw [List.length_map]
        omega
    have := this (low S (r.need c))
    omega
  have hl2 := m_lowered false c (d + 4) st g2.wd (by omega) (by omega) hlen f2
  rw [call_ir (show P 16 = Df.ir _ from rfl)]
  generalize C (d + 5) = cc at hn hl1 hs hl2 ⊢
  obtain ⟨k, x, ex, k1, k2, k7⟩ := ex
  have e0 : itemOf st r.t (.int 0) = some (.sym k) := by rw [ex]; simp -implicitDefEqProofs []
  have hs : cc 15 [r.t, .tup ((low S (r.need c)).map sT), .int c] st = _ := hs
  have hl2 : cc 9 [.lst _, .int c] st = _ := hl2
  simp -implicitDefEqProofs [d_row_states, hn, hl1, e0, k1, k2, k7, hs, hl2]
theorem filt_len (S : List (List Int)) (p : List Int → Bool) : (S.filter p).length ≤ S.length := List.length_filter_le ..
theorem rs : ∀ r, RS r := by
  refine Rw.ind (fun w n => ?_) (fun w n => ?_) (fun w n => ?_) (fun w n => ?_) (fun w n => ?_) (fun t => ?_) (fun t a b ha hb => ?_) (fun u a b ha hb => ?_)
  all_goals intro m S q c d st hd ho hm hg hl hc h33
  · exact rs_simple (r := .set w n) S q c d st ho hd ho hm hg hl hc h33 ⟨_, _, rfl, by decide, by decide, by decide⟩
  · exact rs_simple (r := .add w n) S q c d st ho hd ho hm hg hl hc h33 ⟨_, _, rfl, by decide, by decide, by decide⟩
  · exact rs_simple (r := .less w n) S q c d st ho hd ho hm hg hl hc h33 ⟨_, _, rfl, by decide, by decide, by decide⟩
  · exact rs_simple (r := .copy w n) S q c d st ho hd ho hm hg hl hc h33 ⟨_, _, rfl, by decide, by decide, by decide⟩
  · exact rs_simple (r := .draw w n) S q c d st ho hd ho hm hg hl hc h33 ⟨_, _, rfl, by decide, by decide, by decide⟩
  · have hd0 := hd
    simp only [Rw.dp] at hd
    obtain ⟨d, rfl⟩ : ∃ k, d = k + 6 := ⟨d - 6, by omega⟩
    have hn0 : 0 ≤ (Rw.given t).need c := Int.le_trans hc (Rw.need_ge (.given t) c)
    have hn := nr (.given t) (d + 5) c st (by simp only [Rw.dp]; omega)
    have hl1 := m_lowered q ((Rw.given t).need c) (d + 4) st hg.wd (by omega) (by omega) (by omega) (low_few hm hg hn0 h33)
    have g1 := low_gd hg hn0
    have f1 := low_few hm hg hn0 h33
    have g2 := g1.filter (holdsIn t ((Rw.given t).need c))
    have f2 := low_few hm g2 hc (Int.le_trans (Rw.need_ge (.given t) c) h33)
    have z2 := filt_len (low S ((Rw.given t).need c)) (holdsIn t ((Rw.given t).need c))
    have hl2 := m_lowered false c (d + 4) st g2.wd (by omega) (by omega) (by omega) f2
    have hh := fun s (hs : s ∈ low S ((Rw.given t).need c)) => m_holds_in t ((Rw.given t).need c) s (d + 4) st (by omega) (by rw [(g1 s hs).1]; exact ho) (by rw [(g1 s hs).1]; omega)
    rw [call_ir (show P 16 = Df.ir _ from rfl)]
    generalize C (d + 5) = cc at hn hl1 hh hl2 ⊢
    rw [Rw.sts]
    generalize (Rw.given t).need c = n at hn hl1 hh hl2 z2 f1 ⊢
    have hl2 : cc 9 [.lst _, .int c] st = _ := hl2
    have et : (Rw.given t).t = .tup [.sym 7, t.t] := by rw [Rw.t]
    rw [et] at hn ⊢
    simp -implicitDefEqProofs [d_row_states, hn, hl1]
    rw [compL_if (holdsIn t n) sT sT (low S n) fun s hs => by
      cases z : t.holds (farTo n s) <;> simp -implicitDefEqProofs [hh s hs, holdsIn, z]]
    have z3 : (List.filter (holdsIn t n) (low S n)).length ≤ 16777216 := by omega
    simp -implicitDefEqProofs [z3, hl2]
  · have hd0 := hd
    simp only [Rw.dp] at hd
    obtain ⟨d, rfl⟩ : ∃ k, d = k + 6 := ⟨d - 6, by omega⟩
    have hn := nr (.ite t a b) (d + 5) c st (by simp only [Rw.dp]; omega)
    have hna : need a c ≤ (Rw.ite t a b).need c := by rw [Rw.need]; exact (maxI_ge [need a c, need b c] t.cap).2 _ (by simp)
    have hnb : need b c ≤ (Rw.ite t a b).need c := by rw [Rw.need]; exact (maxI_ge [need a c, need b c] t.cap).2 _ (by simp)
    have hge := Rw.need_ge (.ite t a b) c
    have en : (Rw.ite t a b).need c = maxI t.cap [need a c, need b c] := by rw [Rw.need]
    rw [Rw.sts]
    rw [← en]
    generalize (Rw.ite t a b).need c = n at *
    have hn0 : 0 ≤ n := by omega
    have hl1 := m_lowered q n (d + 4) st hg.wd (by omega) (by omega) (by omega) (low_few hm hg hn0 h33)
    have g1 := low_gd hg hn0
    have f1 := low_few hm hg hn0 h33
    have g2 := g1.filter (holdsIn t n)
    have g3 := g1.filter (fun s => !holdsIn t n s)
    have z2 := filt_len (low S n) (holdsIn t n)
    have z3 := filt_len (low S n) (fun s => !holdsIn t n s)
    have b1 := bs_of ha m _ false c (d + 5) st (by omega) ho.2.1 hm g2 (by omega) hc (by omega)
    have b2 := bs_of hb m _ false c (d + 5) st (by omega) ho.2.2 hm g3 (by omega) hc (by omega)
    have y1 := blk_gd a ho.2.1 _ c g2 hc
    have y2 := blk_gd b ho.2.2 _ c g3 hc
    have x1 := blk_few hm a ho.2.1 _ c g2 hc (by omega)
    have x2 := blk_few hm b ho.2.2 _ c g3 hc (by omega)
    have g4 := y1.app y2
    have z4 : (blk a ((low S n).filter (holdsIn t n)) c ++ blk b ((low S n).filter (fun s => !holdsIn t n s)) c).length ≤ 16777216 := by rw [List.length_append]; omega
    have z5 : (blk a ((low S n).filter (holdsIn t n)) c).length + (blk b ((low S n).filter (fun s => !holdsIn t n s)) c).length ≤ 16777216 := by omega
    have hl2 := m_lowered true c (d + 4) st g4.wd (by omega) (by omega) z4 (low_few hm g4 hc (by omega))
    have hh := fun s (hs : s ∈ low S n) => m_holds_in t n s (d + 4) st (by omega) (by rw [(g1 s hs).1]; exact ho.1) (by rw [(g1 s hs).1]; omega)
    have et : (Rw.ite t a b).t = .tup [.sym 2, t.t, .tup (bT a), .tup (bT b)] := by rw [Rw.t]
    rw [et] at hn ⊢
    rw [call_ir (show P 16 = Df.ir _ from rfl)]
    generalize C (d + 5) = cc at hn hl1 hh hl2 b1 b2 ⊢
    have hl2 : cc 9 [.tup _, .int c] st = _ := hl2
    have b1 : cc 17 [.tup (bT a), .lst _, .int c] st = _ := b1
    have b2 : cc 17 [.tup (bT b), .lst _, .int c] st = _ := b2
    rw [List.map_append] at hl2
    simp -implicitDefEqProofs [d_row_states, hn, hl1]
    rw [compL_if (holdsIn t n) sT sT (low S n) fun s hs => by
      cases z : t.holds (farTo n s) <;> simp -implicitDefEqProofs [hh s hs, holdsIn, z]]
    have z6 : (List.filter (holdsIn t n) (low S n)).length ≤ 16777216 := by omega
    simp -implicitDefEqProofs [z6]
    rw [compL_if (fun s => !holdsIn t n s) sT sT (low S n) fun s hs => by
      cases z : t.holds (farTo n s) <;> simp -implicitDefEqProofs [hh s hs, holdsIn, z]]
    have z7 : (List.filter (fun s => !holdsIn t n s) (low S n)).length ≤ 16777216 := by omega
    simp -implicitDefEqProofs [z7, b1, b2, z5, hl2]
  · have hd0 := hd
    simp only [Rw.dp] at hd
    obtain ⟨d, rfl⟩ : ∃ k, d = k + 6 := ⟨d - 6, by omega⟩
    have hn := nr (.alt u a b) (d + 5) c st (by simp only [Rw.dp]; omega)
    have hna : need a c ≤ (Rw.alt u a b).need c := by rw [Rw.need]; split <;> omega
    have hnb : need b c ≤ (Rw.alt u a b).need c := by rw [Rw.need]; split <;> omega
    have hge := Rw.need_ge (.alt u a b) c
    have en : (Rw.alt u a b).need c = if need b c > need a c then need b c else need a c := by rw [Rw.need]
    rw [Rw.sts]
    rw [← en]
    generalize (Rw.alt u a b).need c = n at *
    have hn0 : 0 ≤ n := by omega
    have hl1 := m_lowered q n (d + 4) st hg.wd (by omega) (by omega) (by omega) (low_few hm hg hn0 h33)
    have g1 := low_gd hg hn0
    have f1 := low_few hm hg hn0 h33
    have b1 := bs_of ha m _ true c (d + 5) st (by omega) ho.1 hm g1 (by omega) hc (by omega)
    have b2 := bs_of hb m _ true c (d + 5) st (by omega) ho.2 hm g1 (by omega) hc (by omega)
    have y1 := blk_gd a ho.1 _ c g1 hc
    have y2 := blk_gd b ho.2 _ c g1 hc
    have x1 := blk_few hm a ho.1 _ c g1 hc (by omega)
    have x2 := blk_few hm b ho.2 _ c g1 hc (by omega)
    have g4 := y1.app y2
    have z4 : (blk a (low S n) c ++ blk b (low S n) c).length ≤ 16777216 := by rw [List.length_append]; omega
    have z5 : (blk a (low S n) c).length + (blk b (low S n) c).length ≤ 16777216 := by omega
    have hl2 := m_lowered true c (d + 4) st g4.wd (by omega) (by omega) z4 (low_few hm g4 hc (by omega))
    have et : (Rw.alt u a b).t = .tup [.sym 1, u, .tup (bT a), .tup (bT b)] := by rw [Rw.t]
    rw [et] at hn ⊢
    rw [call_ir (show P 16 = Df.ir _ from rfl)]
    generalize C (d + 5) = cc at hn hl1 hl2 b1 b2 ⊢
    have hl2 : cc 9 [.tup _, .int c] st = _ := hl2
    have b1 : cc 17 [.tup (bT a), .tup _, .int c] st = _ := b1
    have b2 : cc 17 [.tup (bT b), .tup _, .int c] st = _ := b2
    rw [List.map_append] at hl2
    simp -implicitDefEqProofs [d_row_states, hn, hl1, b1, b2, z5, hl2]
theorem m_block (b : List Rw) : BS b := bs_of fun r _ => rs r
end K82
end

section
set_option autoImplicit false
set_option linter.all false
set_option maxRecDepth 100000
set_option maxHeartbeats 2000000
/-! M6: ends, states_behind, sure_in. -/
namespace K82
open Ev
theorem wids_len {b : List Rw} (h : wids b) : b.length < 1000 := by
  cases b with
  | nil => exact Nat.succ_pos _
  | cons r b => rw [wids] at h; rw [List.length_cons]; omega
theorem wids_mem : ∀ {b : List Rw}, wids b → ∀ r ∈ b, r.wid
  | x :: b, h, r, hr => by
    rw [wids] at h
    rcases List.mem_cons.mp hr with e | hr
    · rw [e]; exact h.2.1
    · exact wids_mem h.2.2 r hr
theorem m_lneed : ∀ b : List Rw, wids b → NL b := by
  have key : ∀ r : Rw, r.wid → SubL r := by
    refine Rw.ind (fun w n _ => ?_) (fun w n _ => ?_) (fun w n _ => ?_) (fun w n _ => ?_) (fun w n _ => ?_) (fun t _ => ?_) (fun t a b ha hb h => ?_) (fun u a b ha hb h => ?_)
    · exact ⟨fun _ _ _ h => (by cases h), fun _ _ _ h => (by cases h)⟩
    · exact ⟨fun _ _ _ h => (by cases h), fun _ _ _ h => (by cases h)⟩
    · exact ⟨fun _ _ _ h => (by cases h), fun _ _ _ h => (by cases h)⟩
    · exact ⟨fun _ _ _ h => (by cases h), fun _ _ _ h => (by cases h)⟩
    · exact ⟨fun _ _ _ h => (by cases h), fun _ _ _ h => (by cases h)⟩
    · exact ⟨fun _ _ _ h => (by cases h), fun _ _ _ h => (by cases h)⟩
    · rw [Rw.wid] at h
      refine ⟨fun t' a' b' e => ?_, fun _ _ _ h => (by cases h)⟩
      cases e
      exact ⟨lneed_of (wids_len h.1) fun r hr => ha r hr (wids_mem h.1 r hr), lneed_of (wids_len h.2) fun r hr => hb r hr (wids_mem h.2 r hr)⟩
    · rw [Rw.wid] at h
      refine ⟨fun _ _ _ h => (by cases h), fun t' a' b' e => ?_⟩
      cases e
      exact ⟨lneed_of (wids_len h.1) fun r hr => ha r hr (wids_mem h.1 r hr), lneed_of (wids_len h.2) fun r hr => hb r hr (wids_mem h.2 r hr)⟩
  exact fun b h => lneed_of (wids_len h) fun r hr => key r (wids_mem h r hr)
/-! ### put_loops -/
def PL (b : List Rw) : Prop := ∀ d pr st, dps b ≤ d → C (d + 1) 7 [.tup (bT b), pr] st = .ok (false, .tup (bT b), st)
def SubP (r : Rw) : Prop := ∀ d pr st, r.dp ≤ d → (∀ t a b, r = .ite t a b → C d 7 [.tup (bT a), pr] st = .ok (false, .tup (bT a), st) ∧ C d 7 [.tup (bT b), pr] st = .ok (false, .tup (bT b), st)) ∧
  ∀ t a b, r = .alt t a b → C d 7 [.tup (bT a), pr] st = .ok (false, .tup (bT a), st) ∧ C d 7 [.tup (bT b), pr] st = .ok (false, .tup (bT b), st)
theorem put_turn (cc : Cal) (r : Rw) (q pr : T) (st : St) (acc : List T) (j : Option (Bool × T)) (hz : acc.length < 16777216)
    (h1 : ∀ t a b, r = .ite t a b → cc 7 [.tup (bT a), pr] st = .ok (false, .tup (bT a), st) ∧ cc 7 [.tup (bT b), pr] st = .ok (false, .tup (bT b), st))
    (h2 : ∀ t a b, r = .alt t a b → cc 7 [.tup (bT a), pr] st = .ok (false, .tup (bT a), st) ∧ cc 7 [.tup (bT b), pr] st = .ok (false, .tup (bT b), st)) :
    evSs cc 200 (d_put_loops.loop 1) [some (false, q), some (false, pr), some (true, .lst acc), some (false, r.t)] st = .nx [some (false, q), some (false, pr), some (true, .lst (acc ++ [r.t])), some (false, r.t)] st := by
  unfold Fd.loop d_put_loops
  cases r with
  | ite t a b =>
    obtain ⟨e1, e2⟩ := h1 t a b rfl
    simp -implicitDefEqProofs [S.bd, Rw.t, e1, e2, hz]
  | alt t a b =>
    obtain ⟨e1, e2⟩ := h2 t a b rfl
    simp -implicitDefEqProofs [S.bd, Rw.t, e1, e2, hz]
  | _ => simp -implicitDefEqProofs [S.bd, Rw.t, hz]
theorem put_of {b : List Rw} (hz : b.length < 1000) (h : ∀ r ∈ b, SubP r) : PL b := by
  intro d pr st hd
  rw [call_ir (show P 7 = Df.ir _ from rfl)]
  have h := fun r (hr : r ∈ b) => h r hr d pr st (Nat.le_trans (dps_mem hr) hd)
  generalize C d = cc at h ⊢
  simp -implicitDefEqProofs [d_put_loops]
  rw [bT_map]
  refine forL_pk (fun z => fin (kSt _ _ _ (F.lk _ z)) = _) Rw.t b (fun p Γ => ∃ j, Γ = [some (false, .tup (b.map Rw.t)), some (false, pr), some (true, .lst (p.map Rw.t)), j]) _ ⟨none, rfl⟩ (fun p r post Γ e i => ?_) fun Γ' i => ?_
  · obtain ⟨j, rfl⟩ := i
    have hr : r ∈ b := by rw [e]; simp
    have hl : p.length ≤ b.length := by rw [e, List.length_append]; omega
    refine ⟨_, (fB_eq).trans (put_turn cc r _ pr st _ j (by rw [List.length_map]; omega) (h r hr).1 (h r hr).2), some (false, r.t), ?_⟩
    rw [List.map_append]; rfl
  · obtain ⟨j, rfl⟩ := i
    simp -implicitDefEqProofs []
theorem m_put : ∀ b : List Rw, wids b → PL b := by
  have key : ∀ r : Rw, r.wid → SubP r := by
    refine Rw.ind (fun w n _ => ?_) (fun w n _ => ?_) (fun w n _ => ?_) (fun w n _ => ?_) (fun w n _ => ?_) (fun t _ => ?_) (fun t a b ha hb h => ?_) (fun u a b ha hb h => ?_)
    all_goals intro d pr st hd
    · exact ⟨fun _ _ _ h => (by cases h), fun _ _ _ h => (by cases h)⟩
    · exact ⟨fun _ _ _ h => (by cases h), fun _ _ _ h => (by cases h)⟩
    · exact ⟨fun _ _ _ h => (by cases h), fun _ _ _ h => (by cases h)⟩
    · exact ⟨fun _ _ _ h => (by cases h), fun _ _ _ h => (by cases h)⟩
    · exact ⟨fun _ _ _ h => (by cases h), fun _ _ _ h => (by cases h)⟩
    · exact ⟨fun _ _ _ h => (by cases h), fun _ _ _ h => (by cases h)⟩
    · rw [Rw.wid] at h
      simp only [Rw.dp] at hd
      obtain ⟨d, rfl⟩ : ∃ k, d = k + 1 := ⟨d - 1, by omega⟩
      refine ⟨fun t' a' b' e => ?_, fun _ _ _ h => (by cases h)⟩
      cases e
      exact ⟨put_of (wids_len h.1) (fun r hr => ha r hr (wids_mem h.1 r hr)) d pr st (by omega), put_of (wids_len h.2) (fun r hr => hb r hr (wids_mem h.2 r hr)) d pr st (by omega)⟩
    · rw [Rw.wid] at h
      simp only [Rw.dp] at hd
      obtain ⟨d, rfl⟩ : ∃ k, d = k + 1 := ⟨d - 1, by omega⟩
      refine ⟨fun _ _ _ h => (by cases h), fun t' a' b' e => ?_⟩
      cases e
      exact ⟨put_of (wids_len h.1) (fun r hr => ha r hr (wids_mem h.1 r hr)) d pr st (by omega), put_of (wids_len h.2) (fun r hr => hb r hr (wids_mem h.2 r hr)) d pr st (by omega)⟩
  exact fun b h => put_of (wids_len h) fun r hr => key r (wids_mem h r hr)
/-! ### programs -/
def wT (m : Nat) : T := .tup (match m with
  | 1 => [.sym 21]
  | _ => [.sym 21, .sym 22])
def pgT (m : Nat) (b : List Rw) : T := .tup [.sym 20, .xt [], wT m, .xt [], .xt [], .xt [], .tup (bT b)]
theorem m_withB (m : Nat) (b l : List Rw) (d : Nat) (st : St) : C (d + 1) 59 [pgT m b, .tup (bT l)] st = .ok (false, pgT m l, st) := by
  rw [call_ir (show P 59 = Df.ir _ from rfl)]
  simp -implicitDefEqProofs [d_with_block_blocks, pgT]
theorem m_promised (m : Nat) (b : List Rw) (hw : wids b) (d : Nat) (st : St) (hd : dps b ≤ d) : ∃ x, C (d + 2) 8 [pgT m b] st = .ok (false, .tup [.sym 20, .xt [], wT m, .tup [], .tup [], .tup [], .tup (bT b)], st) ∧ x = () := by
  rw [call_ir (show P 8 = Df.ir _ from rfl)]
  have h1 := m_put b hw d (.dK [] []) st hd
  have h2 : C (d + 1) 60 [pgT m b, .tup (bT b)] st = .ok (false, .tup [.sym 20, .xt [], wT m, .tup [], .tup [], .tup [], .tup (bT b)], st) := by
    rw [call_ir (show P 60 = Df.ir _ from rfl)]
    simp -implicitDefEqProofs [d_with_block_promises, pgT]
  generalize C (d + 1) = cc at h1 h2 ⊢
  refine ⟨(), ?_, rfl⟩
  unfold pgT at h2 ⊢
  simp -implicitDefEqProofs [d_promised, h1, h2]
/-! ### regions -/
def farL (n : Nat) : List Int := (List.range (n + 1)).map fun k : Nat => (-1 + (k : Int))
theorem mem_farL {n : Nat} {x : Int} : x ∈ farL n ↔ x ∈ far n := by
  rw [mem_far]
  unfold farL
  rw [List.mem_map]
  constructor
  · rintro ⟨k, hk, rfl⟩
    have := List.mem_range.mp hk
    omega
  · rintro ⟨h1, h2⟩
    exact ⟨(x + 1).toNat, List.mem_range.mpr (by omega), by omega⟩
theorem rng_far (n : Nat) : rangeT (-1) (n + 1) = itsL (farL n) := by
  unfold rangeT itsL farL
  rw [List.map_map]; rfl
def regs (m n : Nat) : List (List Int) := match m with
  | 1 => (farL n).map fun x => [x]
  | _ => (farL n).flatMap fun x => (farL n).map fun y => [x, y]
theorem farL_len (n : Nat) : (farL n).length = n + 1 := by unfold farL; simp
theorem flat_len {α β : Type} (k : Nat) (f : α → List β) : ∀ l : List α, (∀ a ∈ l, (f a).length = k) → (l.flatMap f).length = l.length * k
  | [], _ => by simp
  | a :: l, h => by
    rw [List.flatMap_cons, List.length_append, h a List.mem_cons_self, flat_len k f l fun b hb => h b (List.mem_cons_of_mem _ hb), List.length_cons, Nat.add_mul, Nat.one_mul, Nat.add_comm]
theorem regs_len {m n : Nat} (hm : m = 1 ∨ m = 2) : (regs m n).length ≤ (n + 1) * (n + 1) := by
  rcases hm with rfl | rfl
  · show ((farL n).map fun x => [x]).length ≤ _
    rw [List.length_map, farL_len]
    exact Nat.le_mul_of_pos_left _ (by omega)
  · show ((farL n).flatMap fun x => (farL n).map fun y => [x, y]).length ≤ _
    rw [flat_len (n + 1) _ _ fun a _ => by rw [List.length_map, farL_len], farL_len]
    exact Nat.le_refl _
theorem mem_regs {m n : Nat} (hm : m = 1 ∨ m = 2) {s : List Int} : s ∈ regs m n ↔ s.length = m ∧ ∀ x ∈ s, x ∈ far n := by
  rcases hm with rfl | rfl
  · show s ∈ (farL n).map (fun x => [x]) ↔ _
    rw [List.mem_map]
    constructor
    · rintro ⟨x, hx, rfl⟩
      exact ⟨rfl, fun y hy => by rw [List.mem_singleton.mp hy]; exact mem_farL.mp hx⟩
    · rintro ⟨h1, h2⟩
      match s, h1 with
      | [x], _ => exact ⟨x, mem_farL.mpr (h2 x (by simp)), rfl⟩
  · show s ∈ (farL n).flatMap (fun x => (farL n).map fun y => [x, y]) ↔ _
    rw [List.mem_flatMap]
    constructor
    · rintro ⟨x, hx, h⟩
      obtain ⟨y, hy, rfl⟩ := List.mem_map.mp h
      refine ⟨rfl, fun z hz => ?_⟩
      rcases List.mem_cons.mp hz with e | hz
      · rw [e]; exact mem_farL.mp hx
      · rw [List.mem_singleton.mp hz]; exact mem_farL.mp hy
    · rintro ⟨h1, h2⟩
      match s, h1 with
      | [x, y], _ => exact ⟨x, mem_farL.mpr (h2 x (by simp)), List.mem_map.mpr ⟨y, mem_farL.mpr (h2 y (by simp)), rfl⟩⟩
theorem reg_in (cc : Cal) (s : List Int) (x : Int) (Γ : Env) (a b c d e : Option (Bool × T)) (st : St) (h : s.length ≤ 10) :
    cI cc [5] (.n 5) (.b .add (.v 4) (.tup [.v 5])) [a, b, c, d, some (false, sT s), e] (.int x) st = .ok ([sT (s ++ [x])], st) := by
  have h' : s.length + 1 ≤ 16777216 := by omega
  simp -implicitDefEqProofs [sT, h']
  unfold itsL
  simp -implicitDefEqProofs []
theorem reg_turn (cc : Cal) (S : List (List Int)) (n : Nat) (a j : Option (Bool × T)) (st : St) (hn : n ≤ 33) (hl : ∀ s ∈ S, s.length ≤ 10) (hS : S.length ≤ 100) :
    evSs cc 200 (d_regions.loop 1) [a, some (false, .int (n : Int)), some (true, .lst (S.map sT)), j, none, none] st = .nx [a, some (false, .int (n : Int)), some (true, .lst ((S.flatMap fun s => (farL n).map fun x => s ++ [x]).map sT)), j, none, none] st := by
  unfold Fd.loop d_regions
  have e1 : kR3 (.int (-1)) (.ok (false, .int (n : Int), st)) = .ok (itsL (farL n), st) := by
    rw [kR3_n (m := -1) (n := n) (by decide) (by decide) (by omega), ← rng_far]
    have : ((n : Int) - -1).toNat = n + 1 := by omega
    rw [this]
  simp -implicitDefEqProofs [Ev.S.bd]
  rw [compL_flat (fun s => (farL n).map fun x => sT (s ++ [x])) sT S fun s hs => ?_]
  · have e2 : (S.flatMap fun s => (farL n).map fun x => sT (s ++ [x])) = (S.flatMap fun s => (farL n).map fun x => s ++ [x]).map sT := by
      have ef : (fun s : List Int => (farL n).map fun x => sT (s ++ [x])) = fun s => ((farL n).map fun x => s ++ [x]).map sT := funext fun s => by rw [List.map_map]; rfl
      rw [List.map_flatMap, ef]
    have e3 : ((S.flatMap fun s => (farL n).map fun x => s ++ [x])).length ≤ 16777216 := by
      rw [flat_len (n + 1) _ _ fun a _ => by rw [List.length_map, farL_len]]
      have := Nat.mul_le_mul hS (show n + 1 ≤ 34 by omega)
      omega
    rw [e2]
    rw [← List.length_map (f := sT)] at e3
    generalize (S.flatMap fun s => (farL n).map fun x => s ++ [x]).map sT = l at e3 ⊢
    simp -implicitDefEqProofs [e3]
  · simp -implicitDefEqProofs [e1]
    unfold itsL
    rw [compL_map (fun x => sT (s ++ [x])) T.int (farL n) fun x hx => reg_in cc s x [] _ _ _ _ _ st (hl s hs)]
def grow (n : Nat) : Nat → List (List Int)
  | 0 => [[]]
  | k + 1 => (grow n k).flatMap fun s => (farL n).map fun x => s ++ [x]
theorem grow_regs {m : Nat} (hm : m = 1 ∨ m = 2) (n : Nat) : grow n m = regs m n := by
  rcases hm with rfl | rfl
  · simp [grow, regs]
  · simp [grow, regs, List.flatMap_map]
theorem grow_len (n : Nat) : ∀ k, ∀ s ∈ grow n k, s.length = k
  | 0, s, h => by rw [grow, List.mem_singleton] at h; rw [h]; rfl
  | k + 1, s, h => by
    rw [grow] at h
    obtain ⟨u, hu, h⟩ := List.mem_flatMap.mp h
    obtain ⟨x, hx, rfl⟩ := List.mem_map.mp h
    rw [List.length_append, grow_len n k u hu]; rfl
theorem m_regions {m : Nat} (hm : m = 1 ∨ m = 2) (n : Nat) (hn : n ≤ 33) (d : Nat) (st : St) : C (d + 1) 4 [.int (m : Int), .int (n : Int)] st = .ok (false, .tup ((regs m n).map sT), st) := by
  rw [call_ir (show P 4 = Df.ir _ from rfl)]
  generalize C d = cc
  have hz : m < 4000000000 := by omega
  simp -implicitDefEqProofs [d_regions, hz]
  refine forL_rk (fun z => fin (kSt _ _ _ (F.lk _ z)) = _) (fun k Γ => ∃ j, Γ = [some (false, .int (m : Int)), some (false, .int (n : Int)), some (true, .lst ((grow n k).map sT)), j, none, none]) m _ ⟨none, rfl⟩ (fun k Γ hk i => ?_) fun Γ' i => ?_
  · obtain ⟨j, rfl⟩ := i
    have hl : (grow n k).length ≤ 100 := by
      have : k = 0 ∨ k = 1 := by omega
      rcases this with rfl | rfl
      · simp [grow]
      · simp [grow, farL_len]; omega
    exact ⟨_, fB_eq.trans (reg_turn cc (grow n k) n _ (some (false, .int (k : Int))) st hn (fun s hs => by rw [grow_len n k s hs]; omega) hl), some (false, .int (k : Int)), by rw [grow]⟩
  · obtain ⟨j, rfl⟩ := i
    simp -implicitDefEqProofs [grow_regs hm]
end K82
end

section
set_option autoImplicit false
set_option linter.all false
set_option maxRecDepth 100000
set_option maxHeartbeats 2000000
/-! M7: ends, states_behind, sure. -/
namespace K82
open Ev
theorem blk_box {m : Nat} (hm : m = 1 ∨ m = 2) : ∀ (b : List Rw), oks m b → ∀ (S : List (List Int)) (c : Int), Gd m S → 0 ≤ c → ∀ s ∈ blk b S c, s.length = m ∧ ∀ x ∈ s, x ∈ far c.toNat
  | [], _, S, c, h, hc, s, hs => by
    rw [blk] at hs
    obtain ⟨u, hu, rfl⟩ := mem_low.mp hs
    exact ⟨by rw [cutN_len]; exact (h u hu).1, cut_far (h u hu).2 hc⟩
  | r :: b, ho, S, c, h, hc, s, hs => blk_box hm b ho.2 _ c (Rw.sts_gd r ho.1 S _ h (Int.le_trans hc (need_ge b c))) hc s hs
def endT (b : List Rw) (r : List Int) : T := .tup [sT r, .tup ((blk b [r] 10).map sT)]
theorem m_ends {m : Nat} (hm : m = 1 ∨ m = 2) (b : List Rw) (hw : wids b) (ho : oks m b) (h33 : need b 10 ≤ 33) (d : Nat) (st : St) (hd : dps b + 8 ≤ d) :
    C d 18 [pgT m b, (Te.eq 0 9).t] st = .ok (false, .tup [.int (need b 10), .tup ((regs m (need b 10).toNat).map (endT b))], st) := by
  obtain ⟨d, rfl⟩ : ∃ k, d = k + 3 := ⟨d - 3, by omega⟩
  rw [call_ir (show P 18 = Df.ir _ from rfl)]
  obtain ⟨_, h1, _⟩ := m_promised m b hw d st (by omega)
  have h2 := m_cap (Te.eq 0 9) (d + 2) st (by simp only [Te.dp]; omega)
  have h3 := m_need b (d + 1) 10 st (by omega)
  have hge := need_ge b 10
  have h4 := m_regions hm (need b 10).toNat (by omega) (d + 1) st
  have e4 : (((need b 10).toNat : Nat) : Int) = need b 10 := by omega
  rw [e4] at h4
  have h5 := fun r (hr : r ∈ regs m (need b 10).toNat) => m_block b m [r] true 10 (d + 2) st (by omega) ho hm (fun s hs => by
    rw [List.mem_singleton.mp hs]
    have := (mem_regs hm).mp hr
    exact ⟨this.1, fun x hx => (mem_far.mp (this.2 x hx)).1⟩) (by simp) (by decide) h33
  have hrl := regs_len (n := (need b 10).toNat) hm
  have hrl2 : (regs m (need b 10).toNat).length ≤ 34 * 34 := Nat.le_trans hrl (Nat.mul_le_mul (by omega) (by omega))
  have ecap : (Te.eq 0 9).cap = 10 := rfl
  rw [ecap] at h2
  generalize C (d + 2) = cc at h1 h2 h3 h4 h5 ⊢
  generalize (Te.eq 0 9).t = tt at h2 ⊢
  generalize regs m (need b 10).toNat = R at *
  generalize need b 10 = n at *
  unfold pgT at h1 ⊢
  have ew : lenOf st (wT m) = some m := by rcases hm with rfl | rfl <;> rfl
  simp -implicitDefEqProofs [d_ends, h1, h2, h3, ew, h4]
  rw [compL_map (endT b) sT R fun r hr => by
    have h5' : cc 17 [.tup (bT b), .tup [sT r], .int 10] st = _ := h5 r hr
    simp -implicitDefEqProofs [h5', endT]]
  have hz : R.length ≤ 16777216 := by omega
  simp -implicitDefEqProofs [hz]
/-! ### dicts of states -/
def kl (s : List Int) : List Ky := s.map Ky.i
theorem kysOf_ints : ∀ s : List Int, kysOf (itsL s) = some (kl s)
  | [] => rfl
  | x :: s => by
    show (kyOf (.int x)).bind (fun k => (kysOf (itsL s)).map fun ks => k :: ks) = _
    rw [kysOf_ints s]; rfl
theorem kl_inj : ∀ {s u : List Int}, kl s = kl u → s = u
  | [], [], _ => rfl
  | [], _ :: _, h => by cases h
  | _ :: _, [], h => by cases h
  | x :: s, y :: u, h => by
    have h1 : Ky.i x :: kl s = Ky.i y :: kl u := h
    injection h1 with h1 h2
    injection h1 with h1
    rw [h1, kl_inj h2]
theorem kTup_kl (s : List Int) : kTup (kl s) = sT s := by
  unfold kTup kl sT itsL
  rw [List.map_map]; rfl
def tr (S : List (List Int)) : List T := S.map fun _ => T.bl true
def put1 (S : List (List Int)) (s : List Int) : List (List Int) := if s ∈ S then S else S ++ [s]
def puts (S l : List (List Int)) : List (List Int) := l.foldl put1 S
def dkT (S : List (List Int)) : T := .dT (S.map kl) (tr S)
theorem mem_kl {s : List Int} {S : List (List Int)} : kl s ∈ S.map kl ↔ s ∈ S := by
  rw [List.mem_map]
  constructor
  · rintro ⟨u, hu, e⟩
    rw [← kl_inj e]; exact hu
  · exact fun h => ⟨s, h, rfl⟩
theorem dRep_tr (k : List Ky) : ∀ S : List (List Int), dRep (S.map kl) (tr S) k (.bl true) = tr S
  | [] => rfl
  | s :: S => by
    show (if kl s = k then T.bl true else T.bl true) :: dRep (S.map kl) (tr S) k (.bl true) = _
    rw [dRep_tr k S, ite_self]; rfl
theorem dPut_tr (S : List (List Int)) (s : List Int) : dPut (S.map kl) (tr S) (kl s) (.bl true) = ((put1 S s).map kl, tr (put1 S s)) := by
  unfold dPut put1
  by_cases h : s ∈ S
  · rw [if_pos (mem_kl.mpr h), if_pos h, dRep_tr]
  · rw [if_neg (fun z => h (mem_kl.mp z)), if_neg h]
    unfold tr
    rw [List.map_append, List.map_append]; rfl
theorem dPuts_tr (l : List (List Int)) : ∀ S : List (List Int), dPuts (S.map kl) (tr S) (l.map kl) (tr l) = ((puts S l).map kl, tr (puts S l)) := by
  induction l with
  | nil => intro S; simp [puts, tr, dPuts]
  | cons s l ih =>
    intro S
    show dPuts (dPut (S.map kl) (tr S) (kl s) (.bl true)).1 (dPut (S.map kl) (tr S) (kl s) (.bl true)).2 (l.map kl) (tr l) = _
    rw [dPut_tr, ih]; rfl
theorem mem_put1 {S : List (List Int)} {s x : List Int} : x ∈ put1 S s ↔ x ∈ S ∨ x = s := by
  unfold put1
  split
  · rename_i h
    constructor
    · exact .inl
    · rintro (h' | rfl)
      · exact h'
      · exact h
  · rw [List.mem_append, List.mem_singleton]
theorem mem_puts {x : List Int} : ∀ {l S : List (List Int)}, x ∈ puts S l ↔ x ∈ S ∨ x ∈ l
  | [], S => by simp [puts]
  | s :: l, S => by
    show x ∈ puts (put1 S s) l ↔ _
    rw [mem_puts, mem_put1, List.mem_cons, or_assoc]
theorem put1_nd {S : List (List Int)} (h : S.Nodup) (s : List Int) : (put1 S s).Nodup := by
  unfold put1
  split
  · exact h
  · rename_i n
    refine List.nodup_append.mpr ⟨h, by simp, fun a ha b hb e => ?_⟩
    rw [List.mem_singleton] at hb
    subst e; subst hb
    exact n ha
theorem puts_nd : ∀ {l S : List (List Int)}, S.Nodup → (puts S l).Nodup
  | [], _, h => h
  | s :: l, S, h => puts_nd (l := l) (put1_nd h s)
theorem puts_app (S l l' : List (List Int)) : puts S (l ++ l') = puts (puts S l) l' := by unfold puts; rw [List.foldl_append]
/-- a set of few states -/
def Bx (m n : Nat) (S : List (List Int)) : Prop := ∀ s ∈ S, s.length = m ∧ ∀ x ∈ s, x ∈ far n
theorem bx_len {m n : Nat} (hm : m = 1 ∨ m = 2) {S : List (List Int)} (h : Bx m n S) (nd : S.Nodup) : S.length ≤ (n + 1) * (n + 1) :=
  Nat.le_trans (nodup_le S (box m n) nd fun s hs => mem_box hm (h s hs).1 (h s hs).2) (box_len hm)
theorem bx_small {m n : Nat} (hm : m = 1 ∨ m = 2) (hn : n ≤ 64) {S : List (List Int)} (h : Bx m n S) (nd : S.Nodup) : S.length < 5000 := by
  have h1 := bx_len hm h nd
  have h2 := Nat.mul_le_mul (show n + 1 ≤ 65 by omega) (show n + 1 ≤ 65 by omega)
  omega
theorem Bx.puts {m n : Nat} {S l : List (List Int)} (h : Bx m n S) (h' : Bx m n l) : Bx m n (puts S l) := fun s hs => by
  rcases mem_puts.mp hs with hs | hs
  · exact h s hs
  · exact h' s hs
/-! ### states_behind -/
theorem set_turn (cc : Cal) (S : List (List Int)) (s : List Int) (a b c e : Option (Bool × T)) (st : St) (hz : S.length < 16777216) :
    evSs cc 200 [.set 1 (.v 4) (.c (.bl true))] [a, some (true, dkT S), b, c, some (false, sT s)] st = .nx [a, some (true, dkT (put1 S s)), b, c, some (false, sT s)] st := by
  simp -implicitDefEqProofs [dkT, sT, seO_t (kysOf_ints s), dPut_tr, hz]
theorem sb_turn (cc : Cal) {m n : Nat} (hm : m = 1 ∨ m = 2) (hn : n ≤ 64) (S L : List (List Int)) (a b e : Option (Bool × T)) (st : St) (hS : Bx m n S) (nd : S.Nodup) (hL : Bx m n L) :
    ∃ e', evSs cc 200 (d_states_behind.loop 1) [a, some (true, dkT S), b, some (false, .tup (L.map sT)), e] st = .nx [a, some (true, dkT (puts S L)), b, some (false, .tup (L.map sT)), e'] st := by
  unfold Fd.loop d_states_behind
  simp -implicitDefEqProofs [Ev.S.bd]
  refine forL_pk (fun z => ∃ e', kSt cc 200 [] (F.lk (.seq (.v 3)) z) = F.nx [a, some (true, dkT (puts S L)), b, some (false, .tup (L.map sT)), e'] st) sT L (fun p Γ => ∃ e', Γ = [a, some (true, dkT (puts S p)), b, some (false, .tup (L.map sT)), e']) _ ⟨e, rfl⟩ (fun p s post Γ eL i => ?_) fun Γ' i => ?_
  · obtain ⟨e', rfl⟩ := i
    have hp : Bx m n p := fun s hs => hL s (by rw [eL]; exact List.mem_append_left _ hs)
    have hz := bx_small hm hn (hS.puts hp) (puts_nd nd)
    refine ⟨_, fB_eq.trans (set_turn cc (puts S p) s a b _ e' st (by omega)), some (false, sT s), ?_⟩
    rw [puts_app]; rfl
  · obtain ⟨e', rfl⟩ := i
    exact ⟨e', by simp -implicitDefEqProofs []⟩
def sb (m : Nat) (b : List Rw) : List (List Int) := puts [] ((regs m (need b 10).toNat).flatMap fun r => blk b [r] 10)
theorem m_behind {m : Nat} (hm : m = 1 ∨ m = 2) (b : List Rw) (hw : wids b) (ho : oks m b) (h33 : need b 10 ≤ 33) (d : Nat) (st : St) (hd : dps b + 9 ≤ d) :
    C d 23 [pgT m b] st = .ok (true, .lst ((sb m b).map sT), st) := by
  obtain ⟨d, rfl⟩ : ∃ k, d = k + 1 := ⟨d - 1, by omega⟩
  rw [call_ir (show P 23 = Df.ir _ from rfl)]
  have h1 := m_ends hm b hw ho h33 d st (by omega)
  generalize C d = cc at h1 ⊢
  have et : (Te.eq 0 9).t = .tup [.sym 5, .int 0, .int 9] := rfl
  rw [et] at h1
  have hbx : ∀ r ∈ regs m (need b 10).toNat, Bx m 10 (blk b [r] 10) := fun r hr s hs => blk_box hm b ho [r] 10 (fun u hu => by
    rw [List.mem_singleton.mp hu]
    have := (mem_regs hm).mp hr
    exact ⟨this.1, fun x hx => (mem_far.mp (this.2 x hx)).1⟩) (by decide) s hs
  unfold sb
  generalize regs m (need b 10).toNat = R at h1 hbx ⊢
  simp -implicitDefEqProofs [d_states_behind, h1]
  refine forL_pk (fun z => fin (kSt _ _ _ (F.lk _ z)) = _) (endT b) R (fun p Γ => ∃ e1 e2 e3, Γ = [some (false, pgT m b), some (true, dkT (puts [] (p.flatMap fun r => blk b [r] 10))), e1, e2, e3]) _ ⟨none, none, none, rfl⟩ (fun p r post Γ eL i => ?_) fun Γ' i => ?_
  · obtain ⟨e1, e2, e3, rfl⟩ := i
    have hp : Bx m 10 (p.flatMap fun r => blk b [r] 10) := fun s hs => by
      obtain ⟨r', hr', hs⟩ := List.mem_flatMap.mp hs
      exact hbx r' (by rw [eL]; exact List.mem_append_left _ hr') s hs
    obtain ⟨e', t⟩ := sb_turn cc hm (show 10 ≤ 64 by decide) (puts [] (p.flatMap fun r => blk b [r] 10)) (blk b [r] 10) (some (false, pgT m b)) (some (false, sT r)) e3 st (Bx.puts (fun s hs => absurd hs (by simp)) hp) (puts_nd List.nodup_nil) (hbx r (by rw [eL]; simp))
    refine ⟨_, fB_eq.trans t, some (false, sT r), some (false, .tup ((blk b [r] 10).map sT)), e', ?_⟩
    rw [List.flatMap_append, puts_app]
    simp
  · obtain ⟨e1, e2, e3, rfl⟩ := i
    simp -implicitDefEqProofs [dkT]
    exact fun u _ => kTup_kl u
/-! ### sure_in -/
def sureIn (S : List (List Int)) (w : Nat) : List Int := match S with
  | [] => []
  | s :: _ => if gi s w < 0 ∨ S.any (fun u => gi u w != gi s w) = true then [] else [gi s w]
theorem plain_ints : ∀ l : List Int, T.plains (itsL l) = true
  | [] => rfl
  | x :: l => by show (T.plain (.int x) && T.plains (itsL l)) = true; rw [plain_ints l]; rfl
theorem plain_sTs : ∀ S : List (List Int), T.plains (S.map sT) = true
  | [] => rfl
  | s :: S => by show (T.plains (itsL s) && T.plains (S.map sT)) = true; rw [plain_ints, plain_sTs S]; rfl
theorem eq_nil (S : List (List Int)) : eqOf (.lst (S.map sT)) (.lst []) = some (decide (S = [])) := by
  have e1 : T.plain (.lst (S.map sT)) = true := plain_sTs S
  unfold eqOf
  rw [e1, if_pos ⟨rfl, rfl, by
    have : T.depth (.lst []) = 1 := rfl
    rw [this]
    omega⟩]
  cases S with
  | nil => rfl
  | cons s S => simp; rfl
theorem blsOf_map : ∀ l : List Bool, blsOf (l.map T.bl) = some l
  | [] => rfl
  | b :: l => by show (blsOf (l.map T.bl)).map (fun bs => b :: bs) = _; rw [blsOf_map l]; rfl
theorem m_sureIn {m : Nat} (S : List (List Int)) (w : Nat) (hw : Wd m S) (hwm : w < m) (hz : S.length < 5000) (d : Nat) (st : St) :
    C (d + 1) 24 [.lst (S.map sT), .int (w : Int)] st = .ok (false, sT (sureIn S w), st) := by
  rw [call_ir (show P 24 = Df.ir _ from rfl)]
  generalize C d = cc
  rcases S with _ | ⟨s, S⟩
  · simp -implicitDefEqProofs [d_sure_in, sureIn]
    rfl
  · have hs := hw s List.mem_cons_self
    have h1 : w < s.length := by omega
    have e1 : itemOf st (sT s) (.int (w : Int)) = some (.int (gi s w)) := by simp -implicitDefEqProofs [sT, h1]
    have e0 : itemOf st (.lst ((s :: S).map sT)) (.int 0) = some (sT s) := by simp -implicitDefEqProofs []
    have hz2 : (s :: S).length ≤ 16777216 := by omega
    have en := eq_nil (s :: S)
    have ed : decide ((s :: S) = []) = false := rfl
    rw [ed] at en
    have hc := compL_map (f := cB cc [2] (.n 2) (.c (.bl true)) (.b .ne (.b .item (.v 2) (.v 1)) (.b .item (.b .item (.v 0) (.c (.int 0))) (.v 1))) [some (false, .lst ((s :: S).map sT)), some (false, .int (w : Int)), none]) (st := st) (fun u => T.bl (gi u w != gi s w)) sT (s :: S) fun u hu => by
      have h2 : w < u.length := by rw [hw u hu]; exact hwm
      have e2 : itemOf st (sT u) (.int (w : Int)) = some (.int (gi u w)) := by simp -implicitDefEqProofs [sT, h2]
      simp -implicitDefEqProofs [e1, e2]
      simp [bne]
    have eb : (s :: S).map (fun u => T.bl (gi u w != gi s w)) = ((s :: S).map fun u => gi u w != gi s w).map T.bl := by rw [List.map_map]; rfl
    rw [eb] at hc
    have ea : ((s :: S).map fun u => gi u w != gi s w).any id = (s :: S).any fun u => gi u w != gi s w := by rw [List.any_map]; rfl
    have el : (((s :: S).map fun u => gi u w != gi s w).map T.bl).length ≤ 16777216 := by rw [List.length_map, List.length_map]; exact hz2
    have e3 := blsOf_map ((s :: S).map fun u => gi u w != gi s w)
    unfold sureIn
    dsimp only
    generalize (s :: S).any (fun u => gi u w != gi s w) = an at ea ⊢
    generalize (s :: S).map (fun u => gi u w != gi s w) = bs at hc ea el e3
    generalize (s :: S).map sT = L at *
    generalize bs.map T.bl = bt at *
    simp -implicitDefEqProofs [d_sure_in, e0, e1, en, hc, el, e3, ea, -item_l]
    by_cases hn : gi s w < 0
    · simp -implicitDefEqProofs [hn, sT, itsL]
    · cases an <;> simp -implicitDefEqProofs [hn, sT, itsL]
end K82
end

section
set_option autoImplicit false
set_option linter.all false
set_option maxRecDepth 100000
set_option maxHeartbeats 2000000
/-! M8: paths, roads. -/
namespace K82
open Ev
def nT (p : List Nat) : List T := p.map fun k : Nat => T.int (k : Int)
def pT (p : List Nat) : T := .tup (nT p)
@[simp] theorem nT_len (p : List Nat) : (nT p).length = p.length := List.length_map ..
/-- the road to the row at a path, if there is one -/
def rows : List Rw → List Nat → Option (List Rw)
  | _, [] => none
  | b, [k] => if k < b.length then some (b.take k) else none
  | b, k :: i :: p => match b[k]? with
    | some (.ite t x y) => if i = 0 then (rows x p).map (fun l => b.take k ++ .given t :: l) else if i = 1 then (rows y p).map (fun l => b.take k ++ .given (.no t) :: l) else none
    | some (.alt _ x y) => if i = 0 then (rows x p).map (fun l => b.take k ++ l) else if i = 1 then (rows y p).map (fun l => b.take k ++ l) else none
    | _ => none
theorem m_isPath (k : Nat) (d : Nat) (st : St) : C (d + 1) 19 [.int (k : Int)] st = .ok (false, .bl true, st) := by
  rw [call_ir (show P 19 = Df.ir _ from rfl)]
  simp -implicitDefEqProofs [d_is_path_number]
theorem m_inner (r : Rw) (x y : List Rw) (h : (∃ t, r = .ite t x y) ∨ ∃ c, r = .alt c x y) (d : Nat) (st : St) : C (d + 1) 0 [r.t] st = .ok (false, .tup [.tup (bT x), .tup (bT y)], st) := by
  rw [call_ir (show P 0 = Df.ir _ from rfl)]
  rcases h with ⟨t, rfl⟩ | ⟨t, rfl⟩ <;> simp -implicitDefEqProofs [d_inner_blocks, Rw.t]
theorem eq_nilT (p : List Nat) : eqOf (.tup (nT p)) (.tup []) = some (decide (p = [])) := by
  have hp : ∀ l : List Nat, T.plains (nT l) = true := by
    intro l; induction l with
    | nil => rfl
    | cons x l ih => show (T.plain (.int x) && T.plains (nT l)) = true; rw [ih]; rfl
  have e1 : T.plain (.tup (nT p)) = true := hp p
  unfold eqOf
  rw [e1, if_pos ⟨rfl, rfl, by
    have : T.depth (.tup []) = 1 := rfl
    rw [this]
    omega⟩]
  cases p with
  | nil => rfl
  | cons x p => simp; rfl
theorem bT_get {b : List Rw} {k : Nat} {r : Rw} (h : b[k]? = some r) : (bT b)[k]? = some r.t := by rw [bT_map, List.getElem?_map, h]; rfl
/-- what a longer path says -/
theorem rows_cons {b l : List Rw} {k i : Nat} {p : List Nat} (h : rows b (k :: i :: p) = some l) : ∃ r x y l', b[k]? = some r ∧ k < b.length ∧ (i = 0 ∨ i = 1) ∧ rows (if i = 0 then x else y) p = some l' ∧
    ((∃ t, r = .ite t x y ∧ l = b.take k ++ .given (if i = 0 then t else .no t) :: l') ∨ ∃ c, r = .alt c x y ∧ l = b.take k ++ l') := by
  rw [rows] at h
  split at h
  · rename_i t x y hb
    have hk := (List.getElem?_eq_some_iff.mp hb).1
    split at h
    · rename_i h0
      obtain ⟨l', e1, e2⟩ := Option.map_eq_some_iff.mp h
      exact ⟨_, x, y, l', hb, hk, .inl h0, by rw [if_pos h0]; exact e1, .inl ⟨t, rfl, by rw [if_pos h0]; exact e2.symm⟩⟩
    · rename_i h0
      split at h
      · rename_i h1
        obtain ⟨l', e1, e2⟩ := Option.map_eq_some_iff.mp h
        exact ⟨_, x, y, l', hb, hk, .inr h1, by rw [if_neg h0]; exact e1, .inl ⟨t, rfl, by rw [if_neg h0]; exact e2.symm⟩⟩
      · cases h
  · rename_i c x y hb
    have hk := (List.getElem?_eq_some_iff.mp hb).1
    split at h
    · rename_i h0
      obtain ⟨l', e1, e2⟩ := Option.map_eq_some_iff.mp h
      exact ⟨_, x, y, l', hb, hk, .inl h0, by rw [if_pos h0]; exact e1, .inr ⟨c, rfl, e2.symm⟩⟩
    · rename_i h0
      split at h
      · rename_i h1
        obtain ⟨l', e1, e2⟩ := Option.map_eq_some_iff.mp h
        exact ⟨_, x, y, l', hb, hk, .inr h1, by rw [if_neg h0]; exact e1, .inr ⟨c, rfl, e2.symm⟩⟩
      · cases h
  · cases h
theorem hx_of {r : Rw} {x y l l' b : List Rw} {k i : Nat} (hc : (∃ t, r = .ite t x y ∧ l = b.take k ++ .given (if i = 0 then t else .no t) :: l') ∨ ∃ c, r = .alt c x y ∧ l = b.take k ++ l') : (∃ t, r = .ite t x y) ∨ ∃ c, r = .alt c x y := by
  rcases hc with ⟨t, e, _⟩ | ⟨t, e, _⟩
  · exact .inl ⟨t, e⟩
  · exact .inr ⟨t, e⟩
theorem nT_cons2 (k i : Nat) (p : List Nat) : nT (k :: i :: p) = .int k :: .int i :: nT p := rfl
theorem m_hasPath : ∀ (p : List Nat) (b l : List Rw), rows b p = some l → ∀ (d : Nat) (st : St), p.length + 1 ≤ d → C d 20 [.tup (bT b), pT p] st = .ok (false, .bl true, st)
  | [], _, _, h, _, _, _ => by cases h
  | [k], b, l, h, d, st, hd => by
    obtain ⟨d, rfl⟩ : ∃ e, d = e + 2 := ⟨d - 2, by simp only [List.length_cons, List.length_nil] at hd; omega⟩
    rw [rows] at h
    have hk : k < b.length := by
      by_cases z : k < b.length
      · exact z
      · rw [if_neg z] at h; cases h
    have h1 := m_isPath k d st
    rw [call_ir (show P 20 = Df.ir _ from rfl)]
    generalize C (d + 1) = cc at h1 ⊢
    have en := eq_nilT [k]
    have e : nT [k] = [.int (k : Int)] := rfl
    rw [e] at en
    have hk' : ¬ (b.length ≤ k) := by omega
    simp -implicitDefEqProofs [d_has_path, pT, e, en, h1, hk']
  | k :: i :: p, b, l, h, d, st, hd => by
    obtain ⟨d, rfl⟩ : ∃ e, d = e + 2 := ⟨d - 2, by simp only [List.length_cons] at hd; omega⟩
    obtain ⟨r, x, y, l', hb, hk, hi, hr, hc⟩ := rows_cons h
    have h1 := m_isPath k d st
    have h2 := m_isPath i d st
    have h3 := m_inner r x y (hx_of hc) d st
    have h4 := m_hasPath p _ l' hr (d + 1) st (by simp only [List.length_cons] at hd; omega)
    rw [call_ir (show P 20 = Df.ir _ from rfl)]
    generalize C (d + 1) = cc at h1 h2 h3 h4 ⊢
    have en := eq_nilT (k :: i :: p)
    rw [nT_cons2] at en
    have hk' : ¬ (b.length ≤ k) := by omega
    have eb := bT_get hb
    have ex : itemOf st (.tup (bT b)) (.int (k : Int)) = some r.t := by rw [item_t, ixOf_n (by rw [bT_len]; exact hk)]; exact eb
    have e0 : itemOf st (.tup (.int (k : Int) :: .int (i : Int) :: nT p)) (.int 0) = some (.int k) := by simp -implicitDefEqProofs []
    have e1 : itemOf st (.tup (.int (k : Int) :: .int (i : Int) :: nT p)) (.int 1) = some (.int i) := by simp -implicitDefEqProofs []
    have e2 : itemOf st (.tup [.tup (bT x), .tup (bT y)]) (.int (i : Int)) = some (.tup (bT (if i = 0 then x else y))) := by rcases hi with rfl | rfl <;> simp -implicitDefEqProofs []
    have hi2 : ¬ (2 ≤ i) := by omega
    have hi3 : (i : Int) < 2 := by omega
    have hi4 : ¬ ((2 : Int) ≤ (i : Int)) := by omega
    have hl : ¬ ((p.length : Int) + 1 + 1 = 1) := by omega
    unfold pT at h4
    simp -implicitDefEqProofs [d_has_path, pT, nT_cons2, en, h1, h2, hk', ex, e0, e1, e2, h3, h4, hi2, hi3, hi4, hl, -item_t]
theorem rows_len : ∀ (p : List Nat) (b l : List Rw), rows b p = some l → wids b → l.length ≤ 1001 * p.length
  | [], _, _, h, _ => by cases h
  | [k], b, l, h, hw => by
    rw [rows] at h
    split at h
    · cases h
      have := wids_len hw
      rw [List.length_take]
      simp only [List.length_cons, List.length_nil]
      omega
    · cases h
  | k :: i :: p, b, l, h, hw => by
    obtain ⟨r, x, y, l', hb, hk, hi, hr, hc⟩ := rows_cons h
    have hrw := wids_mem hw r (List.mem_of_getElem? hb)
    have hwi : wids (if i = 0 then x else y) := by
      rcases hc with ⟨t, e, _⟩ | ⟨t, e, _⟩ <;> rw [e, Rw.wid] at hrw <;> split
      · exact hrw.1
      · exact hrw.2
      · exact hrw.1
      · exact hrw.2
    have ih := rows_len p _ l' hr hwi
    have hl := wids_len hw
    have : l.length ≤ k + 1 + l'.length := by
      rcases hc with ⟨t, _, e⟩ | ⟨t, _, e⟩ <;> rw [e, List.length_append, List.length_take]
      · rw [List.length_cons]; omega
      · omega
    simp only [List.length_cons]
    omega
theorem bT_take (b : List Rw) (k : Nat) : (bT b).take k = bT (b.take k) := by rw [bT_map, bT_map, List.map_take]
theorem m_roadRows : ∀ (p : List Nat) (b l : List Rw), rows b p = some l → wids b → p.length ≤ 1000 → ∀ (d : Nat) (st : St), p.length + 1 ≤ d → C d 21 [.tup (bT b), pT p] st = .ok (false, .tup (bT l), st)
  | [], _, _, h, _, _, _, _, _ => by cases h
  | [k], b, l, h, hw, hp, d, st, hd => by
    obtain ⟨d, rfl⟩ : ∃ e, d = e + 1 := ⟨d - 1, by omega⟩
    rw [rows] at h
    split at h
    · rename_i hk
      cases h
      rw [call_ir (show P 21 = Df.ir _ from rfl)]
      generalize C d = cc
      have a1 : min k b.length = k := by omega
      have e : nT [k] = [.int (k : Int)] := rfl
      simp -implicitDefEqProofs [d_road_rows, pT, e, a1, bT_take]
    · cases h
  | k :: i :: p, b, l, h, hw, hp, d, st, hd => by
    obtain ⟨d, rfl⟩ : ∃ e, d = e + 2 := ⟨d - 2, by simp only [List.length_cons] at hd; omega⟩
    obtain ⟨r, x, y, l', hb, hk, hi, hr, hc⟩ := rows_cons h
    have hrw := wids_mem hw r (List.mem_of_getElem? hb)
    have hwi : wids (if i = 0 then x else y) := by
      rcases hc with ⟨t, e, _⟩ | ⟨t, e, _⟩ <;> rw [e, Rw.wid] at hrw <;> split
      · exact hrw.1
      · exact hrw.2
      · exact hrw.1
      · exact hrw.2
    have h3 := m_inner r x y (hx_of hc) d st
    have h4 := m_roadRows p _ l' hr hwi (by simp only [List.length_cons] at hp; omega) (d + 1) st (by simp only [List.length_cons] at hd; omega)
    have hz := rows_len p _ l' hr hwi
    have hz2 := wids_len hw
    simp only [List.length_cons] at hp
    have z1 : k + l'.length ≤ 16777216 := by omega
    have z2 : k + 1 ≤ 16777216 := by omega
    have z3 : k + 1 + l'.length ≤ 16777216 := by omega
    rw [call_ir (show P 21 = Df.ir _ from rfl)]
    generalize C (d + 1) = cc at h3 h4 ⊢
    have hk' : ¬ (b.length ≤ k) := by omega
    have eb := bT_get hb
    have ex : itemOf st (.tup (bT b)) (.int (k : Int)) = some r.t := by rw [item_t, ixOf_n (by rw [bT_len]; exact hk)]; exact eb
    have e0 : itemOf st (.tup (.int (k : Int) :: .int (i : Int) :: nT p)) (.int 0) = some (.int k) := by simp -implicitDefEqProofs []
    have e1 : itemOf st (.tup (.int (k : Int) :: .int (i : Int) :: nT p)) (.int 1) = some (.int i) := by simp -implicitDefEqProofs []
    have e2 : itemOf st (.tup [.tup (bT x), .tup (bT y)]) (.int (i : Int)) = some (.tup (bT (if i = 0 then x else y))) := by rcases hi with rfl | rfl <;> simp -implicitDefEqProofs []
    have hl : ¬ ((p.length : Int) + 1 + 1 = 1) := by omega
    have a1 : min k b.length = k := by omega
    have hi1 : ((i : Int) = 0) = (i = 0) := propext (by omega)
    have hi2 : ((i : Int) = 1) = (i = 1) := propext (by omega)
    unfold pT at h4
    rcases hc with ⟨t, er, el⟩ | ⟨c, er, el⟩
    · have er0 : itemOf st r.t (.int 0) = some (.sym 2) := by rw [er, Rw.t]; simp -implicitDefEqProofs []
      have er1 : itemOf st r.t (.int 1) = some t.t := by rw [er, Rw.t]; simp -implicitDefEqProofs []
      subst el
      rw [bT_app, ← bT_take]
      rcases hi with rfl | rfl
      · have e1 : itemOf st (.tup (.int (k : Int) :: .int 0 :: nT p)) (.int 1) = some (.int 0) := e1
        have e0 : itemOf st (.tup (.int (k : Int) :: .int 0 :: nT p)) (.int 0) = some (.int k) := e0
        have h4 : cc 21 [.tup (bT x), .tup (nT p)] st = .ok (false, .tup (bT l'), st) := h4
        have e2 : itemOf st (.tup [.tup (bT x), .tup (bT y)]) (.int 0) = some (.tup (bT x)) := e2
        simp -implicitDefEqProofs [d_road_rows, pT, nT_cons2, ex, e0, e1, e2, h3, h4, hl, er0, er1, a1, z1, z2, z3, -item_t, bT, Rw.t, List.append_assoc]
      · have e1 : itemOf st (.tup (.int (k : Int) :: .int 1 :: nT p)) (.int 1) = some (.int 1) := e1
        have e0 : itemOf st (.tup (.int (k : Int) :: .int 1 :: nT p)) (.int 0) = some (.int k) := e0
        have h4 : cc 21 [.tup (bT y), .tup (nT p)] st = .ok (false, .tup (bT l'), st) := h4
        have e2 : itemOf st (.tup [.tup (bT x), .tup (bT y)]) (.int 1) = some (.tup (bT y)) := e2
        simp -implicitDefEqProofs [d_road_rows, pT, nT_cons2, ex, e0, e1, e2, h3, h4, hl, er0, er1, a1, z1, z2, z3, -item_t, bT, Rw.t, Te.t, List.append_assoc]
    · have er0 : itemOf st r.t (.int 0) = some (.sym 1) := by rw [er, Rw.t]; simp -implicitDefEqProofs []
      subst el
      rw [bT_app, ← bT_take]
      simp -implicitDefEqProofs [d_road_rows, pT, nT_cons2, ex, e0, e1, e2, h3, h4, hl, er0, a1, z1, z2, z3, -item_t]
theorem m_road {m : Nat} {p : List Nat} {b l : List Rw} (h : rows b p = some l) (hw : wids b) (hp : p.length ≤ 1000) (d : Nat) (st : St) (hd : p.length + 2 ≤ d) : C d 22 [pgT m b, pT p] st = .ok (false, pgT m l, st) := by
  obtain ⟨d, rfl⟩ : ∃ e, d = e + 2 := ⟨d - 2, by omega⟩
  have h1 := m_hasPath p b l h (d + 1) st (by omega)
  have h2 := m_roadRows p b l h hw hp (d + 1) st (by omega)
  have h3 := m_withB m b l d st
  rw [call_ir (show P 22 = Df.ir _ from rfl)]
  generalize C (d + 1) = cc at h1 h2 h3 ⊢
  unfold pgT at h3 ⊢
  simp -implicitDefEqProofs [d_road, h1, h2, h3]
theorem m_lawRoad : ∀ (p : List Nat) (b l : List Rw), rows b p = some l → wids b → p.length ≤ 1000 → ∀ (d : Nat) (st : St), p.length + 1 ≤ d → C d 51 [.tup (bT b), pT p] st = .ok (false, .tup (bT l), st)
  | [], _, _, h, _, _, _, _, _ => by cases h
  | [k], b, l, h, hw, hp, d, st, hd => by
    obtain ⟨d, rfl⟩ : ∃ e, d = e + 1 := ⟨d - 1, by omega⟩
    rw [rows] at h
    split at h
    · rename_i hk
      cases h
      rw [call_ir (show P 51 = Df.ir _ from rfl)]
      generalize C d = cc
      have a1 : min k b.length = k := by omega
      have e : nT [k] = [.int (k : Int)] := rfl
      simp -implicitDefEqProofs [d__law_road, pT, e, a1, bT_take]
    · cases h
  | k :: i :: p, b, l, h, hw, hp, d, st, hd => by
    obtain ⟨d, rfl⟩ : ∃ e, d = e + 2 := ⟨d - 2, by simp only [List.length_cons] at hd; omega⟩
    obtain ⟨r, x, y, l', hb, hk, hi, hr, hc⟩ := rows_cons h
    have hrw := wids_mem hw r (List.mem_of_getElem? hb)
    have hwi : wids (if i = 0 then x else y) := by
      rcases hc with ⟨t, e, _⟩ | ⟨t, e, _⟩ <;> rw [e, Rw.wid] at hrw <;> split
      · exact hrw.1
      · exact hrw.2
      · exact hrw.1
      · exact hrw.2
    have h4 := m_lawRoad p _ l' hr hwi (by simp only [List.length_cons] at hp; omega) (d + 1) st (by simp only [List.length_cons] at hd; omega)
    have hz := rows_len p _ l' hr hwi
    have hz2 := wids_len hw
    simp only [List.length_cons] at hp
    have z1 : k + l'.length ≤ 16777216 := by omega
    have z2 : k + 1 ≤ 16777216 := by omega
    have z3 : k + 1 + l'.length ≤ 16777216 := by omega
    rw [call_ir (show P 51 = Df.ir _ from rfl)]
    generalize C (d + 1) = cc at h4 ⊢
    have eb := bT_get hb
    have ex : itemOf st (.tup (bT b)) (.int (k : Int)) = some r.t := by rw [item_t, ixOf_n (by rw [bT_len]; exact hk)]; exact eb
    have e0 : itemOf st (.tup (.int (k : Int) :: .int (i : Int) :: nT p)) (.int 0) = some (.int k) := by simp -implicitDefEqProofs []
    have e1 : itemOf st (.tup (.int (k : Int) :: .int (i : Int) :: nT p)) (.int 1) = some (.int i) := by simp -implicitDefEqProofs []
    have hl : ¬ ((p.length : Int) + 1 + 1 = 1) := by omega
    have a1 : min k b.length = k := by omega
    unfold pT at h4
    rcases hc with ⟨t, er, el⟩ | ⟨c, er, el⟩
    · have er0 : itemOf st r.t (.int 0) = some (.sym 2) := by rw [er, Rw.t]; simp -implicitDefEqProofs []
      have er1 : itemOf st r.t (.int 1) = some t.t := by rw [er, Rw.t]; simp -implicitDefEqProofs []
      subst el
      rw [bT_app, ← bT_take]
      rcases hi with rfl | rfl
      · have e1 : itemOf st (.tup (.int (k : Int) :: .int 0 :: nT p)) (.int 1) = some (.int 0) := e1
        have e0 : itemOf st (.tup (.int (k : Int) :: .int 0 :: nT p)) (.int 0) = some (.int k) := e0
        have h4 : cc 51 [.tup (bT x), .tup (nT p)] st = .ok (false, .tup (bT l'), st) := h4
        have e2 : itemOf st r.t (.int 2) = some (.tup (bT x)) := by rw [er, Rw.t]; simp -implicitDefEqProofs []
        simp -implicitDefEqProofs [d__law_road, pT, nT_cons2, ex, e0, e1, e2, h4, hl, er0, er1, a1, z1, z2, z3, -item_t, bT, Rw.t, List.append_assoc]
      · have e1 : itemOf st (.tup (.int (k : Int) :: .int 1 :: nT p)) (.int 1) = some (.int 1) := e1
        have e0 : itemOf st (.tup (.int (k : Int) :: .int 1 :: nT p)) (.int 0) = some (.int k) := e0
        have h4 : cc 51 [.tup (bT y), .tup (nT p)] st = .ok (false, .tup (bT l'), st) := h4
        have e2 : itemOf st r.t (.int 3) = some (.tup (bT y)) := by rw [er, Rw.t]; simp -implicitDefEqProofs []
        simp -implicitDefEqProofs [d__law_road, pT, nT_cons2, ex, e0, e1, e2, h4, hl, er0, er1, a1, z1, z2, z3, -item_t, bT, Rw.t, Te.t, List.append_assoc]
    · have er0 : itemOf st r.t (.int 0) = some (.sym 1) := by rw [er, Rw.t]; simp -implicitDefEqProofs []
      subst el
      rw [bT_app, ← bT_take]
      rcases hi with rfl | rfl
      · have e1 : itemOf st (.tup (.int (k : Int) :: .int 0 :: nT p)) (.int 1) = some (.int 0) := e1
        have e0 : itemOf st (.tup (.int (k : Int) :: .int 0 :: nT p)) (.int 0) = some (.int k) := e0
        have h4 : cc 51 [.tup (bT x), .tup (nT p)] st = .ok (false, .tup (bT l'), st) := h4
        have e2 : itemOf st r.t (.int 2) = some (.tup (bT x)) := by rw [er, Rw.t]; simp -implicitDefEqProofs []
        simp -implicitDefEqProofs [d__law_road, pT, nT_cons2, ex, e0, e1, e2, h4, hl, er0, a1, z1, z2, z3, -item_t]
      · have e1 : itemOf st (.tup (.int (k : Int) :: .int 1 :: nT p)) (.int 1) = some (.int 1) := e1
        have e0 : itemOf st (.tup (.int (k : Int) :: .int 1 :: nT p)) (.int 0) = some (.int k) := e0
        have h4 : cc 51 [.tup (bT y), .tup (nT p)] st = .ok (false, .tup (bT l'), st) := h4
        have e2 : itemOf st r.t (.int 3) = some (.tup (bT y)) := by rw [er, Rw.t]; simp -implicitDefEqProofs []
        simp -implicitDefEqProofs [d__law_road, pT, nT_cons2, ex, e0, e1, e2, h4, hl, er0, a1, z1, z2, z3, -item_t]
end K82
end

section
set_option autoImplicit false
set_option linter.all false
set_option maxRecDepth 100000
set_option maxHeartbeats 2000000
/-! M9: the law's side: support. -/
namespace K82
open Ev
theorem kT_comp : kTup ∘ kl = sT := funext kTup_kl
theorem keys_map (S : List (List Int)) : (S.map kl).map kTup = S.map sT := by rw [List.map_map, kT_comp]
theorem m_lput (s : List Int) (w : Nat) (x : Int) (h : w < s.length) (hl : s.length ≤ 1000) (d : Nat) (st : St) : C (d + 1) 37 [sT s, .int (w : Int), .int x] st = .ok (false, sT (pt s w x), st) := by
  rw [call_ir (show P 37 = Df.ir _ from rfl)]
  generalize C d = cc
  have a1 : min w s.length = w := by omega
  have a2 : min (w + 1) s.length = w + 1 := by omega
  have a3 : w + 1 ≤ 16777216 := by omega
  have a4 : w + 1 + (s.length - (w + 1)) ≤ 16777216 := by omega
  simp -implicitDefEqProofs [d__law_put, sT, a1, a2, a3, a4, ints_take, ints_drop, ints_pt]
def sim (r : Rw) (s : List Int) : List Int := match r with
  | .set w n => pt s w n
  | .copy w y => pt s w (gi s y)
  | .add w n => pt s w (gi s w + n)
  | .less w n => pt s w (if gi s w - n > 0 then gi s w - n else 0)
  | _ => s
theorem m_lsimple {r : Rw} {s : List Int} (hr : r.simple s.length) (nd : ∀ w ns, r ≠ .draw w ns) (hl : s.length ≤ 1000) (d : Nat) (st : St) : C (d + 2) 38 [sT s, r.t] st = .ok (false, sT (sim r s), st) := by
  rw [call_ir (show P 38 = Df.ir _ from rfl)]
  have h := fun w x hw => m_lput s w x hw hl d st
  generalize C (d + 1) = cc at h ⊢
  have hi : ∀ w, w < s.length → itemOf st (sT s) (.int (w : Int)) = some (.int (gi s w)) := fun w hw => by simp -implicitDefEqProofs [sT, hw]
  cases r with
  | set w n => have hw : w < s.length := hr; simp -implicitDefEqProofs [d__law_simple, Rw.t, h w n hw, sim]
  | copy w y => simp -implicitDefEqProofs [d__law_simple, Rw.t, hi y hr.2, h w _ hr.1, sim]
  | add w n => have hw : w < s.length := hr; simp -implicitDefEqProofs [d__law_simple, Rw.t, hi w hw, h w _ hw, sim]
  | less w n => have hw : w < s.length := hr; simp -implicitDefEqProofs [d__law_simple, Rw.t, hi w hw, h w _ hw, sim]
  | draw w ns => exact absurd rfl (nd w ns)
  | _ => exact hr.elim
theorem dGet_tr {s : List Int} : ∀ {S : List (List Int)}, s ∈ S → dGet (S.map kl) (tr S) (kl s) = some (.bl true)
  | u :: S, h => by
    show (if kl u = kl s then some (T.bl true) else dGet (S.map kl) (tr S) (kl s)) = _
    split
    · rfl
    · rename_i n
      rcases List.mem_cons.mp h with e | h
      · exact absurd (by rw [e]) n
      · exact dGet_tr h
theorem len_of {m : Nat} (hm : m = 1 ∨ m = 2) {S l : List (List Int)} {n : Nat} (hn : n ≤ 64) (h : Bx m n S) (nd : S.Nodup) (hz : S.length < 5000) : S.length < 16777216 := by omega
theorem split_turn (cc : Cal) (t : Te) (s : List Int) (S A B : List (List Int)) (j : Option (Bool × T)) (st : St) (hs : s ∈ S) (h : cc 36 [t.t, sT s] st = .ok (false, .bl (t.holds s), st)) (hA : A.length < 16777216) (hB : B.length < 16777216) :
    evSs cc 200 (d__law_split.loop 2) [some (false, dkT S), some (false, t.t), some (true, dkT A), some (true, dkT B), some (false, sT s)] st = .nx [some (false, dkT S), some (false, t.t), some (true, dkT (if t.holds s = true then put1 A s else A)), some (true, dkT (if t.holds s = true then B else put1 B s)), some (false, sT s)] st := by
  unfold Fd.loop d__law_split
  have hd := dGet_tr hs
  unfold sT at h ⊢
  cases z : t.holds s <;> simp -implicitDefEqProofs [Ev.S.bd, h, z, dkT, kysOf_ints, hd, seO_t (kysOf_ints s), dPut_tr, hA, hB]
theorem m_split {m n : Nat} (hm : m = 1 ∨ m = 2) (hn : n ≤ 64) (t : Te) (S : List (List Int)) (hS : Bx m n S) (nd : S.Nodup) (ht : t.ok m) (d : Nat) (st : St) (hd : t.dp ≤ d) :
    C (d + 1) 39 [dkT S, t.t] st = .ok (false, .tup [dkT (puts [] (S.filter t.holds)), dkT (puts [] (S.filter fun s => !t.holds s))], st) := by
  rw [call_ir (show P 39 = Df.ir _ from rfl)]
  have h := fun s (hs : s ∈ S) => m_holds' t s d st hd (by rw [(hS s hs).1]; exact ht)
  generalize C d = cc at h ⊢
  simp -implicitDefEqProofs [d__law_split]
  have ek : kKy st (some (dkT S)) = .ok (S.map sT, st) := by unfold dkT; rw [kKy_t, keys_map]
  simp -implicitDefEqProofs [ek]
  have e0 : (T.dT [] [] : T) = dkT [] := rfl
  rw [e0]
  refine forL_pk (fun z => fin (kSt _ _ _ (F.lk _ z)) = _) sT S (fun p Γ => ∃ j, Γ = [some (false, dkT S), some (false, t.t), some (true, dkT (puts [] (p.filter t.holds))), some (true, dkT (puts [] (p.filter fun s => !t.holds s))), j]) _ ⟨none, rfl⟩ (fun p s post Γ e i => ?_) fun Γ' i => ?_
  · obtain ⟨j, rfl⟩ := i
    have hs : s ∈ S := by rw [e]; simp
    have hb : ∀ q : List Int → Bool, (puts [] (p.filter q)).length < 16777216 := fun q => by
      have hb : Bx m n (puts [] (p.filter q)) := Bx.puts (fun s hs => absurd hs (by simp)) fun u hu => hS u (by rw [e]; exact List.mem_append_left _ (List.mem_filter.mp hu).1)
      have := bx_small hm hn hb (puts_nd List.nodup_nil)
      omega
    refine ⟨_, fB_eq.trans (split_turn cc t s S _ _ j st hs (h s hs) (hb _) (hb _)), some (false, sT s), ?_⟩
    rw [List.filter_append, List.filter_append, puts_app, puts_app]
    cases z : t.holds s <;> simp [List.filter, z, puts]
  · obtain ⟨j, rfl⟩ := i
    simp -implicitDefEqProofs []
/-! ### a draw -/
def drw (w : Nat) (ns : List (Nat × T)) (s : List Int) : List (List Int) := ns.map fun p => pt s w (gi s w + (p.1 : Int))
theorem add_in (cc : Cal) (w : Nat) (s : List Int) (p : Nat × T) (S : List (List Int)) (a q j5 j6 : Option (Bool × T)) (st : St) (hw : w < s.length) (h : ∀ x, cc 37 [sT s, .int (w : Int), .int x] st = .ok (false, sT (pt s w x), st)) (hS : S.length < 16777216) :
    evSs cc 200 [.set 3 (.call 37 [.v 4, .v 1, .b .add (.b .item (.v 4) (.v 1)) (.v 5)]) (.c (.bl true))] [a, some (false, .int (w : Int)), q, some (true, dkT S), some (false, sT s), some (false, .int (p.1 : Int)), some (false, p.2)] st = .nx [a, some (false, .int (w : Int)), q, some (true, dkT (put1 S (pt s w (gi s w + (p.1 : Int))))), some (false, sT s), some (false, .int (p.1 : Int)), some (false, p.2)] st := by
  have hi : itemOf st (sT s) (.int (w : Int)) = some (.int (gi s w)) := by simp -implicitDefEqProofs [sT, hw]
  simp -implicitDefEqProofs [hi, h, dkT]
  unfold sT
  simp -implicitDefEqProofs [seO_t (kysOf_ints _), dPut_tr, hS]
theorem add_turn (cc : Cal) {m n : Nat} (hm : m = 1 ∨ m = 2) (hn : n ≤ 64) (w : Nat) (ns : List (Nat × T)) (s : List Int) (A : List (List Int)) (a j5 j6 : Option (Bool × T)) (st : St) (hw : w < s.length) (h : ∀ x, cc 37 [sT s, .int (w : Int), .int x] st = .ok (false, sT (pt s w x), st)) (hA : Bx m n A) (nd : A.Nodup) (hd : Bx m n (drw w ns s)) :
    ∃ k5 k6, evSs cc 200 (d__law_added.loop 1) [a, some (false, .int (w : Int)), some (false, drT ns), some (true, dkT A), some (false, sT s), j5, j6] st = .nx [a, some (false, .int (w : Int)), some (false, drT ns), some (true, dkT (puts A (drw w ns s))), some (false, sT s), k5, k6] st := by
  unfold Fd.loop d__law_added
  have ed : itemOf st (drT ns) (.int 1) = some (.tup (ns.map fun p => .tup [.int p.1, p.2])) := by unfold drT; simp -implicitDefEqProofs []
  simp -implicitDefEqProofs [Ev.S.bd, ed]
  refine forL_pk (fun z => ∃ k5 k6, kSt cc 200 [] (F.lk (.seq (.b .item (.v 2) (.c (.int 1)))) z) = F.nx [a, some (false, .int (w : Int)), some (false, drT ns), some (true, dkT (puts A (drw w ns s))), some (false, sT s), k5, k6] st) (fun p : Nat × T => .tup [.int p.1, p.2]) ns (fun p Γ => ∃ j5 j6, Γ = [a, some (false, .int (w : Int)), some (false, drT ns), some (true, dkT (puts A (drw w p s))), some (false, sT s), j5, j6]) _ ⟨j5, j6, rfl⟩ (fun p x post Γ e i => ?_) fun Γ' i => ?_
  · obtain ⟨j5, j6, rfl⟩ := i
    have hp : Bx m n (drw w p s) := fun u hu => hd u (by rw [e]; unfold drw; rw [List.map_append]; exact List.mem_append_left _ hu)
    have hz := bx_small hm hn (hA.puts hp) (puts_nd nd)
    have t := add_in cc w s x (puts A (drw w p s)) a (some (false, drT ns)) j5 j6 st hw h (by omega)
    refine ⟨_, ?_, some (false, .int x.1), some (false, x.2), rfl⟩
    rw [fB_eq]
    have ep : puts A (drw w (p ++ [x]) s) = put1 (puts A (drw w p s)) (pt s w (gi s w + (x.1 : Int))) := by
      unfold drw
      rw [List.map_append, puts_app]; rfl
    rw [ep]
    simp -implicitDefEqProofs [-s_set, -ss_c]
    exact t
  · obtain ⟨j5, j6, rfl⟩ := i
    exact ⟨j5, j6, by simp -implicitDefEqProofs []⟩
theorem m_added {m n : Nat} (hm : m = 1 ∨ m = 2) (hn : n ≤ 64) (w : Nat) (ns : List (Nat × T)) (S : List (List Int)) (hw : w < m) (hS : Wd m S) (hd : Bx m n (S.flatMap (drw w ns))) (d : Nat) (st : St) :
    C (d + 2) 48 [dkT S, .int (w : Int), drT ns] st = .ok (true, dkT (puts [] (S.flatMap (drw w ns))), st) := by
  rw [call_ir (show P 48 = Df.ir _ from rfl)]
  have h := fun s (hs : s ∈ S) x => m_lput s w x (by rw [hS s hs]; exact hw) (by rw [hS s hs]; omega) d st
  generalize C (d + 1) = cc at h ⊢
  simp -implicitDefEqProofs [d__law_added]
  have ek : kKy st (some (dkT S)) = .ok (S.map sT, st) := by unfold dkT; rw [kKy_t, keys_map]
  simp -implicitDefEqProofs [ek]
  have e0 : (T.dT [] [] : T) = dkT [] := rfl
  rw [e0]
  refine forL_pk (fun z => fin (kSt _ _ _ (F.lk _ z)) = _) sT S (fun p Γ => ∃ j4 j5 j6, Γ = [some (false, dkT S), some (false, .int (w : Int)), some (false, drT ns), some (true, dkT (puts [] (p.flatMap (drw w ns)))), j4, j5, j6]) _ ⟨none, none, none, rfl⟩ (fun p s post Γ e i => ?_) fun Γ' i => ?_
  · obtain ⟨j4, j5, j6, rfl⟩ := i
    have hs : s ∈ S := by rw [e]; simp
    have hp : Bx m n (p.flatMap (drw w ns)) := fun u hu => hd u (by rw [e, List.flatMap_append]; exact List.mem_append_left _ hu)
    have hq : Bx m n (drw w ns s) := fun u hu => hd u (List.mem_flatMap.mpr ⟨s, hs, hu⟩)
    obtain ⟨j5', j6', t⟩ := add_turn cc hm hn w ns s (puts [] (p.flatMap (drw w ns))) (some (false, dkT S)) j5 j6 st (by rw [hS s hs]; exact hw) (h s hs) (Bx.puts (fun s hs => absurd hs (by simp)) hp) (puts_nd List.nodup_nil) hq
    refine ⟨_, fB_eq.trans t, some (false, sT s), j5', j6', ?_⟩
    rw [List.flatMap_append, puts_app]
    simp
  · obtain ⟨j4, j5, j6, rfl⟩ := i
    simp -implicitDefEqProofs []
end K82
end

section
set_option autoImplicit false
set_option linter.all false
set_option maxRecDepth 100000
set_option maxHeartbeats 2000000
/-! M10: _law_support. -/
namespace K82
open Ev
mutual
def Rw.sup : Rw → List (List Int) → List (List Int)
  | .draw w ns, S => puts [] (S.flatMap (drw w ns))
  | .given t, S => puts [] (S.filter t.holds)
  | .alt _ a b, S => puts (puts [] (sups a S)) (sups b S)
  | .ite t a b, S => puts (puts [] (sups a (puts [] (S.filter t.holds)))) (sups b (puts [] (S.filter fun s => !t.holds s)))
  | .set w n, S => puts [] (S.map (sim (.set w n)))
  | .add w n, S => puts [] (S.map (sim (.add w n)))
  | .less w n, S => puts [] (S.map (sim (.less w n)))
  | .copy w n, S => puts [] (S.map (sim (.copy w n)))
def sups : List Rw → List (List Int) → List (List Int)
  | [], S => S
  | r :: b, S => sups b (r.sup S)
end
/-- how much a word may grow -/
def mx (ns : List (Nat × T)) : Nat := ns.foldr (fun p k => max p.1 k) 0
mutual
def Rw.inc : Rw → Nat
  | .set _ n => n
  | .add _ n => n
  | .draw _ ns => mx ns
  | .ite _ a b => max (incs a) (incs b)
  | .alt _ a b => max (incs a) (incs b)
  | _ => 0
def incs : List Rw → Nat
  | [] => 0
  | r :: b => r.inc + incs b
end
def Vx (m N : Nat) (S : List (List Int)) : Prop := ∀ s ∈ S, s.length = m ∧ ∀ x ∈ s, 0 ≤ x ∧ x ≤ N
theorem Vx.bx {m N : Nat} {S : List (List Int)} (h : Vx m N S) : Bx m (N + 1) S := fun s hs => ⟨(h s hs).1, fun x hx => mem_far.mpr (by have := (h s hs).2 x hx; omega)⟩
theorem Vx.mono {m N N' : Nat} {S : List (List Int)} (h : Vx m N S) (le : N ≤ N') : Vx m N' S := fun s hs => ⟨(h s hs).1, fun x hx => by have := (h s hs).2 x hx; omega⟩
theorem Vx.puts {m N : Nat} {S l : List (List Int)} (h : Vx m N S) (h' : Vx m N l) : Vx m N (puts S l) := fun s hs => by
  rcases mem_puts.mp hs with hs | hs
  · exact h s hs
  · exact h' s hs
theorem Vx.nil {m N : Nat} : Vx m N [] := fun s hs => absurd hs (by simp)
theorem Vx.filter {m N : Nat} {S : List (List Int)} (h : Vx m N S) (q : List Int → Bool) : Vx m N (S.filter q) := fun s hs => h s (List.mem_filter.mp hs).1
theorem gi_mem {s : List Int} {w : Nat} (h : w < s.length) : gi s w ∈ s := by
  unfold gi
  rw [List.getD_eq_getElem?_getD, List.getElem?_eq_getElem h]
  exact List.getElem_mem h
theorem mem_pt {s : List Int} {w : Nat} {x y : Int} (h : y ∈ pt s w x) : y = x ∨ y ∈ s := by
  unfold pt at h
  rcases List.mem_append.mp h with h | h
  · exact .inr (List.mem_of_mem_take h)
  · rcases List.mem_cons.mp h with h | h
    · exact .inl h
    · exact .inr (List.mem_of_mem_drop h)
theorem le_mx : ∀ {ns : List (Nat × T)} {p : Nat × T}, p ∈ ns → p.1 ≤ mx ns
  | q :: ns, p, h => by
    show p.1 ≤ max q.1 (mx ns)
    rcases List.mem_cons.mp h with e | h
    · rw [e]; omega
    · have := le_mx h; omega
theorem drw_vx {m N w : Nat} {ns : List (Nat × T)} {S : List (List Int)} (h : Vx m N S) (hw : w < m) : Vx m (N + mx ns) (S.flatMap (drw w ns)) := fun u hu => by
  obtain ⟨s, hs, hu⟩ := List.mem_flatMap.mp hu
  obtain ⟨p, hp, rfl⟩ := List.mem_map.mp hu
  have hl := (h s hs).1
  refine ⟨by rw [pt_len (by omega), hl], fun y hy => ?_⟩
  rcases mem_pt hy with e | hy
  · have a := (h s hs).2 _ (gi_mem (show w < s.length by omega))
    have b := le_mx hp
    omega
  · have := (h s hs).2 y hy; omega
theorem sim_vx {m N : Nat} {r : Rw} (hr : r.simple m) (nd : ∀ w ns, r ≠ .draw w ns) {S : List (List Int)} (h : Vx m N S) : Vx m (N + r.inc) (S.map (sim r)) := fun u hu => by
  obtain ⟨s, hs, rfl⟩ := List.mem_map.mp hu
  have hl := (h s hs).1
  have hg : ∀ w, w < m → 0 ≤ gi s w ∧ gi s w ≤ N := fun w hw => (h s hs).2 _ (gi_mem (by omega))
  cases r with
  | set w n =>
    have hw : w < m := hr
    refine ⟨by rw [sim, pt_len (by omega), hl], fun y hy => ?_⟩
    rcases mem_pt hy with e | hy
    · rw [Rw.inc]; omega
    · have := (h s hs).2 y hy; omega
  | copy w n =>
    refine ⟨by rw [sim, pt_len (by have := hr.1; omega), hl], fun y hy => ?_⟩
    rcases mem_pt hy with e | hy
    · have := hg n hr.2; omega
    · have := (h s hs).2 y hy; omega
  | add w n =>
    have hw : w < m := hr
    refine ⟨by rw [sim, pt_len (by omega), hl], fun y hy => ?_⟩
    rcases mem_pt hy with e | hy
    · have := hg w hw; rw [Rw.inc]; omega
    · have := (h s hs).2 y hy; omega
  | less w n =>
    have hw : w < m := hr
    refine ⟨by rw [sim, pt_len (by omega), hl], fun y hy => ?_⟩
    rcases mem_pt hy with e | hy
    · have := hg w hw; rw [e]; split <;> omega
    · have := (h s hs).2 y hy; omega
  | draw w ns => exact absurd rfl (nd w ns)
  | _ => exact hr.elim
mutual
theorem Rw.sup_vx {m : Nat} : ∀ (r : Rw), r.ok m → ∀ (S : List (List Int)) (N : Nat), Vx m N S → Vx m (N + r.inc) (r.sup S)
  | .set w n, ho, S, N, h => Vx.nil.puts (sim_vx (r := .set w n) ho (fun _ _ e => by cases e) h)
  | .add w n, ho, S, N, h => Vx.nil.puts (sim_vx (r := .add w n) ho (fun _ _ e => by cases e) h)
  | .less w n, ho, S, N, h => Vx.nil.puts (sim_vx (r := .less w n) ho (fun _ _ e => by cases e) h)
  | .copy w n, ho, S, N, h => Vx.nil.puts (sim_vx (r := .copy w n) ho (fun _ _ e => by cases e) h)
  | .draw w ns, ho, S, N, h => Vx.nil.puts (drw_vx h ho.1)
  | .given t, ho, S, N, h => Vx.nil.puts (h.filter _)
  | .ite t a b, ho, S, N, h => (Vx.nil.puts ((sups_vx a ho.2.1 _ N (Vx.nil.puts (h.filter _))).mono (by rw [Rw.inc]; omega))).puts ((sups_vx b ho.2.2 _ N (Vx.nil.puts (h.filter _))).mono (by rw [Rw.inc]; omega))
  | .alt t a b, ho, S, N, h => (Vx.nil.puts ((sups_vx a ho.1 _ N h).mono (by rw [Rw.inc]; omega))).puts ((sups_vx b ho.2 _ N h).mono (by rw [Rw.inc]; omega))
theorem sups_vx {m : Nat} : ∀ (b : List Rw), oks m b → ∀ (S : List (List Int)) (N : Nat), Vx m N S → Vx m (N + incs b) (sups b S)
  | [], _, S, N, h => h
  | r :: b, ho, S, N, h => by
    have h1 := sups_vx b ho.2 (r.sup S) (N + r.inc) (Rw.sup_vx r ho.1 S N h)
    rw [sups, incs, ← Nat.add_assoc]
    exact h1
end
mutual
theorem Rw.sup_nd : ∀ (r : Rw) (S : List (List Int)), (r.sup S).Nodup
  | .set w n, S => puts_nd List.nodup_nil
  | .add w n, S => puts_nd List.nodup_nil
  | .less w n, S => puts_nd List.nodup_nil
  | .copy w n, S => puts_nd List.nodup_nil
  | .draw w ns, S => puts_nd List.nodup_nil
  | .given t, S => puts_nd List.nodup_nil
  | .ite t a b, S => puts_nd (puts_nd List.nodup_nil)
  | .alt t a b, S => puts_nd (puts_nd List.nodup_nil)
end
theorem sups_nd : ∀ (b : List Rw) (S : List (List Int)), S.Nodup → (sups b S).Nodup
  | [], S, h => h
  | r :: b, S, _ => sups_nd b _ (Rw.sup_nd r S)
/-! ### the def -/
def SU (b : List Rw) : Prop := ∀ m N S d st, dps b + 4 ≤ d → oks m b → (m = 1 ∨ m = 2) → Vx m N S → S.Nodup → N + incs b ≤ 63 → C d 49 [.tup (bT b), dkT S] st = .ok (false, dkT (sups b S), st)
def SubU (r : Rw) : Prop := (∀ t a b, r = .ite t a b → SU a ∧ SU b) ∧ ∀ t a b, r = .alt t a b → SU a ∧ SU b
theorem box_kl {m N : Nat} (hm : m = 1 ∨ m = 2) (hN : N ≤ 63) {s : List Int} (h : s.length = m ∧ ∀ x ∈ s, 0 ≤ x ∧ x ≤ N) : boxK (kl s) = true := by
  obtain ⟨hl, hx⟩ := h
  rcases hm with rfl | rfl
  · match s, hl with
    | [x], _ =>
      have := hx x (by simp)
      show decide (0 ≤ x ∧ x < 64) = true
      exact decide_eq_true (by omega)
  · match s, hl with
    | [x, y], _ =>
      have h1 := hx x (by simp)
      have h2 := hx y (by simp)
      show (decide (0 ≤ x ∧ x < 64) && decide (0 ≤ y ∧ y < 64)) = true
      rw [decide_eq_true (show 0 ≤ x ∧ x < 64 by omega), decide_eq_true (show 0 ≤ y ∧ y < 64 by omega)]; rfl
theorem box_all {m N : Nat} (hm : m = 1 ∨ m = 2) (hN : N ≤ 63) {S : List (List Int)} (h : Vx m N S) : (S.map kl).all boxK = true := by
  rw [List.all_eq_true]
  intro k hk
  obtain ⟨s, hs, rfl⟩ := List.mem_map.mp hk
  exact box_kl hm hN (h s hs)
theorem kl_nd {S : List (List Int)} (h : S.Nodup) : (S.map kl).Nodup := List.pairwise_map.mpr (h.imp fun n e => n (kl_inj e))
theorem vx_small {m N : Nat} (hm : m = 1 ∨ m = 2) (hN : N ≤ 63) {S : List (List Int)} (h : Vx m N S) (nd : S.Nodup) : S.length < 5000 := bx_small hm (show N + 1 ≤ 64 by omega) h.bx nd
/-- d.update(e) -/
theorem up_ok {m N : Nat} (hm : m = 1 ∨ m = 2) (hN : N ≤ 63) {A B : List (List Int)} (hA : Vx m N A) (ndA : A.Nodup) (hB : Vx m N B) (ndB : B.Nodup) (i : Nat) (Γ : Env) (st : St) (o : Bool) :
    kUp i Γ (.ok (o, dkT B, st)) = upO i (B.map kl) (tr B) Γ st Γ[i]? ∧ ∀ (h : Γ[i]? = some (some (true, dkT A))), kUp i Γ (.ok (o, dkT B, st)) = .nx (Γ.set i (some (true, dkT (puts A B)))) st := by
  have h1 : kUp i Γ (.ok (o, dkT B, st)) = upO i (B.map kl) (tr B) Γ st Γ[i]? := by unfold dkT; simp -implicitDefEqProofs []
  refine ⟨h1, fun h => ?_⟩
  have z1 := vx_small hm hN hA ndA
  have z2 := vx_small hm hN hB ndB
  have c1 : (A.map kl).length + (B.map kl).length ≤ 16777216 := by rw [List.length_map, List.length_map]; omega
  rw [h1, h]
  unfold dkT
  rw [upO_d, dPuts_tr, if_pos ⟨c1, .inr ⟨kl_nd ndB, box_all hm hN hB⟩⟩]
end K82
end

section
set_option autoImplicit false
set_option linter.all false
set_option maxRecDepth 100000
set_option maxHeartbeats 2000000
/-! M11: _law_support, the def. -/
namespace K82
open Ev
theorem kSt_nil {C : Cal} {W : Nat} {r : F} : kSt C W [] r = r := by cases r <;> rfl
theorem rtO_dk {S : List (List Int)} : rtO (some (some (true, dkT S))) = true := rfl
theorem kUp_dk {B : List (List Int)} {i : Nat} {Γ : Env} {st : St} {o : Bool} : kUp i Γ (.ok (o, dkT B, st)) = upO i (B.map kl) (tr B) Γ st Γ[i]? := by unfold dkT; simp -implicitDefEqProofs []
theorem updAt_dk {B : List (List Int)} {i : Nat} {Γ : Env} {st : St} : updAt Γ st i (dkT B) = upO i (B.map kl) (tr B) Γ st Γ[i]? := by unfold dkT; exact updAt_d
theorem upO_dk {m N : Nat} (hm : m = 1 ∨ m = 2) (hN : N ≤ 63) {A B : List (List Int)} (hA : Vx m N A) (ndA : A.Nodup) (hB : Vx m N B) (ndB : B.Nodup) (i : Nat) (Γ : Env) (st : St) :
    upO i (B.map kl) (tr B) Γ st (some (some (true, dkT A))) = .nx (Γ.set i (some (true, dkT (puts A B)))) st := by
  have z1 := vx_small hm hN hA ndA
  have z2 := vx_small hm hN hB ndB
  have c1 : (A.map kl).length + (B.map kl).length ≤ 16777216 := by rw [List.length_map, List.length_map]; omega
  unfold dkT
  rw [upO_d, dPuts_tr, if_pos ⟨c1, .inr ⟨kl_nd ndB, box_all hm hN hB⟩⟩]
theorem kKy_dk {S : List (List Int)} {st : St} : kKy st (some (dkT S)) = .ok (S.map sT, st) := by unfold dkT; rw [kKy_t, keys_map]
/-- found[row] = True -/
theorem set_dk (S : List (List Int)) (s : List Int) (Γ : Env) (st : St) (i : Nat) (hz : S.length < 16777216) : seO i (sT s) (.bl true) Γ st (some (some (true, dkT S))) = .nx (Γ.set i (some (true, dkT (put1 S s)))) st := by
  unfold dkT sT
  rw [seO_t (kysOf_ints s), dPut_tr]
  rw [if_pos (by rw [List.length_map]; exact hz)]
theorem giv_turn (cc : Cal) (t : Te) (s : List Int) (A : List (List Int)) (a q j5 j6 j7 j8 : Option (Bool × T)) (u v : T) (st : St) (hu : itemOf st u (.int 1) = some t.t) (h : cc 36 [t.t, sT s] st = .ok (false, .bl (t.holds s), st)) (hA : A.length < 16777216) :
    evSs cc 200 [.ite (.call 36 [.b .item (.v 2) (.c (.int 1)), .v 4]) [.set 3 (.v 4) (.c (.bl true))] []] [a, q, some (false, u), some (true, dkT A), some (false, sT s), j5, j6, j7, j8] st = .nx [a, q, some (false, u), some (true, dkT (puts A ([s].filter t.holds))), some (false, sT s), j5, j6, j7, j8] st := by
  cases z : t.holds s
  · have e : puts A ([s].filter t.holds) = A := by simp [List.filter, z, puts]
    rw [e]
    simp -implicitDefEqProofs [hu, h, z]
  · have e : puts A ([s].filter t.holds) = put1 A s := by simp [List.filter, z, puts]
    rw [e]
    simp -implicitDefEqProofs [hu, h, z, set_dk A s _ st 3 hA]
theorem sim_turn (cc : Cal) (r : Rw) (s : List Int) (A : List (List Int)) (a q j5 j6 j7 j8 : Option (Bool × T)) (st : St) (h : cc 38 [sT s, r.t] st = .ok (false, sT (sim r s), st)) (hA : A.length < 16777216) :
    evSs cc 200 [.set 3 (.call 38 [.v 4, .v 2]) (.c (.bl true))] [a, q, some (false, r.t), some (true, dkT A), some (false, sT s), j5, j6, j7, j8] st = .nx [a, q, some (false, r.t), some (true, dkT (put1 A (sim r s))), some (false, sT s), j5, j6, j7, j8] st := by
  simp -implicitDefEqProofs [h, set_dk A (sim r s) _ st 3 hA]
theorem sup_simple (cc : Cal) {m N : Nat} (hm : m = 1 ∨ m = 2) (r : Rw) (hr : r.simple m) (nd1 : ∀ w ns, r ≠ .draw w ns) (S : List (List Int)) (hS : Vx m N S) (hN : N + r.inc ≤ 63) (a j3 j4 j5 j6 j7 j8 : Option (Bool × T)) (st : St)
    (ex : ∃ k x, r.t = .tup (.sym k :: x) ∧ k ≠ 13 ∧ k ≠ 14 ∧ k ≠ 7 ∧ k ≠ 1 ∧ k ≠ 2) (h : ∀ s ∈ S, cc 38 [sT s, r.t] st = .ok (false, sT (sim r s), st)) :
    ∃ k4 k5 k6 k7 k8, evSs cc 200 (d__law_support.loop 0) [a, some (false, dkT S), some (false, r.t), j3, j4, j5, j6, j7, j8] st = .nx [a, some (false, dkT (puts [] (S.map (sim r)))), some (false, r.t), some (false, dkT (puts [] (S.map (sim r)))), k4, k5, k6, k7, k8] st := by
  obtain ⟨k, x, ex, n1, n2, n3, n4, n5⟩ := ex
  have e0 : itemOf st r.t (.int 0) = some (.sym k) := by rw [ex]; simp -implicitDefEqProofs []
  have ed : (T.dT [] [] : T) = dkT [] := rfl
  have hv := sim_vx hr nd1 hS
  unfold Fd.loop d__law_support
  simp -implicitDefEqProofs [Ev.S.bd, e0, n1, n2, n3, n4, n5, ed, kKy_dk, kSt_nil]
  refine forL_pk (fun z => ∃ k4 k5 k6 k7 k8, kSt cc 200 [.fr [3], .asg (.n 1) (.v 3)] (F.lk (.keys 1) z) = F.nx [a, some (false, dkT (puts [] (S.map (sim r)))), some (false, r.t), some (false, dkT (puts [] (S.map (sim r)))), k4, k5, k6, k7, k8] st) sT S (fun p Γ => ∃ k4, Γ = [a, some (false, dkT S), some (false, r.t), some (true, dkT (puts [] (p.map (sim r)))), k4, j5, j6, j7, j8]) _ ⟨j4, rfl⟩ (fun p s post Γ e i => ?_) fun Γ' i => ?_
  · obtain ⟨k4, rfl⟩ := i
    have hs : s ∈ S := by rw [e]; simp
    have hp : Vx m (N + r.inc) (p.map (sim r)) := fun u hu => hv u (by rw [e, List.map_append]; exact List.mem_append_left _ hu)
    have hz := vx_small hm hN (Vx.nil.puts hp) (puts_nd List.nodup_nil)
    refine ⟨_, fB_eq.trans (sim_turn cc r s _ a _ j5 j6 j7 j8 st (h s hs) (by omega)), some (false, sT s), ?_⟩
    rw [List.map_append, puts_app]; rfl
  · obtain ⟨k4, rfl⟩ := i
    exact ⟨k4, j5, j6, j7, j8, by simp -implicitDefEqProofs []⟩
theorem sup_turn (cc : Cal) {m N : Nat} (hm : m = 1 ∨ m = 2) (r : Rw) (ho : r.ok m) (S : List (List Int)) (hS : Vx m N S) (nd : S.Nodup) (hN : N + r.inc ≤ 63) (a j3 j4 j5 j6 j7 j8 : Option (Bool × T)) (st : St)
    (hd : ∀ w ns, r = .draw w ns → cc 48 [dkT S, .int (w : Int), drT ns] st = .ok (true, dkT (puts [] (S.flatMap (drw w ns))), st))
    (hh : ∀ t, r = .given t → ∀ s ∈ S, cc 36 [t.t, sT s] st = .ok (false, .bl (t.holds s), st))
    (hp : ∀ t x y, r = .ite t x y → cc 39 [dkT S, t.t] st = .ok (false, .tup [dkT (puts [] (S.filter t.holds)), dkT (puts [] (S.filter fun s => !t.holds s))], st))
    (hu : ∀ x A, ((∃ t y, r = .ite t x y ∨ r = .ite t y x) ∨ ∃ c y, r = .alt c x y ∨ r = .alt c y x) → Vx m N A → A.Nodup → cc 49 [.tup (bT x), dkT A] st = .ok (false, dkT (sups x A), st))
    (hs : (∀ w ns, r ≠ .draw w ns) → r.simple m → ∀ s ∈ S, cc 38 [sT s, r.t] st = .ok (false, sT (sim r s), st)) :
    ∃ k4 k5 k6 k7 k8, evSs cc 200 (d__law_support.loop 0) [a, some (false, dkT S), some (false, r.t), j3, j4, j5, j6, j7, j8] st = .nx [a, some (false, dkT (r.sup S)), some (false, r.t), some (false, dkT (r.sup S)), k4, k5, k6, k7, k8] st := by
  have ed : (T.dT [] [] : T) = dkT [] := rfl
  cases r with
  | set w n => exact sup_simple cc hm (.set w n) ho (fun _ _ e => by cases e) S hS hN a j3 j4 j5 j6 j7 j8 st ⟨_, _, rfl, by decide, by decide, by decide, by decide, by decide⟩ (hs (fun _ _ e => by cases e) ho)
  | add w n => exact sup_simple cc hm (.add w n) ho (fun _ _ e => by cases e) S hS hN a j3 j4 j5 j6 j7 j8 st ⟨_, _, rfl, by decide, by decide, by decide, by decide, by decide⟩ (hs (fun _ _ e => by cases e) ho)
  | less w n => exact sup_simple cc hm (.less w n) ho (fun _ _ e => by cases e) S hS hN a j3 j4 j5 j6 j7 j8 st ⟨_, _, rfl, by decide, by decide, by decide, by decide, by decide⟩ (hs (fun _ _ e => by cases e) ho)
  | copy w n => exact sup_simple cc hm (.copy w n) ho (fun _ _ e => by cases e) S hS hN a j3 j4 j5 j6 j7 j8 st ⟨_, _, rfl, by decide, by decide, by decide, by decide, by decide⟩ (hs (fun _ _ e => by cases e) ho)
  | draw w ns =>
    have h1 := hd w ns rfl
    refine ⟨j4, j5, j6, j7, j8, ?_⟩
    unfold Fd.loop d__law_support
    rw [Rw.sup]
    simp -implicitDefEqProofs [Ev.S.bd, Rw.t, ed, h1]
  | given t =>
    have h1 := hh t rfl
    unfold Fd.loop d__law_support
    rw [Rw.sup]
    simp -implicitDefEqProofs [Ev.S.bd, Rw.t, ed, kKy_dk, kSt_nil]
    refine forL_pk (fun z => ∃ k4 k5 k6 k7 k8, kSt cc 200 [.fr [3], .asg (.n 1) (.v 3)] (F.lk (.keys 1) z) = F.nx [a, some (false, dkT (puts [] (S.filter t.holds))), some (false, .tup [.sym 7, t.t]), some (false, dkT (puts [] (S.filter t.holds))), k4, k5, k6, k7, k8] st) sT S (fun p Γ => ∃ k4, Γ = [a, some (false, dkT S), some (false, .tup [.sym 7, t.t]), some (true, dkT (puts [] (p.filter t.holds))), k4, j5, j6, j7, j8]) _ ⟨j4, rfl⟩ (fun p s post Γ e i => ?_) fun Γ' i => ?_
    · obtain ⟨k4, rfl⟩ := i
      have hs : s ∈ S := by rw [e]; simp
      have hp : Vx m N (p.filter t.holds) := fun u hu => hS u (by rw [e]; exact List.mem_append_left _ (List.mem_filter.mp hu).1)
      have hz := vx_small hm (by omega) (Vx.nil.puts hp) (puts_nd List.nodup_nil)
      refine ⟨_, fB_eq.trans (giv_turn cc t s _ a _ j5 j6 j7 j8 _ .non st (by simp -implicitDefEqProofs []) (h1 s hs) (by omega)), some (false, sT s), ?_⟩
      rw [List.filter_append, puts_app]
    · obtain ⟨k4, rfl⟩ := i
      exact ⟨k4, j5, j6, j7, j8, by simp -implicitDefEqProofs []⟩
  | ite t x y =>
    have h1 := hp t x y rfl
    have v1 : Vx m N (puts [] (S.filter t.holds)) := Vx.nil.puts (hS.filter _)
    have v2 : Vx m N (puts [] (S.filter fun s => !t.holds s)) := Vx.nil.puts (hS.filter _)
    have h2 := hu x _ (.inl ⟨t, y, .inl rfl⟩) v1 (puts_nd List.nodup_nil)
    have h3 := hu y _ (.inl ⟨t, x, .inr rfl⟩) v2 (puts_nd List.nodup_nil)
    have w1 := (sups_vx x ho.2.1 _ N v1).mono (show N + incs x ≤ N + (Rw.ite t x y).inc by rw [Rw.inc]; omega)
    have w2 := (sups_vx y ho.2.2 _ N v2).mono (show N + incs y ≤ N + (Rw.ite t x y).inc by rw [Rw.inc]; omega)
    have d1 := sups_nd x (puts [] (S.filter t.holds)) (puts_nd List.nodup_nil)
    have d2 := sups_nd y (puts [] (S.filter fun s => !t.holds s)) (puts_nd List.nodup_nil)
    have u1 := fun Γ => upO_dk hm hN (A := []) Vx.nil List.nodup_nil w1 d1 3 Γ st
    have u2 := fun Γ => upO_dk hm hN (Vx.nil.puts w1) (puts_nd List.nodup_nil) w2 d2 3 Γ st
    refine ⟨j4, j5, j6, some (false, dkT (puts [] (S.filter t.holds))), some (false, dkT (puts [] (S.filter fun s => !t.holds s))), ?_⟩
    unfold Fd.loop d__law_support
    rw [Rw.sup]
    simp -implicitDefEqProofs [Ev.S.bd, Rw.t, ed, h1, h2, h3, rtO_dk, updAt_dk, u1, u2]
  | alt c x y =>
    have h2 := hu x S (.inr ⟨c, y, .inl rfl⟩) hS nd
    have h3 := hu y S (.inr ⟨c, x, .inr rfl⟩) hS nd
    have w1 := (sups_vx x ho.1 _ N hS).mono (show N + incs x ≤ N + (Rw.alt c x y).inc by rw [Rw.inc]; omega)
    have w2 := (sups_vx y ho.2 _ N hS).mono (show N + incs y ≤ N + (Rw.alt c x y).inc by rw [Rw.inc]; omega)
    have d1 := sups_nd x S nd
    have d2 := sups_nd y S nd
    have u1 := fun Γ => upO_dk hm hN (A := []) Vx.nil List.nodup_nil w1 d1 3 Γ st
    have u2 := fun Γ => upO_dk hm hN (Vx.nil.puts w1) (puts_nd List.nodup_nil) w2 d2 3 Γ st
    refine ⟨j4, j5, j6, j7, j8, ?_⟩
    unfold Fd.loop d__law_support
    rw [Rw.sup]
    simp -implicitDefEqProofs [Ev.S.bd, Rw.t, ed, h2, h3, rtO_dk, updAt_dk, u1, u2]
theorem su_of {b : List Rw} (h : ∀ r ∈ b, SubU r) : SU b := by
  intro m N S d st hd ho hm hS nd hN
  have h8 := dps_8 b
  obtain ⟨d, rfl⟩ : ∃ k, d = k + 6 := ⟨d - 6, by omega⟩
  rw [call_ir (show P 49 = Df.ir _ from rfl)]
  simp -implicitDefEqProofs [d__law_support]
  rw [bT_map]
  refine forL_pk (fun z => fin (kSt _ _ _ (F.lk _ z)) = _) Rw.t b (fun p Γ => ∃ j2 j3 j4 j5 j6 j7 j8, Γ = [some (false, .tup (b.map Rw.t)), some (false, dkT (sups p S)), j2, j3, j4, j5, j6, j7, j8]) _ ⟨_, _, _, _, _, _, _, rfl⟩ (fun p r post Γ e i => ?_) fun Γ' i => ?_
  · obtain ⟨j2, j3, j4, j5, j6, j7, j8, rfl⟩ := i
    have hr : r ∈ b := by rw [e]; simp
    have hor := oks_mem ho r hr
    have hdr := dps_mem hr
    have hop : oks m p := by
      have : ∀ (p post : List Rw), oks m (p ++ post) → oks m p := by
        intro p
        induction p with
        | nil => intro _ _; trivial
        | cons x p ih => intro post h; rw [List.cons_append, oks] at h; exact ⟨h.1, ih post h.2⟩
      exact this p (r :: post) (by rw [← e]; exact ho)
    have hinc : incs p + r.inc ≤ incs b := by
      have : ∀ (p post : List Rw), incs (p ++ r :: post) = incs p + (r.inc + incs post) := by
        intro p
        induction p with
        | nil => intro post; rw [List.nil_append, incs, incs]; omega
        | cons x p ih => intro post; rw [List.cons_append, incs, incs, ih]; omega
      rw [e, this]; omega
    have hv := sups_vx p hop S N hS
    have hn := sups_nd p S nd
    have hsu := h r hr
    have hlen : ∀ s ∈ sups p S, s.length = m := fun s hs => (hv s hs).1
    have esnoc : sups (p ++ [r]) S = r.sup (sups p S) := by
      have : ∀ (p : List Rw) (S : List (List Int)), sups (p ++ [r]) S = r.sup (sups p S) := by
        intro p
        induction p with
        | nil => intro S; rfl
        | cons x p ih => intro S; rw [List.cons_append, sups, sups, ih]
      exact this p S
    rw [esnoc]
    generalize hA : sups p S = A at hv hn hlen ⊢
    have T1 := sup_turn (C (d + 5)) hm r hor A hv hn (by omega) (some (false, .tup (b.map Rw.t))) j3 j4 j5 j6 j7 j8 st
    refine Exists.elim (T1 (fun w ns er => ?_) (fun t er s hs => ?_) (fun t x y er => ?_) (fun x B hx hB ndB => ?_) (fun ndr hsim s hs => ?_)) fun k4 ⟨k5, k6, k7, k8, t⟩ => ⟨_, fB_eq.trans t, _, _, _, _, _, _, _, rfl⟩
    · subst er
      have hb := drw_vx (ns := ns) hv hor.1
      exact m_added hm (show N + incs p + mx ns + 1 ≤ 64 by rw [Rw.inc] at hinc; omega) w ns A hor.1 hlen hb.bx (d + 3) st
    · subst er
      simp only [Rw.dp] at hdr
      exact m_holds' t s (d + 5) st (by omega) (by rw [hlen s hs]; exact hor)
    · subst er
      simp only [Rw.dp] at hdr
      exact m_split hm (show N + incs p + 1 ≤ 64 by omega) t A hv.bx hn hor.1 (d + 4) st (by omega)
    · rcases hx with ⟨t, y, er | er⟩ | ⟨t, y, er | er⟩ <;> subst er <;> simp only [Rw.dp] at hdr <;> rw [Rw.inc] at hinc
      · exact (hsu.1 _ _ _ rfl).1 m (N + incs p) B (d + 5) st (by omega) hor.2.1 hm hB ndB (by omega)
      · exact (hsu.1 _ _ _ rfl).2 m (N + incs p) B (d + 5) st (by omega) hor.2.2 hm hB ndB (by omega)
      · exact (hsu.2 _ _ _ rfl).1 m (N + incs p) B (d + 5) st (by omega) hor.1 hm hB ndB (by omega)
      · exact (hsu.2 _ _ _ rfl).2 m (N + incs p) B (d + 5) st (by omega) hor.2 hm hB ndB (by omega)
    · exact m_lsimple (r := r) (by rw [hlen s hs]; exact hsim) ndr (by rw [hlen s hs]; omega) (d + 3) st
  · obtain ⟨j2, j3, j4, j5, j6, j7, j8, rfl⟩ := i
    simp -implicitDefEqProofs []
theorem m_support : ∀ b : List Rw, SU b := by
  have key : ∀ r : Rw, SubU r := by
    refine Rw.ind (fun w n => ?_) (fun w n => ?_) (fun w n => ?_) (fun w n => ?_) (fun w n => ?_) (fun t => ?_) (fun t a b ha hb => ?_) (fun u a b ha hb => ?_)
    · exact ⟨fun _ _ _ h => (by cases h), fun _ _ _ h => (by cases h)⟩
    · exact ⟨fun _ _ _ h => (by cases h), fun _ _ _ h => (by cases h)⟩
    · exact ⟨fun _ _ _ h => (by cases h), fun _ _ _ h => (by cases h)⟩
    · exact ⟨fun _ _ _ h => (by cases h), fun _ _ _ h => (by cases h)⟩
    · exact ⟨fun _ _ _ h => (by cases h), fun _ _ _ h => (by cases h)⟩
    · exact ⟨fun _ _ _ h => (by cases h), fun _ _ _ h => (by cases h)⟩
    · refine ⟨fun t' a' b' e => ?_, fun _ _ _ h => (by cases h)⟩
      cases e
      exact ⟨su_of ha, su_of hb⟩
    · refine ⟨fun _ _ _ h => (by cases h), fun t' a' b' e => ?_⟩
      cases e
      exact ⟨su_of ha, su_of hb⟩
  exact fun b => su_of fun r _ => key r
end K82
end

section
set_option autoImplicit false
set_option linter.all false
set_option maxRecDepth 100000
set_option maxHeartbeats 2000000
/-! M12: starts, states, _law_sure, _law_same. -/
namespace K82
open Ev
def stL (m n : Nat) : List (List Int) := match m with
  | 1 => (List.range (n + 1)).map fun x : Nat => [(x : Int)]
  | _ => (List.range (n + 1)).flatMap fun x : Nat => (List.range (n + 1)).map fun y : Nat => [(x : Int), (y : Int)]
theorem mem_stL {m n : Nat} (hm : m = 1 ∨ m = 2) {s : List Int} : s ∈ stL m n ↔ s.length = m ∧ ∀ x ∈ s, 0 ≤ x ∧ x ≤ n := by
  rcases hm with rfl | rfl
  · show s ∈ (List.range (n + 1)).map (fun x : Nat => [(x : Int)]) ↔ _
    rw [List.mem_map]
    constructor
    · rintro ⟨x, hx, rfl⟩
      have := List.mem_range.mp hx
      exact ⟨rfl, fun y hy => by rw [List.mem_singleton.mp hy]; omega⟩
    · rintro ⟨h1, h2⟩
      match s, h1 with
      | [x], _ =>
        have := h2 x (by simp)
        exact ⟨x.toNat, List.mem_range.mpr (by omega), by rw [Int.toNat_of_nonneg this.1]⟩
  · show s ∈ (List.range (n + 1)).flatMap (fun x : Nat => (List.range (n + 1)).map fun y : Nat => [(x : Int), (y : Int)]) ↔ _
    rw [List.mem_flatMap]
    constructor
    · rintro ⟨x, hx, h⟩
      obtain ⟨y, hy, rfl⟩ := List.mem_map.mp h
      have h1 := List.mem_range.mp hx
      have h2 := List.mem_range.mp hy
      refine ⟨rfl, fun z hz => ?_⟩
      rcases List.mem_cons.mp hz with e | hz
      · omega
      · rw [List.mem_singleton.mp hz]; omega
    · rintro ⟨h1, h2⟩
      match s, h1 with
      | [x, y], _ =>
        have a := h2 x (by simp)
        have b := h2 y (by simp)
        exact ⟨x.toNat, List.mem_range.mpr (by omega), List.mem_map.mpr ⟨y.toNat, List.mem_range.mpr (by omega), by rw [Int.toNat_of_nonneg a.1, Int.toNat_of_nonneg b.1]⟩⟩
theorem stL_vx {m n : Nat} (hm : m = 1 ∨ m = 2) : Vx m n (stL m n) := fun s hs => (mem_stL hm).mp hs
theorem rangeT_nat (n : Nat) : rangeT 0 n = (List.range n).map fun k : Nat => T.int (k : Int) := by
  unfold rangeT
  exact List.map_congr_left fun k _ => by rw [Int.zero_add]
theorem st1_turn (cc : Cal) (x : Int) (S : List (List Int)) (a j4 : Option (Bool × T)) (st : St) (hS : S.length < 16777216) :
    evSs cc 200 (d__law_starts.loop 1) [some (false, .int 1), a, some (true, dkT S), some (false, .int x), j4] st = .nx [some (false, .int 1), a, some (true, dkT (put1 S [x])), some (false, .int x), j4] st := by
  have e : T.tup [.int x] = sT [x] := rfl
  unfold Fd.loop d__law_starts
  simp -implicitDefEqProofs [Ev.S.bd, e, set_dk S [x] _ st 2 hS]
theorem st2_in (cc : Cal) (x y : Int) (S : List (List Int)) (a b : Option (Bool × T)) (st : St) (hS : S.length < 16777216) :
    evSs cc 200 [.set 2 (.tup [.v 3, .v 4]) (.c (.bl true))] [a, b, some (true, dkT S), some (false, .int x), some (false, .int y)] st = .nx [a, b, some (true, dkT (put1 S [x, y])), some (false, .int x), some (false, .int y)] st := by
  have e : T.tup [.int x, .int y] = sT [x, y] := rfl
  simp -implicitDefEqProofs [e, set_dk S [x, y] _ st 2 hS]
theorem st2_turn (cc : Cal) {n : Nat} (hn : n ≤ 63) (x : Nat) (hx : x ≤ n) (S : List (List Int)) (j4 : Option (Bool × T)) (st : St) (hS : Vx 2 n S) (nd : S.Nodup) :
    ∃ k4, evSs cc 200 (d__law_starts.loop 1) [some (false, .int 2), some (false, .int (n : Int)), some (true, dkT S), some (false, .int (x : Int)), j4] st = .nx [some (false, .int 2), some (false, .int (n : Int)), some (true, dkT (puts S ((List.range (n + 1)).map fun y : Nat => [(x : Int), (y : Int)]))), some (false, .int (x : Int)), k4] st := by
  have e1 : (n : Int) + 1 = ((n + 1 : Nat) : Int) := rfl
  have hz : n + 1 < 4000000000 := by omega
  have hk : kR1 (.ok (false, .int ((n : Int) + 1), st)) = .ok (rangeT 0 (n + 1), st) := by rw [e1]; exact kR1_n hz
  unfold Fd.loop d__law_starts
  simp -implicitDefEqProofs [Ev.S.bd, hk, rangeT_nat]
  refine forL_pk (fun z => ∃ k4, kSt cc 200 [] (kSt cc 200 [] (F.lk (.rng1 (.b .add (.v 1) (.c (.int 1)))) z)) = F.nx [some (false, .int 2), some (false, .int (n : Int)), some (true, dkT (puts S ((List.range (n + 1)).map fun y : Nat => [(x : Int), (y : Int)]))), some (false, .int (x : Int)), k4] st) (fun k : Nat => T.int (k : Int)) (List.range (n + 1)) (fun p Γ => ∃ k4, Γ = [some (false, .int 2), some (false, .int (n : Int)), some (true, dkT (puts S (p.map fun y : Nat => [(x : Int), (y : Int)]))), some (false, .int (x : Int)), k4]) _ ⟨j4, rfl⟩ (fun p y post Γ e i => ?_) fun Γ' i => ?_
  · obtain ⟨k4, rfl⟩ := i
    have hp : Vx 2 n (p.map fun y : Nat => [(x : Int), (y : Int)]) := fun u hu => by
      obtain ⟨y, hy, rfl⟩ := List.mem_map.mp hu
      have hy2 : y ∈ List.range (n + 1) := by rw [e]; exact List.mem_append_left _ hy
      have := List.mem_range.mp hy2
      refine ⟨rfl, fun z hz => ?_⟩
      rcases List.mem_cons.mp hz with e | hz
      · omega
      · rw [List.mem_singleton.mp hz]; omega
    have hz := vx_small (.inr rfl) hn (hS.puts hp) (puts_nd nd)
    refine ⟨_, fB_eq.trans (st2_in cc x y _ _ _ st (by omega)), some (false, .int y), ?_⟩
    rw [List.map_append, puts_app]; rfl
  · obtain ⟨k4, rfl⟩ := i
    exact ⟨k4, by simp -implicitDefEqProofs []⟩
theorem m_starts {m n : Nat} (hm : m = 1 ∨ m = 2) (hn : n ≤ 63) (d : Nat) (st : St) : C (d + 1) 50 [.int (m : Int), .int (n : Int)] st = .ok (true, dkT (puts [] (stL m n)), st) := by
  rw [call_ir (show P 50 = Df.ir _ from rfl)]
  generalize C d = cc
  have ed : (T.dT [] [] : T) = dkT [] := rfl
  have e1 : (n : Int) + 1 = ((n + 1 : Nat) : Int) := rfl
  have hz : n + 1 < 4000000000 := by omega
  have hk : kR1 (.ok (false, .int ((n : Int) + 1), st)) = .ok (rangeT 0 (n + 1), st) := by rw [e1]; exact kR1_n hz
  simp -implicitDefEqProofs [d__law_starts, ed, hk, rangeT_nat]
  rcases hm with rfl | rfl
  · refine forL_pk (fun z => fin (kSt _ _ _ (F.lk _ z)) = _) (fun k : Nat => T.int (k : Int)) (List.range (n + 1)) (fun p Γ => ∃ j3 j4, Γ = [some (false, .int 1), some (false, .int (n : Int)), some (true, dkT (puts [] (p.map fun x : Nat => [(x : Int)]))), j3, j4]) _ ⟨none, none, rfl⟩ (fun p x post Γ e i => ?_) fun Γ' i => ?_
    · obtain ⟨j3, j4, rfl⟩ := i
      have hp : Vx 1 n (p.map fun x : Nat => [(x : Int)]) := fun u hu => by
        obtain ⟨y, hy, rfl⟩ := List.mem_map.mp hu
        have hy2 : y ∈ List.range (n + 1) := by rw [e]; exact List.mem_append_left _ hy
        have := List.mem_range.mp hy2
        exact ⟨rfl, fun z hz => by rw [List.mem_singleton.mp hz]; omega⟩
      have hz := vx_small (.inl rfl) hn (Vx.nil.puts hp) (puts_nd List.nodup_nil)
      refine ⟨_, fB_eq.trans (st1_turn cc x _ _ _ st (by omega)), some (false, .int x), j4, ?_⟩
      rw [List.map_append, puts_app]; rfl
    · obtain ⟨j3, j4, rfl⟩ := i
      simp -implicitDefEqProofs [stL]
  · refine forL_pk (fun z => fin (kSt _ _ _ (F.lk _ z)) = _) (fun k : Nat => T.int (k : Int)) (List.range (n + 1)) (fun p Γ => ∃ j3 j4, Γ = [some (false, .int 2), some (false, .int (n : Int)), some (true, dkT (puts [] (p.flatMap fun x : Nat => (List.range (n + 1)).map fun y : Nat => [(x : Int), (y : Int)]))), j3, j4]) _ ⟨none, none, rfl⟩ (fun p x post Γ e i => ?_) fun Γ' i => ?_
    · obtain ⟨j3, j4, rfl⟩ := i
      have hx2 : x ∈ List.range (n + 1) := by rw [e]; simp
      have hx := List.mem_range.mp hx2
      have hp : Vx 2 n (p.flatMap fun x : Nat => (List.range (n + 1)).map fun y : Nat => [(x : Int), (y : Int)]) := fun u hu => by
        obtain ⟨x', hx', h2⟩ := List.mem_flatMap.mp hu
        exact (mem_stL (m := 2) (.inr rfl)).mp (List.mem_flatMap.mpr ⟨x', by rw [e]; exact List.mem_append_left _ hx', h2⟩)
      obtain ⟨k4, t⟩ := st2_turn cc hn x (by omega) _ j4 st (Vx.nil.puts hp) (puts_nd List.nodup_nil)
      refine ⟨_, fB_eq.trans t, some (false, .int x), k4, ?_⟩
      rw [List.flatMap_append, puts_app]
      simp
    · obtain ⟨j3, j4, rfl⟩ := i
      simp -implicitDefEqProofs [stL]
/-! ### _law_states -/
def lst (m : Nat) (l : List Rw) : List (List Int) := sups l (puts [] (stL m (need l 10).toNat))
theorem m_lawStates {m : Nat} {p : List Nat} {b l : List Rw} (hm : m = 1 ∨ m = 2) (h : rows b p = some l) (hw : wids b) (hwl : wids l) (hol : oks m l) (hp : p.length ≤ 1000) (h33 : need l 10 ≤ 33) (hinc : (need l 10).toNat + incs l ≤ 63) (d : Nat) (st : St) (hd : p.length + dps l + 8 ≤ d) :
    C d 52 [.int (m : Int), .tup (bT b), pT p] st = .ok (false, dkT (lst m l), st) := by
  obtain ⟨d, rfl⟩ : ∃ k, d = k + 2 := ⟨d - 2, by omega⟩
  have h1 := m_lawRoad p b l h hw hp (d + 1) st (by omega)
  have h2 := m_lneed l hwl d 10 st (by omega)
  have hge := need_ge l 10
  have h3 := m_starts hm (show (need l 10).toNat ≤ 63 by omega) d st
  have e : (((need l 10).toNat : Nat) : Int) = need l 10 := by omega
  rw [e] at h3
  have h4 := m_support l m (need l 10).toNat (puts [] (stL m (need l 10).toNat)) (d + 1) st (by omega) hol hm (Vx.nil.puts (stL_vx hm)) (puts_nd List.nodup_nil) hinc
  rw [call_ir (show P 52 = Df.ir _ from rfl)]
  generalize C (d + 1) = cc at h1 h2 h3 h4 ⊢
  unfold lst
  simp -implicitDefEqProofs [d__law_states, h1, h2, h3, h4]
/-! ### _law_sure -/
def lastI : Int → List Int → Int
  | x, [] => x
  | _, y :: l => lastI y l
theorem lastI_get : ∀ (x : Int) (l : List Int), (x :: l)[l.length]? = some (lastI x l)
  | x, [] => rfl
  | x, y :: l => by rw [lastI, List.length_cons, List.getElem?_cons_succ]; exact lastI_get y l
def lsure (S : List (List Int)) (w : Nat) : List Int := match Ev.sortI (S.map fun s => gi s w) with
  | [] => []
  | x :: ns => if 9 < lastI x ns ∨ x ≠ lastI x ns then [] else [x]
theorem sortI_len : ∀ l : List Int, (Ev.sortI l).length = l.length
  | [] => rfl
  | x :: l => by
    have ih := sortI_len l
    have h : ∀ k : List Int, (insI x k).length = k.length + 1 := by
      intro k
      induction k with
      | nil => rfl
      | cons y k ih => unfold insI; split <;> simp [ih]
    show (insI x (Ev.sortI l)).length = _
    rw [h, ih]; rfl
theorem beqn (ns : List Int) : eqOf (.lst (itsL ns)) (.lst []) = some (decide (ns = [])) := by
  unfold eqOf
  have e1 : T.plain (.lst (itsL ns)) = true := plain_ints ns
  rw [e1, if_pos ⟨rfl, rfl, by
    have : T.depth (.lst []) = 1 := rfl
    rw [this]; omega⟩]
  cases ns with
  | nil => rfl
  | cons s S => simp; rfl
theorem m_lsure {m : Nat} (S : List (List Int)) (w : Nat) (hw : Wd m S) (hwm : w < m) (hz : S.length < 5000) (d : Nat) (st : St) :
    C (d + 1) 53 [dkT S, .int (w : Int)] st = .ok (false, sT (lsure S w), st) := by
  rw [call_ir (show P 53 = Df.ir _ from rfl)]
  generalize C d = cc
  have hc := compL_map (f := cB cc [3] (.n 3) (.c (.bl true)) (.b .item (.v 3) (.v 1)) [some (false, dkT S), some (false, .int (w : Int)), none, none]) (st := st) (fun s => T.int (gi s w)) sT S fun u hu => by
    have h2 : w < u.length := by rw [hw u hu]; exact hwm
    have e2 : itemOf st (sT u) (.int (w : Int)) = some (.int (gi u w)) := by simp -implicitDefEqProofs [sT, h2]
    simp -implicitDefEqProofs [e2]
  have eb : S.map (fun s => T.int (gi s w)) = itsL (S.map fun s => gi s w) := by unfold itsL; rw [List.map_map]; rfl
  rw [eb] at hc
  have hl := sortI_len (S.map fun s => gi s w)
  rw [List.length_map] at hl
  unfold lsure
  have hz2 : (S.map fun s => gi s w).length ≤ 16777216 := by rw [List.length_map]; omega
  generalize S.map (fun s => gi s w) = ns0 at hc hl hz2 ⊢
  simp -implicitDefEqProofs [d__law_sure, kKy_dk, hc, hz2, beqn, -item_l]
  have hl2 : (Ev.sortI ns0).length ≤ 5000 := by omega
  generalize Ev.sortI ns0 = ns at hl2 ⊢
  rcases ns with _ | ⟨x, ns⟩
  · simp -implicitDefEqProofs []
    rfl
  · have e0 : itemOf st (.lst (itsL (x :: ns))) (.int 0) = some (.int x) := by
      rw [item_l, ixOf_0 (by rw [ints_len, List.length_cons]; omega)]
      exact ints_get (s := x :: ns) (w := 0) (by rw [List.length_cons]; omega)
    have e1 : itemOf st (.lst (itsL (x :: ns))) (.int (-1)) = some (.int (lastI x ns)) := by
      have ei : ixOf (itsL (x :: ns)).length (-1) = some ns.length := by
        rw [ints_len]
        unfold ixOf
        rw [if_neg (by decide), if_pos (by rw [List.length_cons]; omega)]
        congr 1
        rw [List.length_cons]; omega
      rw [item_l, ei]
      show (itsL (x :: ns))[ns.length]? = _
      unfold itsL
      rw [List.getElem?_map, lastI_get]
      rfl
    have en : decide (x :: ns = []) = false := rfl
    dsimp only
    generalize lastI x ns = y at e1 ⊢
    generalize decide (x :: ns = []) = q at en ⊢
    generalize itsL (x :: ns) = L at e0 e1 ⊢
    subst en
    simp -implicitDefEqProofs [e0, e1, -item_l]
    by_cases h9 : 9 < y
    · simp -implicitDefEqProofs [h9]
      rfl
    · by_cases hxy : x = y
      · simp -implicitDefEqProofs [h9, hxy]
        rfl
      · simp -implicitDefEqProofs [h9, hxy]
        rfl
/-! ### _law_same -/
mutual
def sg : T → Bool
  | .int _ => true
  | .sym _ => true
  | .xt [] => true
  | .tup ts => sgs ts
  | _ => false
def sgs : List T → Bool
  | [] => true
  | t :: ts => sg t && sgs ts
end
mutual
def sd : T → Nat
  | .tup ts => sds ts + 1
  | _ => 1
def sds : List T → Nat
  | [] => 1
  | t :: ts => max (sd t) (sds ts)
end
theorem m_isInt (n : Int) (d : Nat) (st : St) : C (d + 1) 29 [.int n] st = .ok (false, .bl true, st) := by
  rw [call_ir (show P 29 = Df.ir _ from rfl)]
  simp -implicitDefEqProofs [d__law_is_int]
mutual
def tsz : T → Bool
  | .tup ts => decide (ts.length < 1000) && tszs ts
  | _ => true
def tszs : List T → Bool
  | [] => true
  | t :: ts => tsz t && tszs ts
end
def Sm (t : T) : Prop := ∀ d st, sd t + 1 ≤ d → C d 30 [t, t] st = .ok (false, .bl true, st)
theorem same_tup {ts : List T} (hz : ts.length < 1000) (h : ∀ t ∈ ts, Sm t) : ∀ d st, (∀ t ∈ ts, sd t + 1 ≤ d) → C (d + 1) 30 [.tup ts, .tup ts] st = .ok (false, .bl true, st) := by
  intro d st hd
  rw [call_ir (show P 30 = Df.ir _ from rfl)]
  have h := fun t (ht : t ∈ ts) => h t ht d st (hd t ht)
  generalize C d = cc at h ⊢
  have hz2 : ts.length < 4000000000 := by omega
  simp -implicitDefEqProofs [d__law_same, hz2, rangeT_nat]
  rw [compL_map (fun _ => T.bl true) (fun k : Nat => T.int (k : Int)) (List.range ts.length) fun k hk => by
    have hk := List.mem_range.mp hk
    have ht := h ts[k] (List.getElem_mem hk)
    simp -implicitDefEqProofs [hk, ht]]
  have e1 : (List.range ts.length).map (fun _ => T.bl true) = ((List.range ts.length).map fun _ => true).map T.bl := by rw [List.map_map]; rfl
  have e2 := blsOf_map ((List.range ts.length).map fun _ => true)
  have e3 : (((List.range ts.length).map fun _ => true).map T.bl).length ≤ 16777216 := by rw [List.length_map, List.length_map, List.length_range]; omega
  have e4 : ((List.range ts.length).map fun _ => true).all id = true := by rw [List.all_eq_true]; intro b hb; obtain ⟨_, _, e⟩ := List.mem_map.mp hb; exact e.symm
  rw [e1]
  generalize (List.range ts.length).map (fun _ => true) = bs at e2 e3 e4 ⊢
  generalize bs.map T.bl = bt at e2 e3 ⊢
  simp -implicitDefEqProofs [e2, e3, e4]
mutual
theorem same_ok : ∀ t : T, sg t = true → tsz t = true → Sm t
  | .int n, _, _ => fun d st hd => by
    obtain ⟨d, rfl⟩ : ∃ k, d = k + 2 := ⟨d - 2, by simp only [sd] at hd; omega⟩
    have h1 := m_isInt n d st
    rw [call_ir (show P 30 = Df.ir _ from rfl)]
    generalize C (d + 1) = cc at h1 ⊢
    simp -implicitDefEqProofs [d__law_same, h1]
  | .sym n, _, _ => fun d st hd => by
    obtain ⟨d, rfl⟩ : ∃ k, d = k + 2 := ⟨d - 2, by simp only [sd] at hd; omega⟩
    rw [call_ir (show P 30 = Df.ir _ from rfl)]
    simp -implicitDefEqProofs [d__law_same]
  | .xt [], _, _ => fun d st hd => by
    obtain ⟨d, rfl⟩ : ∃ k, d = k + 2 := ⟨d - 2, by simp only [sd] at hd; omega⟩
    have hz : kR1 (.ok (false, .int 0, st)) = .ok (rangeT 0 0, st) := kR1_n (n := 0) (by decide)
    rw [call_ir (show P 30 = Df.ir _ from rfl)]
    simp -implicitDefEqProofs [d__law_same, hz, rangeT]
  | .tup ts, h, hz => fun d st hd => by
    obtain ⟨d, rfl⟩ : ∃ k, d = k + 1 := ⟨d - 1, by omega⟩
    rw [tsz, Bool.and_eq_true] at hz
    rw [sd] at hd
    refine same_tup (of_decide_eq_true hz.1) (same_oks ts (by rw [sg] at h; exact h) hz.2) d st fun t ht => ?_
    have : ∀ (l : List T), t ∈ l → sd t ≤ sds l := by
      intro l
      induction l with
      | nil => intro h; exact absurd h (by simp)
      | cons x l ih =>
        intro h
        rw [sds]
        rcases List.mem_cons.mp h with e | h
        · rw [e]; omega
        · have := ih h; omega
    have := this ts ht
    omega
  | .non, h, _ => by cases h
  | .bl _, h, _ => by cases h
  | .lst _, h, _ => by cases h
  | .dK _ _, h, _ => by cases h
  | .dT _ _, h, _ => by cases h
  | .ref _, h, _ => by cases h
  | .xt (_ :: _), h, _ => by cases h
theorem same_oks : ∀ ts : List T, sgs ts = true → tszs ts = true → ∀ t ∈ ts, Sm t
  | [], _, _, t, h => absurd h (by simp)
  | x :: ts, h, hz, t, ht => by
    rw [sgs, Bool.and_eq_true] at h
    rw [tszs, Bool.and_eq_true] at hz
    have h1 := same_ok x h.1 hz.1
    have h2 := same_oks ts h.2 hz.2
    rcases List.mem_cons.mp ht with e | ht
    · rw [e]; exact h1
    · exact h2 t ht
end
end K82
end

section
set_option autoImplicit false
set_option linter.all false
set_option maxRecDepth 100000
set_option maxHeartbeats 2000000
/-! M13: draws. -/
namespace Ev
section
variable {C : Cal} {W : Nat} {Γ : Env} {st s : St} {i : Nat} {t u w : T} {o : Bool} {ts us : List T} {e a b c : E} {ss : List S}
def kG2 (C : Cal) (t : T) (z : E) (Γ : Env) (r : X3) : X3 := r.bind fun y => (evE C z Γ y.2.2).bind fun w => match getOf t y.2.1 with
    | some o => .ok (false, o.getD w.2.1, w.2.2)
    | none => .bad
def kG4 (w : T) (s : St) : Option (Option T) → X3
  | some o => .ok (false, o.getD w, s)
  | none => .bad
def kG3 (t u : T) (r : X3) : X3 := r.bind fun w => match getOf t u with
    | some o => .ok (false, o.getD w.2.1, w.2.2)
    | none => .bad
@[simp] theorem kG_ok : kG C a b Γ (.ok (o, t, s)) = if isD t = true then kG2 C t b Γ (evE C a Γ s) else .bad := rfl
@[simp] theorem kG2_ok : kG2 C t b Γ (.ok (o, u, s)) = kG3 t u (evE C b Γ s) := rfl
@[simp] theorem kG3_ok : kG3 t u (.ok (o, w, s)) = kG4 w s (getOf t u) := by
  show (match getOf t u with | some o => .ok (false, o.getD w, s) | none => .bad : X3) = _
  rcases getOf t u with _ | _ <;> rfl
@[simp] theorem kG4_ok {x : Option T} : kG4 w s (some x) = .ok (false, x.getD w, s) := rfl
@[simp] theorem isD_k {ks : List Ky} : isD (.dK ks ts) = true := rfl
@[simp] theorem getOf_k {ks : List Ky} : getOf (.dK ks ts) t = (kyOf t).map fun k => dGet ks ts k := rfl
@[simp] theorem dGet_n {k : Ky} : dGet ([] : List Ky) ([] : List T) k = none := rfl
@[simp] theorem dGet_c {k k' : Ky} {ks : List Ky} : dGet (k' :: ks) (t :: ts) k = if k' = k then some t else dGet ks ts k := rfl
def kK3 (u : T) (s : St) : Option Ky → X3
  | some k => .ok (true, .dK [k] [u], s)
  | none => .bad
def kK2 (t : T) (r : X3) : X3 := r.bind fun y => match kyOf t with
    | some k => .ok (true, .dK [k] [y.2.1], y.2.2)
    | none => .bad
@[simp] theorem kK_ok : kK C e Γ (.ok (o, t, s)) = kK2 t (evE C e Γ s) := rfl
@[simp] theorem kK2_ok : kK2 t (.ok (o, u, s)) = kK3 u s (kyOf t) := by
  show (match kyOf t with | some k => .ok (true, .dK [k] [u], s) | none => .bad : X3) = _
  rcases kyOf t with _ | _ <;> rfl
@[simp] theorem kK3_ok {k : Ky} : kK3 u s (some k) = .ok (true, .dK [k] [u], s) := rfl
def seK (i : Nat) (ks : List Ky) (ts : List T) (u : T) (Γ : Env) (st : St) : Option Ky → F
  | some y => if ks.length < SZ then .nx (Γ.set i (some (true, .dK (dPut ks ts y u).1 (dPut ks ts y u).2))) st else .bad
  | none => .bad
@[simp] theorem seK_s {ks : List Ky} {k : Ky} : seK i ks ts u Γ st (some k) = if ks.length < SZ then .nx (Γ.set i (some (true, .dK (dPut ks ts k u).1 (dPut ks ts k u).2))) st else .bad := rfl
@[simp] theorem seO_dk {ks : List Ky} : seO i t u Γ st (some (some (true, .dK ks ts))) = seK i ks ts u Γ st (kyOf t) := by
  show (match kyOf t with | some y => if ks.length < SZ then .nx (Γ.set i (some (true, .dK (dPut ks ts y u).1 (dPut ks ts y u).2))) st else .bad | none => .bad : F) = _
  rcases kyOf t with _ | _ <;> rfl
def seI (c : Nat) (u : T) (ts : List T) (Γ : Env) (st : St) : Option Nat → F
  | some j => .nx Γ (st.set c (ts.set j u))
  | none => .bad
def seC (c : Nat) (n : Int) (u : T) (Γ : Env) (st : St) : Option (List T) → F
  | some ts => seI c u ts Γ st (ixOf ts.length n)
  | none => .bad
@[simp] theorem seI_s {c j : Nat} : seI c u ts Γ st (some j) = .nx Γ (st.set c (ts.set j u)) := rfl
@[simp] theorem seC_s {c : Nat} {n : Int} : seC c n u Γ st (some ts) = seI c u ts Γ st (ixOf ts.length n) := rfl
@[simp] theorem seO_ref {c : Nat} {n : Int} : seO i (.int n) u Γ st (some (some (o, .ref c))) = seC c n u Γ st st[c]? := by
  rcases h : st[c]? with _ | ts
  · cases o <;> simp only [seO, h, seC]
  · cases o <;>
    · simp only [seO, h, seC]
      rcases h2 : ixOf ts.length n with _ | j <;> rfl
def oSK : Option (List Int) → O
  | some ns => if ns.length < 64 then .ok (true, .lst ((Ev.sortI ns).map T.int)) else .bad
  | none => .bad
@[simp] theorem oSK_s {ns : List Int} : oSK (some ns) = if ns.length < 64 then .ok (true, .lst ((Ev.sortI ns).map T.int)) else .bad := rfl
@[simp] theorem op1_sortK {ks : List Ky} : op1 st .sortI (.dK ks ts) = oSK (kyInts ks) := by
  show (match kyInts ks with | some ns => if ns.length < 64 then .ok (true, .lst ((Ev.sortI ns).map T.int)) else .bad | _ => .bad : O) = _
  rcases kyInts ks with _ | m <;> rfl
@[simp] theorem kyInts_n : kyInts [] = some [] := rfl
@[simp] theorem kyInts_c {n : Int} {ks : List Ky} : kyInts (.i n :: ks) = (kyInts ks).map fun ns => n :: ns := rfl
end
end Ev
namespace K82
open Ev
/-! ### chances -/
theorem c31 (d : Nat) (ts : List T) (st : St) : C (d + 1) 31 ts st = if ts.length = d__law_gcd.np then fin (evSs (C d) 200 d__law_gcd.body (startE d__law_gcd.nl ts) st) else .bad := call_ir rfl d ts st
theorem c32 (d : Nat) (ts : List T) (st : St) : C (d + 1) 32 ts st = if ts.length = d__law_fraction.np then fin (evSs (C d) 200 d__law_fraction.body (startE d__law_fraction.nl ts) st) else .bad := call_ir rfl d ts st
theorem c33 (d : Nat) (ts : List T) (st : St) : C (d + 1) 33 ts st = if ts.length = d__law_plus.np then fin (evSs (C d) 200 d__law_plus.body (startE d__law_plus.nl ts) st) else .bad := call_ir rfl d ts st
theorem c34 (d : Nat) (ts : List T) (st : St) : C (d + 1) 34 ts st = if ts.length = d__law_rest.np then fin (evSs (C d) 200 d__law_rest.body (startE d__law_rest.nl ts) st) else .bad := call_ir rfl d ts st
theorem c35 (d : Nat) (ts : List T) (st : St) : C (d + 1) 35 ts st = if ts.length = d__law_part_of.np then fin (evSs (C d) 200 d__law_part_of.body (startE d__law_part_of.nl ts) st) else .bad := call_ir rfl d ts st
def chT (a b : Int) : T := .tup [.tup [.int 0, .tup [.int a, .int b]]]
theorem gcd_1_2 (d : Nat) (st : St) : C (d + 1) 31 [.int 1, .int 2] st = .ok (false, .int 1, st) := by
  simp -implicitDefEqProofs [c31, d__law_gcd, s_while, while_s]
theorem gcd_1_4 (d : Nat) (st : St) : C (d + 1) 31 [.int 1, .int 4] st = .ok (false, .int 1, st) := by
  simp -implicitDefEqProofs [c31, d__law_gcd, s_while, while_s]
theorem gcd_1_8 (d : Nat) (st : St) : C (d + 1) 31 [.int 1, .int 8] st = .ok (false, .int 1, st) := by
  simp -implicitDefEqProofs [c31, d__law_gcd, s_while, while_s]
theorem gcd_2_3 (d : Nat) (st : St) : C (d + 1) 31 [.int 2, .int 3] st = .ok (false, .int 1, st) := by
  simp -implicitDefEqProofs [c31, d__law_gcd, s_while, while_s]
theorem gcd_2_6 (d : Nat) (st : St) : C (d + 1) 31 [.int 2, .int 6] st = .ok (false, .int 2, st) := by
  simp -implicitDefEqProofs [c31, d__law_gcd, s_while, while_s]
theorem gcd_3_5 (d : Nat) (st : St) : C (d + 1) 31 [.int 3, .int 5] st = .ok (false, .int 1, st) := by
  simp -implicitDefEqProofs [c31, d__law_gcd, s_while, while_s]
theorem gcd_3_10 (d : Nat) (st : St) : C (d + 1) 31 [.int 3, .int 10] st = .ok (false, .int 1, st) := by
  simp -implicitDefEqProofs [c31, d__law_gcd, s_while, while_s]
theorem plus_1_2 (d : Nat) (st : St) : C (d + 3) 33 [.tup [.int 1, .int 1], .tup [.int (-1), .int 2]] st = .ok (false, .tup [.int 1, .int 2], st) := by
  simp -implicitDefEqProofs [c33, c32, d__law_plus, d__law_fraction, gcd_1_2]
theorem rest_1_2 (d : Nat) (st : St) : C (d + 4) 34 [chT 1 2] st = .ok (false, chT 1 2, st) := by
  simp -implicitDefEqProofs [c34, d__law_rest, chT, forL, plus_1_2, dPut, dRep, Ev.sortI, insI]
theorem part_1_2 (d : Nat) (st : St) : C (d + 3) 35 [chT 1 2, .int 2] st = .ok (false, chT 1 4, st) := by
  simp -implicitDefEqProofs [c35, c32, d__law_part_of, d__law_fraction, chT, gcd_1_4]
theorem plus_1_3 (d : Nat) (st : St) : C (d + 3) 33 [.tup [.int 1, .int 1], .tup [.int (-1), .int 3]] st = .ok (false, .tup [.int 2, .int 3], st) := by
  simp -implicitDefEqProofs [c33, c32, d__law_plus, d__law_fraction, gcd_2_3]
theorem rest_1_3 (d : Nat) (st : St) : C (d + 4) 34 [chT 1 3] st = .ok (false, chT 2 3, st) := by
  simp -implicitDefEqProofs [c34, d__law_rest, chT, forL, plus_1_3, dPut, dRep, Ev.sortI, insI]
theorem part_1_3 (d : Nat) (st : St) : C (d + 3) 35 [chT 2 3, .int 2] st = .ok (false, chT 1 3, st) := by
  simp -implicitDefEqProofs [c35, c32, d__law_part_of, d__law_fraction, chT, gcd_2_6]
theorem plus_3_4 (d : Nat) (st : St) : C (d + 3) 33 [.tup [.int 1, .int 1], .tup [.int (-3), .int 4]] st = .ok (false, .tup [.int 1, .int 4], st) := by
  simp -implicitDefEqProofs [c33, c32, d__law_plus, d__law_fraction, gcd_1_4]
theorem rest_3_4 (d : Nat) (st : St) : C (d + 4) 34 [chT 3 4] st = .ok (false, chT 1 4, st) := by
  simp -implicitDefEqProofs [c34, d__law_rest, chT, forL, plus_3_4, dPut, dRep, Ev.sortI, insI]
theorem part_3_4 (d : Nat) (st : St) : C (d + 3) 35 [chT 1 4, .int 2] st = .ok (false, chT 1 8, st) := by
  simp -implicitDefEqProofs [c35, c32, d__law_part_of, d__law_fraction, chT, gcd_1_8]
theorem plus_2_5 (d : Nat) (st : St) : C (d + 3) 33 [.tup [.int 1, .int 1], .tup [.int (-2), .int 5]] st = .ok (false, .tup [.int 3, .int 5], st) := by
  simp -implicitDefEqProofs [c33, c32, d__law_plus, d__law_fraction, gcd_3_5]
theorem rest_2_5 (d : Nat) (st : St) : C (d + 4) 34 [chT 2 5] st = .ok (false, chT 3 5, st) := by
  simp -implicitDefEqProofs [c34, d__law_rest, chT, forL, plus_2_5, dPut, dRep, Ev.sortI, insI]
theorem part_2_5 (d : Nat) (st : St) : C (d + 3) 35 [chT 3 5, .int 2] st = .ok (false, chT 3 10, st) := by
  simp -implicitDefEqProofs [c35, c32, d__law_part_of, d__law_fraction, chT, gcd_3_10]
end K82
end

section
set_option autoImplicit false
set_option linter.all false
set_option maxRecDepth 100000
set_option maxHeartbeats 2000000
/-! M14: the law's draws. -/
namespace K82
open Ev
def Dr (st : St) : Prop := ∃ (sc : List Int) (a b c : Int), st = [[.lst (itsL sc), .int a, .int b, .int c]]
theorem m_drawI (m : Int) (h0 : 0 < m) (h1 : m < 1073741824) (d : Nat) (st : St) (h : Dr st) : ∃ (x : Int) (st' : St), 0 ≤ x ∧ x < m ∧ Dr st' ∧ C (d + 1) 27 [.ref 0, .int m] st = .ok (false, .int x, st') := by
  obtain ⟨sc, a, b, c, rfl⟩ := h
  rw [call_ir (show P 27 = Df.ir _ from rfl)]
  generalize C d = cc
  by_cases hb : 0 < b
  · refine ⟨b % m, [[.lst (itsL sc), .int a, .int (b / m), .int (c + 1)]], Int.emod_nonneg _ (by omega), Int.emod_lt_of_pos _ h0, ⟨sc, a, b / m, c + 1, rfl⟩, ?_⟩
    simp -implicitDefEqProofs [d__law_draw, hb, h0, h1]
  · by_cases hs : 0 < sc.length
    · have hm0 : 0 ≤ a % (sc.length : Int) := Int.emod_nonneg _ (by omega)
      have hm1 : a % (sc.length : Int) < (sc.length : Int) := Int.emod_lt_of_pos _ (by omega)
      have hx : ixOf sc.length (a % (sc.length : Int)) = some (a % (sc.length : Int)).toNat := by
        unfold ixOf
        rw [if_pos hm0, if_pos hm1]
      have hk : (a % (sc.length : Int)).toNat < sc.length := by omega
      generalize (a % (sc.length : Int)).toNat = k at hx hk
      have hs' : (0 : Int) < (sc.length : Int) := by omega
      generalize hcell : (if gi sc k < 0 then -gi sc k else gi sc k) = cell
      by_cases hc : (1000000000000000000 : Int) ≤ cell
      · refine ⟨cell % m, [[.lst (itsL sc), .int (a + 1), .int (cell / m), .int (c + 1)]], Int.emod_nonneg _ (by omega), Int.emod_lt_of_pos _ h0, ⟨sc, a + 1, cell / m, c + 1, rfl⟩, ?_⟩
        simp -implicitDefEqProofs [d__law_draw, hb, h0, h1, hs', hs, hx, hk, hcell, hc]
      · refine ⟨((((cell + 1) * 48271 + (c + 1) * 69621) % 2147483647 * 16807 + cell / 97 + (c + 1)) % 2147483629) / 11 % m, [[.lst (itsL sc), .int (a + 1), .int b, .int (c + 1)]], Int.emod_nonneg _ (by omega), Int.emod_lt_of_pos _ h0, ⟨sc, a + 1, b, c + 1, rfl⟩, ?_⟩
        simp -implicitDefEqProofs [d__law_draw, hb, h0, h1, hs', hs, hx, hk, hcell, hc]
    · have e : sc = [] := List.eq_nil_of_length_eq_zero (by omega)
      subst e
      refine ⟨((((0 + 1) * 48271 + (c + 1) * 69621) % 2147483647 * 16807 + 0 / 97 + (c + 1)) % 2147483629) / 11 % m, [[.lst (itsL []), .int (a + 1), .int b, .int (c + 1)]], Int.emod_nonneg _ (by omega), Int.emod_lt_of_pos _ h0, ⟨[], a + 1, b, c + 1, rfl⟩, ?_⟩
      simp -implicitDefEqProofs [d__law_draw, hb, h0, h1]
theorem m_draw (m : Nat) (h0 : 0 < m) (h1 : m < 1073741824) (d : Nat) (st : St) (h : Dr st) : ∃ (k : Nat) (st' : St), k < m ∧ Dr st' ∧ C (d + 1) 27 [.ref 0, .int (m : Int)] st = .ok (false, .int (k : Int), st') := by
  obtain ⟨x, st', a, b, c, e⟩ := m_drawI m (by omega) (by omega) d st h
  exact ⟨x.toNat, st', by omega, c, by rw [e, Int.toNat_of_nonneg a]⟩
theorem m_oneOf (ts : List T) (h0 : 0 < ts.length) (h1 : ts.length < 1073741824) (q : Bool) (d : Nat) (st : St) (h : Dr st) : ∃ (t : T) (st' : St), t ∈ ts ∧ Dr st' ∧ C (d + 2) 28 [.ref 0, sqT q ts] st = .ok (false, t, st') := by
  obtain ⟨k, st', hk, hd, e⟩ := m_draw ts.length h0 h1 d st h
  refine ⟨ts[k], st', List.getElem_mem hk, hd, ?_⟩
  rw [call_ir (show P 28 = Df.ir _ from rfl)]
  generalize C (d + 1) = cc at e ⊢
  cases q
  · simp -implicitDefEqProofs [d__law_one_of, sqT, e, hk]
  · simp -implicitDefEqProofs [d__law_one_of, sqT, e, hk]
/-! ### chances, tables, tests -/
def chs : List T := [chT 1 2, chT 1 3, chT 3 4, chT 2 5]
theorem m_chance (d : Nat) (st : St) (h : Dr st) : ∃ (c : T) (st' : St), c ∈ chs ∧ Dr st' ∧ C (d + 3) 40 [.ref 0, .bl false] st = .ok (false, c, st') := by
  obtain ⟨c, st', hc, hd, e⟩ := m_oneOf chs (by decide) (by decide) false d st h
  refine ⟨c, st', hc, hd, ?_⟩
  rw [call_ir (show P 40 = Df.ir _ from rfl)]
  have e : C (d + 2) 28 [.ref 0, .lst [chT 1 2, chT 1 3, chT 3 4, chT 2 5]] st = _ := e
  generalize C (d + 2) = cc at e ⊢
  unfold chT at e
  simp -implicitDefEqProofs [d__law_some_chance, e]
/-- a chance's value -/
def isCh (c : T) : Prop := ∃ a b, c = chT a b
theorem rest_ok {c : T} (hc : c ∈ chs) : ∃ r h, isCh r ∧ isCh h ∧ ∀ (d : Nat) (st : St), C (d + 4) 34 [c] st = .ok (false, r, st) ∧ C (d + 4) 35 [r, .int 2] st = .ok (false, h, st) := by
  simp only [chs, List.mem_cons, List.not_mem_nil, or_false] at hc
  rcases hc with rfl | rfl | rfl | rfl
  · exact ⟨_, _, ⟨_, _, rfl⟩, ⟨_, _, rfl⟩, fun d st => ⟨rest_1_2 d st, part_1_2 (d + 1) st⟩⟩
  · exact ⟨_, _, ⟨_, _, rfl⟩, ⟨_, _, rfl⟩, fun d st => ⟨rest_1_3 d st, part_1_3 (d + 1) st⟩⟩
  · exact ⟨_, _, ⟨_, _, rfl⟩, ⟨_, _, rfl⟩, fun d st => ⟨rest_3_4 d st, part_3_4 (d + 1) st⟩⟩
  · exact ⟨_, _, ⟨_, _, rfl⟩, ⟨_, _, rfl⟩, fun d st => ⟨rest_2_5 d st, part_2_5 (d + 1) st⟩⟩
theorem chs_ch {c : T} (hc : c ∈ chs) : isCh c := by
  simp only [chs, List.mem_cons, List.not_mem_nil, or_false] at hc
  rcases hc with rfl | rfl | rfl | rfl <;> exact ⟨_, _, rfl⟩
/-- the tables that are drawn -/
def okNs (ns : List (Nat × T)) : Prop := 0 < ns.length ∧ ns.length ≤ 3 ∧ ∀ p ∈ ns, p.1 ≤ 4 ∧ isCh p.2
theorem m_table (d : Nat) (st : St) (h : Dr st) : ∃ (ns : List (Nat × T)) (st' : St), okNs ns ∧ Dr st' ∧ C (d + 5) 41 [.ref 0, .bl false] st = .ok (false, drT ns, st') := by
  obtain ⟨c, st1, hc, hd1, e1⟩ := m_chance (d + 1) st h
  obtain ⟨k, st2, hk, hd2, e2⟩ := m_draw 2 (by decide) (by decide) (d + 3) st1 hd1
  obtain ⟨r, hf, hr, hhf, er⟩ := rest_ok hc
  obtain ⟨er1, er2⟩ := er d st2
  obtain ⟨j, st3, hj, hd3, e3⟩ := m_draw 3 (by decide) (by decide) (d + 3) st2 hd2
  obtain ⟨i, st4, hi, hd4, e4⟩ := m_draw 2 (by decide) (by decide) (d + 3) st3 hd3
  have er2' := (er d st3).2
  by_cases hj0 : 0 < j
  · refine ⟨[(k, c), (k + 1 + i, r)], st4, ⟨by simp, by simp, fun p hp => ?_⟩, hd4, ?_⟩
    · simp only [List.mem_cons, List.not_mem_nil, or_false] at hp
      rcases hp with rfl | rfl
      · exact ⟨by show k ≤ 4; omega, chs_ch hc⟩
      · exact ⟨by show k + 1 + i ≤ 4; omega, hr⟩
    · rw [call_ir (show P 41 = Df.ir _ from rfl)]
      generalize C (d + 4) = cc at e1 e2 e3 e4 er1 ⊢
      have e2 : cc 27 [.ref 0, .int 2] st1 = _ := e2
      have e3 : cc 27 [.ref 0, .int 3] st2 = _ := e3
      have e4 : cc 27 [.ref 0, .int 2] st3 = _ := e4
      simp -implicitDefEqProofs [d__law_some_table, e1, e2, e3, e4, er1, hj0, drT]
  · refine ⟨[(k, c), (k + 1, hf), (k + 2 + i, hf)], st4, ⟨by simp, by simp, fun p hp => ?_⟩, hd4, ?_⟩
    · simp only [List.mem_cons, List.not_mem_nil, or_false] at hp
      rcases hp with rfl | rfl | rfl
      · exact ⟨by show k ≤ 4; omega, chs_ch hc⟩
      · exact ⟨by show k + 1 ≤ 4; omega, hhf⟩
      · exact ⟨by show k + 2 + i ≤ 4; omega, hhf⟩
    · rw [call_ir (show P 41 = Df.ir _ from rfl)]
      generalize C (d + 4) = cc at e1 e2 e3 e4 er1 er2' ⊢
      have e2 : cc 27 [.ref 0, .int 2] st1 = _ := e2
      have e3 : cc 27 [.ref 0, .int 3] st2 = _ := e3
      have e4 : cc 27 [.ref 0, .int 2] st3 = _ := e4
      simp -implicitDefEqProofs [d__law_some_table, e1, e2, e3, e4, er1, er2', hj0, drT]
def tstOk (m : Nat) (t : Te) : Prop := t.ok m ∧ t.cap ≤ 2 ∧ t.dp ≤ 2
theorem m_test {m : Nat} (h0 : 0 < m) (h2 : m ≤ 2) (d : Nat) (st : St) (h : Dr st) : ∃ (t : Te) (st' : St), tstOk m t ∧ Dr st' ∧ C (d + 3) 42 [.ref 0, .int (m : Int)] st = .ok (false, t.t, st') := by
  obtain ⟨w, st1, hw, hd1, e1⟩ := m_draw m h0 (by omega) (d + 1) st h
  obtain ⟨t, st2, ht, hd2, e2⟩ := m_oneOf [(Te.lt w 1).t, (Te.eq w 0).t, (Te.eq w 1).t, (Te.lt w 2).t] (by simp) (by simp) false d st1 hd1
  obtain ⟨j, st3, hj, hd3, e3⟩ := m_draw 4 (by decide) (by decide) (d + 1) st2 hd2
  obtain ⟨te, rfl, hte⟩ : ∃ te : Te, t = te.t ∧ te.ok m ∧ te.cap ≤ 2 ∧ te.dp ≤ 1 := by
    simp only [List.mem_cons, List.not_mem_nil, or_false] at ht
    rcases ht with rfl | rfl | rfl | rfl
    · exact ⟨_, rfl, hw, by simp [Te.cap], by simp [Te.dp]⟩
    · exact ⟨_, rfl, hw, by simp [Te.cap], by simp [Te.dp]⟩
    · exact ⟨_, rfl, hw, by simp [Te.cap], by simp [Te.dp]⟩
    · exact ⟨_, rfl, hw, by simp [Te.cap], by simp [Te.dp]⟩
  by_cases hj0 : j = 0
  · subst hj0
    refine ⟨.no te, st3, ⟨hte.1, hte.2.1, by have := hte.2.2; simp only [Te.dp]; omega⟩, hd3, ?_⟩
    rw [call_ir (show P 42 = Df.ir _ from rfl)]
    generalize C (d + 2) = cc at e1 e2 e3 ⊢
    have e2 : cc 28 [.ref 0, .lst [.tup [.sym 4, .int w, .int 1], .tup [.sym 5, .int w, .int 0], .tup [.sym 5, .int w, .int 1], .tup [.sym 4, .int w, .int 2]]] st1 = _ := e2
    have e3 : cc 27 [.ref 0, .int 4] st2 = .ok (false, .int 0, st3) := e3
    simp -implicitDefEqProofs [d__law_some_test, e1, e2, e3, Te.t]
  · refine ⟨te, st3, ⟨hte.1, hte.2.1, by have := hte.2.2; omega⟩, hd3, ?_⟩
    rw [call_ir (show P 42 = Df.ir _ from rfl)]
    generalize C (d + 2) = cc at e1 e2 e3 ⊢
    have e2 : cc 28 [.ref 0, .lst [.tup [.sym 4, .int w, .int 1], .tup [.sym 5, .int w, .int 0], .tup [.sym 5, .int w, .int 1], .tup [.sym 4, .int w, .int 2]]] st1 = _ := e2
    have e3 : cc 27 [.ref 0, .int 4] st2 = _ := e3
    simp -implicitDefEqProofs [d__law_some_test, e1, e2, e3, hj0]
end K82
end

section
set_option autoImplicit false
set_option linter.all false
set_option maxRecDepth 100000
set_option maxHeartbeats 2000000
/-! M15: drawn rows and blocks. -/
namespace K82
open Ev
def kindsT : T := .lst [.sym 11, .sym 11, .sym 15, .sym 6, .sym 13, .sym 12]
def row0 (m : Nat) (r : Rw) : Prop := match r with
  | .set w n => w < m ∧ n ≤ 2
  | .add w n => w < m ∧ n ≤ 2
  | .less w n => w < m ∧ n ≤ 2
  | .copy w y => w < m ∧ y < m
  | .draw w ns => w < m ∧ okNs ns
  | _ => False
theorem m_row {m : Nat} (h0 : 0 < m) (h2 : m ≤ 2) (d : Nat) (st : St) (h : Dr st) : ∃ (r : Rw) (st' : St), row0 m r ∧ Dr st' ∧ C (d + 6) 43 [.ref 0, .int (m : Int), .bl false, kindsT] st = .ok (false, r.t, st') := by
  obtain ⟨kd, st1, hk, hd1, e1⟩ := m_oneOf [.sym 11, .sym 11, .sym 15, .sym 6, .sym 13, .sym 12] (by simp) (by simp) false (d + 3) st h
  obtain ⟨w, st2, hw, hd2, e2⟩ := m_draw m h0 (by omega) (d + 4) st1 hd1
  have hm : (0 : Int) < (m : Int) := by omega
  have ey : ((w : Int) + 1) % (m : Int) = (((w + 1) % m : Nat) : Int) := (Int.natCast_emod (w + 1) m).symm
  have hy : (w + 1) % m < m := Nat.mod_lt _ h0
  generalize (w + 1) % m = y at ey hy
  simp only [List.mem_cons, List.not_mem_nil, or_false] at hk
  have hk : kd = .sym 11 ∨ kd = .sym 15 ∨ kd = .sym 6 ∨ kd = .sym 13 ∨ kd = .sym 12 := by
    rcases hk with h | h | h | h | h | h
    · exact .inl h
    · exact .inl h
    · exact .inr (.inl h)
    · exact .inr (.inr (.inl h))
    · exact .inr (.inr (.inr (.inl h)))
    · exact .inr (.inr (.inr (.inr h)))
  have e1 : C (d + 5) 28 [.ref 0, kindsT] st = _ := e1
  rcases hk with rfl | rfl | rfl | rfl | rfl
  · obtain ⟨n, st3, hn, hd3, e3⟩ := m_draw 3 (by decide) (by decide) (d + 4) st2 hd2
    refine ⟨.set w n, st3, ⟨hw, by omega⟩, hd3, ?_⟩
    rw [call_ir (show P 43 = Df.ir _ from rfl)]
    generalize C (d + 5) = cc at e1 e2 e3 ⊢
    have e3 : cc 27 [.ref 0, .int 3] st2 = _ := e3
    simp -implicitDefEqProofs [d__law_some_row, e1, e2, e3, hm, h0, ey, Rw.t]
  · obtain ⟨n, st3, hn, hd3, e3⟩ := m_draw 3 (by decide) (by decide) (d + 4) st2 hd2
    refine ⟨.add w n, st3, ⟨hw, by omega⟩, hd3, ?_⟩
    rw [call_ir (show P 43 = Df.ir _ from rfl)]
    generalize C (d + 5) = cc at e1 e2 e3 ⊢
    have e3 : cc 27 [.ref 0, .int 3] st2 = _ := e3
    simp -implicitDefEqProofs [d__law_some_row, e1, e2, e3, hm, h0, ey, Rw.t]
  · obtain ⟨n, st3, hn, hd3, e3⟩ := m_draw 2 (by decide) (by decide) (d + 4) st2 hd2
    refine ⟨.less w (1 + n), st3, ⟨hw, by omega⟩, hd3, ?_⟩
    rw [call_ir (show P 43 = Df.ir _ from rfl)]
    generalize C (d + 5) = cc at e1 e2 e3 ⊢
    have e3 : cc 27 [.ref 0, .int 2] st2 = _ := e3
    simp -implicitDefEqProofs [d__law_some_row, e1, e2, e3, hm, h0, ey, Rw.t]
  · obtain ⟨ns, st3, hn, hd3, e3⟩ := m_table d st2 hd2
    refine ⟨.draw w ns, st3, ⟨hw, hn⟩, hd3, ?_⟩
    rw [call_ir (show P 43 = Df.ir _ from rfl)]
    generalize C (d + 5) = cc at e1 e2 e3 ⊢
    simp -implicitDefEqProofs [d__law_some_row, e1, e2, e3, hm, h0, ey, Rw.t]
  · by_cases hm1 : m = 1
    · obtain ⟨ns, st3, hn, hd3, e3⟩ := m_table d st2 hd2
      refine ⟨.draw w ns, st3, ⟨hw, hn⟩, hd3, ?_⟩
      rw [call_ir (show P 43 = Df.ir _ from rfl)]
      generalize C (d + 5) = cc at e1 e2 e3 ⊢
      subst hm1
      have e2 : cc 27 [.ref 0, .int 1] st1 = _ := e2
      simp -implicitDefEqProofs [d__law_some_row, e1, e2, e3, hm, h0, ey, Rw.t]
    · refine ⟨.copy w y, st2, ⟨hw, hy⟩, hd2, ?_⟩
      rw [call_ir (show P 43 = Df.ir _ from rfl)]
      generalize C (d + 5) = cc at e1 e2 ⊢
      have hm1' : ¬ ((m : Int) = 1) := by omega
      simp -implicitDefEqProofs [d__law_some_row, e1, e2, hm, h0, ey, hm1', hm1, Rw.t]
/-! ### blocks of rows -/
def all0 (m : Nat) (b : List Rw) : Prop := ∀ r ∈ b, row0 m r
theorem b0_turn {m : Nat} (h0 : 0 < m) (h2 : m ≤ 2) (d : Nat) (st : St) (h : Dr st) (acc : List T) (n k j8 j9 j10 : Option (Bool × T)) (hz : acc.length < 16777216) :
    ∃ (r : Rw) (st' : St) (k8 : Option (Bool × T)), row0 m r ∧ Dr st' ∧ evSs (C (d + 6)) 200 (d__law_some_block.loop 1) [some (false, .ref 0), some (false, .int (m : Int)), some (false, .bl false), some (false, kindsT), n, some (false, .int 0), some (true, .lst acc), k, j8, j9, j10] st = .nx [some (false, .ref 0), some (false, .int (m : Int)), some (false, .bl false), some (false, kindsT), n, some (false, .int 0), some (true, .lst (acc ++ [r.t])), k, k8, j9, j10] st' := by
  obtain ⟨q, st1, hq, hd1, e1⟩ := m_draw 4 (by decide) (by decide) (d + 5) st h
  obtain ⟨r, st2, hr, hd2, e2⟩ := m_row h0 h2 d st1 hd1
  refine ⟨r, st2, some (false, .int (q : Int)), hr, hd2, ?_⟩
  generalize C (d + 6) = cc at e1 e2 ⊢
  have e1 : cc 27 [.ref 0, .int 4] st = _ := e1
  unfold Fd.loop d__law_some_block
  simp -implicitDefEqProofs [Ev.S.bd, e1, e2, hz]
theorem m_block0 {m : Nat} (h0 : 0 < m) (h2 : m ≤ 2) (n : Nat) (hn : n < 1000) (d : Nat) (st : St) (h : Dr st) : ∃ (b : List Rw) (st' : St), b.length = n ∧ all0 m b ∧ Dr st' ∧ C (d + 7) 44 [.ref 0, .int (m : Int), .bl false, kindsT, .int (n : Int), .int 0] st = .ok (false, .tup (bT b), st') := by
  rw [call_ir (show P 44 = Df.ir _ from rfl)]
  have hz : n < 4000000000 := by omega
  simp -implicitDefEqProofs [d__law_some_block, hz]
  refine forL_gk (fun z => ∃ (b : List Rw), b.length = n ∧ all0 m b ∧ ∃ st' : St, Dr st' ∧ fin (kSt (C (d + 6)) 200 [.ret (.u .tupleOf (.v 6))] (F.lk (.rng1 (.v 4)) z)) = .ok (false, .tup (bT b), st'))
    (fun ts Γ st => Dr st ∧ ∃ b k8 k7, b.length + ts.length = n ∧ all0 m b ∧ Γ = [some (false, .ref 0), some (false, .int (m : Int)), some (false, .bl false), some (false, kindsT), some (false, .int (n : Int)), some (false, .int 0), some (true, .lst (bT b)), k7, k8, none, none]) (rangeT 0 n) _ _
    ⟨h, [], none, none, by simp [rangeT], fun r hr => absurd hr (by simp), rfl⟩ (fun t ts Γ st i => ?_) fun Γ' st' i => ?_
  · obtain ⟨hd, b, k8, k7, hl, ha, rfl⟩ := i
    rw [List.length_cons] at hl
    obtain ⟨r, st1, k8', hr, hd1, e⟩ := b0_turn h0 h2 d st hd (bT b) (some (false, .int (n : Int))) (some (false, t)) k8 none none (by rw [bT_len]; omega)
    refine ⟨_, st1, fB_eq.trans e, hd1, b ++ [r], k8', some (false, t), by rw [List.length_append, List.length_singleton]; omega, fun x hx => ?_, by rw [bT_app]; rfl⟩
    rcases List.mem_append.mp hx with hx | hx
    · exact ha x hx
    · rw [List.mem_singleton.mp hx]; exact hr
  · obtain ⟨hd, b, k8, k7, hl, ha, rfl⟩ := i
    refine ⟨b, by simpa using hl, ha, st', hd, ?_⟩
    simp -implicitDefEqProofs []
def row1 (m : Nat) (r : Rw) : Prop := row0 m r ∨ (∃ t a b, r = .ite t a b ∧ tstOk m t ∧ a.length ≤ 2 ∧ b.length ≤ 1 ∧ all0 m a ∧ all0 m b) ∨ ∃ c a b, r = .alt c a b ∧ isCh c ∧ a.length ≤ 2 ∧ b.length ≤ 1 ∧ all0 m a ∧ all0 m b
def all1 (m : Nat) (b : List Rw) : Prop := ∀ r ∈ b, row1 m r
theorem b1_turn {m : Nat} (h0 : 0 < m) (h2 : m ≤ 2) (d : Nat) (st : St) (h : Dr st) (acc : List T) (n k j8 j9 j10 : Option (Bool × T)) (hz : acc.length < 16777216) :
    ∃ (r : Rw) (st' : St) (k8 k9 k10 : Option (Bool × T)), row1 m r ∧ Dr st' ∧ evSs (C (d + 7)) 200 (d__law_some_block.loop 1) [some (false, .ref 0), some (false, .int (m : Int)), some (false, .bl false), some (false, kindsT), n, some (false, .int 1), some (true, .lst acc), k, j8, j9, j10] st = .nx [some (false, .ref 0), some (false, .int (m : Int)), some (false, .bl false), some (false, kindsT), n, some (false, .int 1), some (true, .lst (acc ++ [r.t])), k, k8, k9, k10] st' := by
  obtain ⟨q, st1, hq, hd1, e1⟩ := m_draw 4 (by decide) (by decide) (d + 6) st h
  by_cases hq2 : q < 2
  · obtain ⟨n1, st2, hn1, hd2, e2⟩ := m_draw 2 (by decide) (by decide) (d + 6) st1 hd1
    obtain ⟨b1, st3, hl1, ha1, hd3, e3⟩ := m_block0 h0 h2 (1 + n1) (by omega) d st2 hd2
    obtain ⟨n2, st4, hn2, hd4, e4⟩ := m_draw 2 (by decide) (by decide) (d + 6) st3 hd3
    obtain ⟨b2, st5, hl2, ha2, hd5, e5⟩ := m_block0 h0 h2 n2 (by omega) d st4 hd4
    by_cases hq0 : q = 0
    · obtain ⟨t, st6, ht, hd6, e6⟩ := m_test h0 h2 (d + 4) st5 hd5
      refine ⟨.ite t b1 b2, st6, some (false, .int (q : Int)), some (false, .tup (bT b1)), some (false, .tup (bT b2)), .inr (.inl ⟨t, b1, b2, rfl, ht, by omega, by omega, ha1, ha2⟩), hd6, ?_⟩
      generalize C (d + 7) = cc at e1 e2 e3 e4 e5 e6 ⊢
      have e1 : cc 27 [.ref 0, .int 4] st = _ := e1
      have e2 : cc 27 [.ref 0, .int 2] st1 = _ := e2
      have e4 : cc 27 [.ref 0, .int 2] st3 = _ := e4
      have en : (1 : Int) + (n1 : Int) = ((1 + n1 : Nat) : Int) := by omega
      subst hq0
      unfold Fd.loop d__law_some_block
      simp -implicitDefEqProofs [Ev.S.bd, e1, e2, e4, e5, e6, en, e3, hz, Rw.t, -Int.natCast_add]
    · obtain ⟨c, st6, hc, hd6, e6⟩ := m_chance (d + 4) st5 hd5
      refine ⟨.alt c b1 b2, st6, some (false, .int (q : Int)), some (false, .tup (bT b1)), some (false, .tup (bT b2)), .inr (.inr ⟨c, b1, b2, rfl, chs_ch hc, by omega, by omega, ha1, ha2⟩), hd6, ?_⟩
      generalize C (d + 7) = cc at e1 e2 e3 e4 e5 e6 ⊢
      have e1 : cc 27 [.ref 0, .int 4] st = _ := e1
      have e2 : cc 27 [.ref 0, .int 2] st1 = _ := e2
      have e4 : cc 27 [.ref 0, .int 2] st3 = _ := e4
      have en : (1 : Int) + (n1 : Int) = ((1 + n1 : Nat) : Int) := by omega
      have hq2' : (q : Int) < 2 := by omega
      have hq0' : ¬ ((q : Int) = 0) := by omega
      unfold Fd.loop d__law_some_block
      simp -implicitDefEqProofs [Ev.S.bd, e1, e2, e4, e5, e6, en, e3, hz, hq2', hq0', hq0, Rw.t, -Int.natCast_add]
  · obtain ⟨r, st2, hr, hd2, e2⟩ := m_row h0 h2 (d + 1) st1 hd1
    refine ⟨r, st2, some (false, .int (q : Int)), j9, j10, .inl hr, hd2, ?_⟩
    generalize C (d + 7) = cc at e1 e2 ⊢
    have e1 : cc 27 [.ref 0, .int 4] st = _ := e1
    have hq2' : ¬ ((q : Int) < 2) := by omega
    unfold Fd.loop d__law_some_block
    simp -implicitDefEqProofs [Ev.S.bd, e1, e2, hz, hq2']
theorem m_block1 {m : Nat} (h0 : 0 < m) (h2 : m ≤ 2) (n : Nat) (hn : n < 1000) (d : Nat) (st : St) (h : Dr st) : ∃ (b : List Rw) (st' : St), b.length = n ∧ all1 m b ∧ Dr st' ∧ C (d + 8) 44 [.ref 0, .int (m : Int), .bl false, kindsT, .int (n : Int), .int 1] st = .ok (false, .tup (bT b), st') := by
  rw [call_ir (show P 44 = Df.ir _ from rfl)]
  have hz : n < 4000000000 := by omega
  simp -implicitDefEqProofs [d__law_some_block, hz]
  refine forL_gk (fun z => ∃ (b : List Rw), b.length = n ∧ all1 m b ∧ ∃ st' : St, Dr st' ∧ fin (kSt (C (d + 7)) 200 [.ret (.u .tupleOf (.v 6))] (F.lk (.rng1 (.v 4)) z)) = .ok (false, .tup (bT b), st'))
    (fun ts Γ st => Dr st ∧ ∃ b k7 k8 k9 k10, b.length + ts.length = n ∧ all1 m b ∧ Γ = [some (false, .ref 0), some (false, .int (m : Int)), some (false, .bl false), some (false, kindsT), some (false, .int (n : Int)), some (false, .int 1), some (true, .lst (bT b)), k7, k8, k9, k10]) (rangeT 0 n) _ _
    ⟨h, [], none, none, none, none, by simp [rangeT], fun r hr => absurd hr (by simp), rfl⟩ (fun t ts Γ st i => ?_) fun Γ' st' i => ?_
  · obtain ⟨hd, b, k7, k8, k9, k10, hl, ha, rfl⟩ := i
    rw [List.length_cons] at hl
    obtain ⟨r, st1, k8', k9', k10', hr, hd1, e⟩ := b1_turn h0 h2 d st hd (bT b) (some (false, .int (n : Int))) (some (false, t)) k8 k9 k10 (by rw [bT_len]; omega)
    refine ⟨_, st1, fB_eq.trans e, hd1, b ++ [r], some (false, t), k8', k9', k10', by rw [List.length_append, List.length_singleton]; omega, fun x hx => ?_, by rw [bT_app]; rfl⟩
    rcases List.mem_append.mp hx with hx | hx
    · exact ha x hx
    · rw [List.mem_singleton.mp hx]; exact hr
  · obtain ⟨hd, b, k7, k8, k9, k10, hl, ha, rfl⟩ := i
    refine ⟨b, by simpa using hl, ha, st', hd, ?_⟩
    simp -implicitDefEqProofs []
/-! ### the drawn block -/
def mid (m : Nat) (rl : Rw) (l : List Rw) : Prop := (∃ t inner, l = [.ite t inner [rl]] ∧ tstOk m t ∧ inner.length ≤ 2 ∧ all1 m inner) ∨ (∃ c inner, l = [.alt c [rl] inner] ∧ isCh c ∧ inner.length ≤ 2 ∧ all1 m inner) ∨ ∃ t inner, l = .given t :: inner ∧ tstOk m t ∧ inner.length ≤ 2 ∧ all1 m inner
theorem one_of_len {b : List Rw} (h : b.length = 1) : ∃ r, b = [r] := by
  match b, h with
  | [r], _ => exact ⟨r, rfl⟩
theorem m_drawn_block {m : Nat} (h0 : 0 < m) (h2 : m ≤ 2) (d : Nat) (st : St) (h : Dr st) : ∃ (r0 rl : Rw) (l : List Rw) (st' : St), row0 m r0 ∧ row0 m rl ∧ mid m rl l ∧ Dr st' ∧ C (d + 9) 55 [.ref 0, .int (m : Int)] st = .ok (false, .tup (bT (r0 :: (l ++ [rl]))), st') := by
  obtain ⟨n, st1, hn, hd1, e1⟩ := m_draw 2 (by decide) (by decide) (d + 7) st h
  obtain ⟨inner, st2, hl2, ha2, hd2, e2⟩ := m_block1 h0 h2 (1 + n) (by omega) d st1 hd1
  obtain ⟨b3, st3, hl3, ha3, hd3, e3⟩ := m_block0 h0 h2 1 (by omega) (d + 1) st2 hd2
  obtain ⟨b4, st4, hl4, ha4, hd4, e4⟩ := m_block0 h0 h2 1 (by omega) (d + 1) st3 hd3
  obtain ⟨r0, rfl⟩ := one_of_len hl3
  obtain ⟨rl, rfl⟩ := one_of_len hl4
  obtain ⟨k, st5, hk, hd5, e5⟩ := m_draw 3 (by decide) (by decide) (d + 7) st4 hd4
  have en : (1 : Int) + (n : Int) = ((1 + n : Nat) : Int) := by omega
  have hr0 := ha3 r0 (by simp)
  have hrl := ha4 rl (by simp)
  have bt1 : ∀ r : Rw, bT [r] = [r.t] := fun _ => rfl
  rw [bt1] at e3 e4
  obtain ⟨t, st6, ht, hd6, e6⟩ := m_test h0 h2 (d + 5) st5 hd5
  by_cases hk0 : k = 0
  · refine ⟨r0, rl, [.ite t inner [rl]], st6, hr0, hrl, .inl ⟨t, inner, rfl, ht, by omega, ha2⟩, hd6, ?_⟩
    rw [call_ir (show P 55 = Df.ir _ from rfl)]
    generalize C (d + 8) = cc at e1 e2 e3 e4 e5 e6 ⊢
    have e1 : cc 27 [.ref 0, .int 2] st = _ := e1
    have e3 : cc 44 [.ref 0, .int (m : Int), .bl false, kindsT, .int 1, .int 0] st2 = _ := e3
    have e4 : cc 44 [.ref 0, .int (m : Int), .bl false, kindsT, .int 1, .int 0] st3 = _ := e4
    have e5 : cc 27 [.ref 0, .int 3] st4 = _ := e5
    unfold kindsT at e2 e3 e4
    subst hk0
    simp -implicitDefEqProofs [d__law_drawn_block, e1, en, e2, e3, e4, e5, e6, bT, Rw.t, -Int.natCast_add]
  · by_cases hk1 : k = 1
    · refine ⟨r0, rl, [.alt (chT 1 3) [rl] inner], st5, hr0, hrl, .inr (.inl ⟨chT 1 3, inner, rfl, ⟨1, 3, rfl⟩, by omega, ha2⟩), hd5, ?_⟩
      rw [call_ir (show P 55 = Df.ir _ from rfl)]
      generalize C (d + 8) = cc at e1 e2 e3 e4 e5 e6 ⊢
      have e1 : cc 27 [.ref 0, .int 2] st = _ := e1
      have e3 : cc 44 [.ref 0, .int (m : Int), .bl false, kindsT, .int 1, .int 0] st2 = _ := e3
      have e4 : cc 44 [.ref 0, .int (m : Int), .bl false, kindsT, .int 1, .int 0] st3 = _ := e4
      have e5 : cc 27 [.ref 0, .int 3] st4 = _ := e5
      unfold kindsT at e2 e3 e4
      subst hk1
      simp -implicitDefEqProofs [d__law_drawn_block, e1, en, e2, e3, e4, e5, bT, Rw.t, chT, -Int.natCast_add]
    · refine ⟨r0, rl, .given t :: inner, st6, hr0, hrl, .inr (.inr ⟨t, inner, rfl, ht, by omega, ha2⟩), hd6, ?_⟩
      rw [call_ir (show P 55 = Df.ir _ from rfl)]
      generalize C (d + 8) = cc at e1 e2 e3 e4 e5 e6 ⊢
      have e1 : cc 27 [.ref 0, .int 2] st = _ := e1
      have e3 : cc 44 [.ref 0, .int (m : Int), .bl false, kindsT, .int 1, .int 0] st2 = _ := e3
      have e4 : cc 44 [.ref 0, .int (m : Int), .bl false, kindsT, .int 1, .int 0] st3 = _ := e4
      have e5 : cc 27 [.ref 0, .int 3] st4 = _ := e5
      unfold kindsT at e2 e3 e4
      have hk0' : ¬ ((k : Int) = 0) := by omega
      have hk1' : ¬ ((k : Int) = 1) := by omega
      have z1 : inner.length + 1 + 1 ≤ 16777216 := by omega
      have z2 : 1 + 1 + inner.length ≤ 16777216 := by omega
      have z3 : 1 + 1 + inner.length + 1 ≤ 16777216 := by omega
      have z4 : 2 + inner.length ≤ 16777216 := by omega
      have z5 : 2 + inner.length + 1 ≤ 16777216 := by omega
      have z6 : inner.length + 2 + 1 ≤ 16777216 := by omega
      simp -implicitDefEqProofs [d__law_drawn_block, e1, en, e2, e3, e4, e5, e6, hk0, hk1, hk0', hk1', z1, z2, z3, z4, z5, z6, bT, bT_app, Rw.t, -Int.natCast_add]
end K82
end

section
set_option autoImplicit false
set_option linter.all false
set_option maxRecDepth 100000
set_option maxHeartbeats 2000000
/-! M16: paths; paths that are none. -/
namespace K82
open Ev
mutual
def Rw.pth : Rw → List Nat → List (List Nat)
  | .ite _ a b, q => q :: (pths a 0 (q ++ [0]) ++ pths b 0 (q ++ [1]))
  | .alt _ a b, q => q :: (pths a 0 (q ++ [0]) ++ pths b 0 (q ++ [1]))
  | _, q => [q]
def pths : List Rw → Nat → List Nat → List (List Nat)
  | [], _, _ => []
  | r :: b, k, q => r.pth (q ++ [k]) ++ pths b (k + 1) q
end
mutual
def Rw.cnt : Rw → Nat
  | .ite _ a b => 1 + (cnts a + cnts b)
  | .alt _ a b => 1 + (cnts a + cnts b)
  | _ => 1
def cnts : List Rw → Nat
  | [] => 0
  | r :: b => r.cnt + cnts b
end
mutual
theorem Rw.pth_len : ∀ (r : Rw) (q : List Nat), (r.pth q).length = r.cnt
  | .ite _ a b, q => by rw [Rw.pth, Rw.cnt, List.length_cons, List.length_append, pths_len a, pths_len b]; omega
  | .alt _ a b, q => by rw [Rw.pth, Rw.cnt, List.length_cons, List.length_append, pths_len a, pths_len b]; omega
  | .set _ _, q => rfl
  | .add _ _, q => rfl
  | .less _ _, q => rfl
  | .copy _ _, q => rfl
  | .draw _ _, q => rfl
  | .given _, q => rfl
theorem pths_len : ∀ (b : List Rw) (k : Nat) (q : List Nat), (pths b k q).length = cnts b
  | [], _, _ => rfl
  | r :: b, k, q => by rw [pths, cnts, List.length_append, Rw.pth_len r, pths_len b]
end
theorem cnts_app : ∀ (a b : List Rw), cnts (a ++ b) = cnts a + cnts b
  | [], b => by rw [List.nil_append, cnts]; omega
  | r :: a, b => by rw [List.cons_append, cnts, cnts, cnts_app a b]; omega
theorem pths_app : ∀ (a b : List Rw) (k : Nat) (q : List Nat), pths (a ++ b) k q = pths a k q ++ pths b (k + a.length) q
  | [], b, k, q => rfl
  | r :: a, b, k, q => by
    rw [List.cons_append, pths, pths, pths_app a b, List.append_assoc, List.length_cons]
    have : k + 1 + a.length = k + (a.length + 1) := by omega
    rw [this]
def psT (l : List (List Nat)) : List T := l.map pT
def PA (b : List Rw) : Prop := ∀ d q st, dps b ≤ d → q.length + dps b ≤ 1000 → cnts b < 100000 → C d 54 [.tup (bT b), pT q] st = .ok (true, .lst (psT (pths b 0 q)), st)
def SubA (r : Rw) : Prop := (∀ t a b, r = .ite t a b → PA a ∧ PA b) ∧ ∀ t a b, r = .alt t a b → PA a ∧ PA b
theorem nT_app (p : List Nat) (k : Nat) : nT p ++ [.int (k : Int)] = nT (p ++ [k]) := by unfold nT; rw [List.map_append]; rfl
theorem nT_app2 (p : List Nat) (k i : Nat) : nT p ++ [.int (k : Int), .int (i : Int)] = nT (p ++ [k] ++ [i]) := by unfold nT; rw [List.map_append, List.map_append, List.append_assoc]; rfl
theorem path_turn (cc : Cal) (r : Rw) (b : List Rw) (q : List Nat) (k : Nat) (acc : List (List Nat)) (j : Option (Bool × T)) (st : St) (hk : b[k]? = some r) (hq : q.length ≤ 1000) (hacc : acc.length + r.cnt ≤ 200000)
    (h : ∀ x y, ((∃ t, r = .ite t x y) ∨ ∃ t, r = .alt t x y) → cc 54 [.tup (bT x), pT (q ++ [k] ++ [0])] st = .ok (true, .lst (psT (pths x 0 (q ++ [k] ++ [0]))), st) ∧ cc 54 [.tup (bT y), pT (q ++ [k] ++ [1])] st = .ok (true, .lst (psT (pths y 0 (q ++ [k] ++ [1]))), st)) :
    evSs cc 200 (d__law_paths.loop 1) [some (false, .tup (bT b)), some (false, pT q), some (true, .lst (psT acc)), some (false, .int (k : Int)), j] st = .nx [some (false, .tup (bT b)), some (false, pT q), some (true, .lst (psT (acc ++ r.pth (q ++ [k])))), some (false, .int (k : Int)), some (false, r.t)] st := by
  have hkl : k < (bT b).length := by rw [bT_len]; exact (List.getElem?_eq_some_iff.mp hk).1
  have ex : itemOf st (.tup (bT b)) (.int (k : Int)) = some r.t := by rw [item_t, ixOf_n hkl]; exact bT_get hk
  have z1 : q.length + 1 ≤ 16777216 := by omega
  have z2 : q.length + 2 ≤ 16777216 := by omega
  have e1 : ∀ l : List (List Nat), (psT l).length = l.length := fun l => List.length_map ..
  have e2 : ∀ p, T.tup (nT p) = pT p := fun _ => rfl
  have e3 : psT acc ++ [pT (q ++ [k])] = psT (acc ++ [q ++ [k]]) := by unfold psT; rw [List.map_append]; rfl
  have o1 : op2 st .add (pT q) (.tup [.int (k : Int)]) = vl (pT (q ++ [k])) := by unfold pT; simp -implicitDefEqProofs [z1, nT_app]
  have o2 : op2 st .add (pT q) (.tup [.int (k : Int), .int 0]) = vl (pT (q ++ [k] ++ [0])) := by
    have a0 := nT_app2 q k 0
    have a0 : nT q ++ [.int (k : Int), .int 0] = _ := a0
    unfold pT; simp -implicitDefEqProofs [z2, a0]
  have o3 : op2 st .add (pT q) (.tup [.int (k : Int), .int 1]) = vl (pT (q ++ [k] ++ [1])) := by
    have a0 := nT_app2 q k 1
    have a0 : nT q ++ [.int (k : Int), .int 1] = _ := a0
    unfold pT; simp -implicitDefEqProofs [z2, a0]
  rw [Rw.cnt.eq_def] at hacc
  unfold Fd.loop d__law_paths
  cases r with
  | ite t x y =>
    obtain ⟨h1, h2⟩ := h x y (.inl ⟨t, rfl⟩)
    simp only at hacc
    have c1 := pths_len x 0 (q ++ [k] ++ [0])
    have c2 := pths_len y 0 (q ++ [k] ++ [1])
    have z3 : acc.length < 16777216 := by omega
    have er0 : itemOf st (Rw.ite t x y).t (.int 0) = some (.sym 2) := by rw [Rw.t]; simp -implicitDefEqProofs []
    have er2 : itemOf st (Rw.ite t x y).t (.int 2) = some (.tup (bT x)) := by rw [Rw.t]; simp -implicitDefEqProofs []
    have er3 : itemOf st (Rw.ite t x y).t (.int 3) = some (.tup (bT y)) := by rw [Rw.t]; simp -implicitDefEqProofs []
    rw [Rw.pth]
    generalize pths x 0 (q ++ [k] ++ [0]) = X at h1 c1 ⊢
    generalize pths y 0 (q ++ [k] ++ [1]) = Y at h2 c2 ⊢
    have y1 : acc.length + 1 + X.length ≤ 16777216 := by omega
    have y2 : acc.length + 1 + X.length + Y.length ≤ 16777216 := by omega
    have ef : psT (acc ++ (q ++ [k]) :: (X ++ Y)) = (psT acc ++ [pT (q ++ [k])]) ++ psT X ++ psT Y := by unfold psT; rw [List.map_append, List.map_cons, List.map_append]; simp
    rw [ef]
    generalize (Rw.ite t x y).t = rt at *
    simp -implicitDefEqProofs [Ev.S.bd, ex, er0, er2, er3, e1, z3, o1, o2, o3, h1, h2, y1, y2, -item_t, -List.append_assoc]
  | alt t x y =>
    obtain ⟨h1, h2⟩ := h x y (.inr ⟨t, rfl⟩)
    simp only at hacc
    have c1 := pths_len x 0 (q ++ [k] ++ [0])
    have c2 := pths_len y 0 (q ++ [k] ++ [1])
    have z3 : acc.length < 16777216 := by omega
    have er0 : itemOf st (Rw.alt t x y).t (.int 0) = some (.sym 1) := by rw [Rw.t]; simp -implicitDefEqProofs []
    have er2 : itemOf st (Rw.alt t x y).t (.int 2) = some (.tup (bT x)) := by rw [Rw.t]; simp -implicitDefEqProofs []
    have er3 : itemOf st (Rw.alt t x y).t (.int 3) = some (.tup (bT y)) := by rw [Rw.t]; simp -implicitDefEqProofs []
    rw [Rw.pth]
    generalize pths x 0 (q ++ [k] ++ [0]) = X at h1 c1 ⊢
    generalize pths y 0 (q ++ [k] ++ [1]) = Y at h2 c2 ⊢
    have y1 : acc.length + 1 + X.length ≤ 16777216 := by omega
    have y2 : acc.length + 1 + X.length + Y.length ≤ 16777216 := by omega
    have ef : psT (acc ++ (q ++ [k]) :: (X ++ Y)) = (psT acc ++ [pT (q ++ [k])]) ++ psT X ++ psT Y := by unfold psT; rw [List.map_append, List.map_cons, List.map_append]; simp
    rw [ef]
    generalize (Rw.alt t x y).t = rt at *
    simp -implicitDefEqProofs [Ev.S.bd, ex, er0, er2, er3, e1, z3, o1, o2, o3, h1, h2, y1, y2, -item_t, -List.append_assoc]
  | _ =>
    have z3 : acc.length < 16777216 := by simp only at hacc; omega
    rw [show Rw.pth _ (q ++ [k]) = [q ++ [k]] from rfl]
    rw [Rw.t] at ex ⊢
    generalize T.tup (bT b) = BB at ex ⊢
    simp -implicitDefEqProofs [Ev.S.bd, ex, e1, z3, o1, e3]
theorem pa_of {b : List Rw} (h : ∀ r ∈ b, SubA r) : PA b := by
  intro d q st hd hq hc
  obtain ⟨d, rfl⟩ : ∃ k, d = k + 1 := ⟨d - 1, by have := dps_8 b; omega⟩
  have hbl : b.length ≤ cnts b := by
    have hr1 : ∀ r : Rw, 1 ≤ r.cnt := fun r => by cases r <;> simp only [Rw.cnt] <;> omega
    have : ∀ l : List Rw, l.length ≤ cnts l := by
      intro l
      induction l with
      | nil => exact Nat.le_refl _
      | cons r l ih => have := hr1 r; rw [cnts, List.length_cons]; omega
    exact this b
  have hz : b.length < 4000000000 := by omega
  rw [call_ir (show P 54 = Df.ir _ from rfl)]
  simp -implicitDefEqProofs [d__law_paths, hz]
  have e0 : (T.lst [] : T) = .lst (psT []) := rfl
  rw [e0]
  refine forL_rk (fun z => fin (kSt _ _ _ (F.lk _ z)) = _) (fun k Γ => ∃ j3 j4, Γ = [some (false, .tup (bT b)), some (false, pT q), some (true, .lst (psT (pths (b.take k) 0 q))), j3, j4]) b.length _ ⟨none, none, rfl⟩ (fun k Γ hk i => ?_) fun Γ' i => ?_
  · obtain ⟨j3, j4, rfl⟩ := i
    have et : b.take (k + 1) = b.take k ++ [b[k]] := List.take_succ_eq_append_getElem hk
    have em : b[k] ∈ b := List.getElem_mem hk
    have hs := h _ em
    have hdr := dps_mem em
    have hcs : cnts (b.take k) + (b[k]).cnt ≤ cnts b := by
      have : b = b.take k ++ (b[k] :: b.drop (k + 1)) := by rw [← List.drop_eq_getElem_cons hk, List.take_append_drop]
      have h2 := cnts_app (b.take k) (b[k] :: b.drop (k + 1))
      rw [← this, cnts] at h2
      omega
    have eb : b[k]? = some b[k] := List.getElem?_eq_getElem hk
    have ep : pths (b.take k ++ [b[k]]) 0 q = pths (b.take k) 0 q ++ (b[k]).pth (q ++ [k]) := by
      rw [pths_app, pths, pths, List.append_nil, List.length_take]
      have : 0 + min k b.length = k := by omega
      rw [this]
    rw [et, ep]
    generalize b[k] = r at hs hdr hcs eb ⊢
    refine ⟨_, fB_eq.trans (path_turn (C d) r b q k _ j4 st eb (by omega) (by rw [pths_len]; omega) fun x y hxy => ?_), some (false, .int (k : Int)), some (false, r.t), rfl⟩
    rcases hxy with ⟨t, rfl⟩ | ⟨t, rfl⟩ <;> simp only [Rw.dp] at hdr <;> rw [Rw.cnt] at hcs
    · obtain ⟨h1, h2⟩ := hs.1 _ _ _ rfl
      exact ⟨h1 d _ st (by omega) (by simp only [List.length_append, List.length_cons, List.length_nil]; omega) (by omega), h2 d _ st (by omega) (by simp only [List.length_append, List.length_cons, List.length_nil]; omega) (by omega)⟩
    · obtain ⟨h1, h2⟩ := hs.2 _ _ _ rfl
      exact ⟨h1 d _ st (by omega) (by simp only [List.length_append, List.length_cons, List.length_nil]; omega) (by omega), h2 d _ st (by omega) (by simp only [List.length_append, List.length_cons, List.length_nil]; omega) (by omega)⟩
  · obtain ⟨j3, j4, rfl⟩ := i
    simp -implicitDefEqProofs [List.take_length]
theorem m_paths : ∀ b : List Rw, PA b := by
  have key : ∀ r : Rw, SubA r := by
    refine Rw.ind (fun w n => ?_) (fun w n => ?_) (fun w n => ?_) (fun w n => ?_) (fun w n => ?_) (fun t => ?_) (fun t a b ha hb => ?_) (fun u a b ha hb => ?_)
    · exact ⟨fun _ _ _ h => (by cases h), fun _ _ _ h => (by cases h)⟩
    · exact ⟨fun _ _ _ h => (by cases h), fun _ _ _ h => (by cases h)⟩
    · exact ⟨fun _ _ _ h => (by cases h), fun _ _ _ h => (by cases h)⟩
    · exact ⟨fun _ _ _ h => (by cases h), fun _ _ _ h => (by cases h)⟩
    · exact ⟨fun _ _ _ h => (by cases h), fun _ _ _ h => (by cases h)⟩
    · exact ⟨fun _ _ _ h => (by cases h), fun _ _ _ h => (by cases h)⟩
    · refine ⟨fun t' a' b' e => ?_, fun _ _ _ h => (by cases h)⟩
      cases e
      exact ⟨pa_of ha, pa_of hb⟩
    · refine ⟨fun _ _ _ h => (by cases h), fun t' a' b' e => ?_⟩
      cases e
      exact ⟨pa_of ha, pa_of hb⟩
  exact fun b => pa_of fun r _ => key r
/-! ### every path has a road -/
theorem rows_k {b : List Rw} {k : Nat} (h : k < b.length) : ∃ l, rows b [k] = some l := ⟨_, by rw [rows, if_pos h]⟩
theorem rows_in {b : List Rw} {k i : Nat} {p : List Nat} {x y l : List Rw} (hk : (∃ t, b[k]? = some (.ite t x y)) ∨ ∃ c, b[k]? = some (.alt c x y)) (hi : i = 0 ∧ rows x p = some l ∨ i = 1 ∧ rows y p = some l) : ∃ l, rows b (k :: i :: p) = some l := by
  rcases hk with ⟨t, hk⟩ | ⟨t, hk⟩ <;> rcases hi with ⟨rfl, hl⟩ | ⟨rfl, hl⟩ <;> simp [rows, hk, hl]
mutual
theorem Rw.pth_ok : ∀ (r : Rw) (B : List Rw) (k : Nat) (q : List Nat), B[k]? = some r → ∀ z ∈ r.pth (q ++ [k]), ∃ p, z = q ++ p ∧ p.length ≤ r.dp ∧ ∃ l, rows B p = some l
  | .ite t a b, B, k, q, hB, z, hz => by
    rw [Rw.pth] at hz
    have hk := (List.getElem?_eq_some_iff.mp hB).1
    rcases List.mem_cons.mp hz with e | hz
    · exact ⟨[k], e, by simp only [Rw.dp, List.length_cons, List.length_nil]; omega, rows_k hk⟩
    · rw [Rw.dp]
      rcases List.mem_append.mp hz with hz | hz
      · obtain ⟨p, e, hp, l, hl⟩ := pths_ok a a 0 (q ++ [k] ++ [0]) rfl z hz
        exact ⟨k :: 0 :: p, by rw [e]; simp, by simp only [List.length_cons]; omega, rows_in (.inl ⟨_, hB⟩) (.inl ⟨rfl, hl⟩)⟩
      · obtain ⟨p, e, hp, l, hl⟩ := pths_ok b b 0 (q ++ [k] ++ [1]) rfl z hz
        exact ⟨k :: 1 :: p, by rw [e]; simp, by simp only [List.length_cons]; omega, rows_in (.inl ⟨_, hB⟩) (.inr ⟨rfl, hl⟩)⟩
  | .alt t a b, B, k, q, hB, z, hz => by
    rw [Rw.pth] at hz
    have hk := (List.getElem?_eq_some_iff.mp hB).1
    rcases List.mem_cons.mp hz with e | hz
    · exact ⟨[k], e, by simp only [Rw.dp, List.length_cons, List.length_nil]; omega, rows_k hk⟩
    · rw [Rw.dp]
      rcases List.mem_append.mp hz with hz | hz
      · obtain ⟨p, e, hp, l, hl⟩ := pths_ok a a 0 (q ++ [k] ++ [0]) rfl z hz
        exact ⟨k :: 0 :: p, by rw [e]; simp, by simp only [List.length_cons]; omega, rows_in (.inr ⟨_, hB⟩) (.inl ⟨rfl, hl⟩)⟩
      · obtain ⟨p, e, hp, l, hl⟩ := pths_ok b b 0 (q ++ [k] ++ [1]) rfl z hz
        exact ⟨k :: 1 :: p, by rw [e]; simp, by simp only [List.length_cons]; omega, rows_in (.inr ⟨_, hB⟩) (.inr ⟨rfl, hl⟩)⟩
  | .set _ _, B, k, q, hB, z, hz => ⟨[k], List.mem_singleton.mp hz, by simp only [Rw.dp, List.length_cons, List.length_nil]; omega, rows_k (List.getElem?_eq_some_iff.mp hB).1⟩
  | .add _ _, B, k, q, hB, z, hz => ⟨[k], List.mem_singleton.mp hz, by simp only [Rw.dp, List.length_cons, List.length_nil]; omega, rows_k (List.getElem?_eq_some_iff.mp hB).1⟩
  | .less _ _, B, k, q, hB, z, hz => ⟨[k], List.mem_singleton.mp hz, by simp only [Rw.dp, List.length_cons, List.length_nil]; omega, rows_k (List.getElem?_eq_some_iff.mp hB).1⟩
  | .copy _ _, B, k, q, hB, z, hz => ⟨[k], List.mem_singleton.mp hz, by simp only [Rw.dp, List.length_cons, List.length_nil]; omega, rows_k (List.getElem?_eq_some_iff.mp hB).1⟩
  | .draw _ _, B, k, q, hB, z, hz => ⟨[k], List.mem_singleton.mp hz, by simp only [Rw.dp, List.length_cons, List.length_nil]; omega, rows_k (List.getElem?_eq_some_iff.mp hB).1⟩
  | .given _, B, k, q, hB, z, hz => ⟨[k], List.mem_singleton.mp hz, by simp only [Rw.dp, List.length_cons, List.length_nil]; omega, rows_k (List.getElem?_eq_some_iff.mp hB).1⟩
theorem pths_ok : ∀ (b B : List Rw) (k : Nat) (q : List Nat), B.drop k = b → ∀ z ∈ pths b k q, ∃ p, z = q ++ p ∧ p.length ≤ dps b ∧ ∃ l, rows B p = some l
  | [], _, _, _, _, z, hz => absurd hz (by rw [pths]; simp)
  | r :: b, B, k, q, hB, z, hz => by
    rw [pths] at hz
    rw [dps]
    have hk : B[k]? = some r := by
      have := congrArg (fun l : List Rw => l[0]?) hB
      simpa using this
    rcases List.mem_append.mp hz with hz | hz
    · obtain ⟨p, e, hp, h⟩ := Rw.pth_ok r B k q hk z hz
      exact ⟨p, e, by omega, h⟩
    · obtain ⟨p, e, hp, h⟩ := pths_ok b B (k + 1) q (by
        have h2 : (B.drop k).drop 1 = b := by rw [hB]; rfl
        rw [List.drop_drop] at h2; exact h2) z hz
      exact ⟨p, e, by omega, h⟩
end
end K82
end

section
set_option autoImplicit false
set_option linter.all false
set_option maxRecDepth 100000
set_option maxHeartbeats 2000000
/-! M17: what is abstract stands for what is concrete. -/
namespace K82
open Ev
def cut1 (n x : Int) : Int := if n ≤ x then -1 else x
theorem cutN_map (n : Int) (s : List Int) : cutN n s = s.map (cut1 n) := rfl
theorem gi_map {f : Int → Int} {s : List Int} {w : Nat} (h : w < s.length) : gi (s.map f) w = f (gi s w) := by
  unfold gi
  rw [List.getD_eq_getElem?_getD, List.getD_eq_getElem?_getD, List.getElem?_map, List.getElem?_eq_getElem h]; rfl
theorem cut_cut {k n x : Int} (hk : 0 ≤ k) (h : k ≤ n) : cut1 k (cut1 n x) = cut1 k x := by
  unfold cut1
  by_cases h1 : n ≤ x
  · rw [if_pos h1, if_neg (by omega), if_pos (by omega)]
  · rw [if_neg h1]
theorem cutN_cutN {k n : Int} (hk : 0 ≤ k) (h : k ≤ n) (s : List Int) : cutN k (cutN n s) = cutN k s := by
  rw [cutN_map, cutN_map, cutN_map, List.map_map]
  exact List.map_congr_left fun x _ => cut_cut hk h
def Ab (n : Int) (A S : List (List Int)) : Prop := ∀ a, a ∈ A ↔ ∃ s ∈ S, cutN n s = a
def NN (m : Nat) (S : List (List Int)) : Prop := ∀ s ∈ S, s.length = m ∧ ∀ x ∈ s, 0 ≤ x
theorem Ab.low {n k : Int} {A S : List (List Int)} (h : Ab n A S) (hk : 0 ≤ k) (le : k ≤ n) : Ab k (low A k) S := fun a => by
  rw [mem_low]
  constructor
  · rintro ⟨u, hu, rfl⟩
    obtain ⟨s, hs, rfl⟩ := (h u).mp hu
    exact ⟨s, hs, (cutN_cutN hk le s).symm⟩
  · rintro ⟨s, hs, rfl⟩
    exact ⟨cutN n s, (h _).mpr ⟨s, hs, rfl⟩, cutN_cutN hk le s⟩
theorem holds_abs {m : Nat} {n : Int} : ∀ (t : Te), t.cap ≤ n → t.ok m → ∀ s : List Int, s.length = m → (∀ x ∈ s, 0 ≤ x) → t.holds (farTo n (cutN n s)) = t.holds s
  | .lt w k, hc, ho, s, hl, hx => by
    have hw : w < s.length := by rw [hl]; exact ho
    have e1 : gi (farTo n (cutN n s)) w = (if cut1 n (gi s w) = -1 then n else cut1 n (gi s w)) := by
      unfold farTo
      rw [gi_map (by rw [cutN_len]; exact hw), cutN_map, gi_map hw]
    have h0 := hx _ (gi_mem hw)
    have hc : (k : Int) ≤ n := hc
    rw [Te.holds, Te.holds, e1]
    unfold cut1
    by_cases h : n ≤ gi s w
    · rw [if_pos h, if_pos rfl]
      exact decide_eq_decide.mpr (by omega)
    · rw [if_neg h, if_neg (by omega)]
  | .eq w k, hc, ho, s, hl, hx => by
    have hw : w < s.length := by rw [hl]; exact ho
    have e1 : gi (farTo n (cutN n s)) w = (if cut1 n (gi s w) = -1 then n else cut1 n (gi s w)) := by
      unfold farTo
      rw [gi_map (by rw [cutN_len]; exact hw), cutN_map, gi_map hw]
    have h0 := hx _ (gi_mem hw)
    have hc : (k : Int) + 1 ≤ n := hc
    rw [Te.holds, Te.holds, e1]
    unfold cut1
    by_cases h : n ≤ gi s w
    · rw [if_pos h, if_pos rfl]
      have a : (n == (k : Int)) = false := by rw [beq_eq_false_iff_ne]; omega
      have b : (gi s w == (k : Int)) = false := by rw [beq_eq_false_iff_ne]; omega
      rw [a, b]
    · rw [if_neg h, if_neg (by omega)]
  | .no t, hc, ho, s, hl, hx => by
    rw [Te.holds, Te.holds, holds_abs t hc ho s hl hx]
theorem Ab.filt {m : Nat} {n : Int} {A S : List (List Int)} (h : Ab n A S) {t : Te} (hc : t.cap ≤ n) (ho : t.ok m) (hS : NN m S) (q : Bool) : Ab n (A.filter fun a => holdsIn t n a == q) (S.filter fun s => t.holds s == q) := fun a => by
  rw [List.mem_filter]
  constructor
  · rintro ⟨ha, hh⟩
    obtain ⟨s, hs, rfl⟩ := (h a).mp ha
    refine ⟨s, List.mem_filter.mpr ⟨hs, ?_⟩, rfl⟩
    unfold holdsIn at hh
    rw [holds_abs t hc ho s (hS s hs).1 (hS s hs).2] at hh
    exact hh
  · rintro ⟨s, hs, rfl⟩
    obtain ⟨hs, hh⟩ := List.mem_filter.mp hs
    refine ⟨(h _).mpr ⟨s, hs, rfl⟩, ?_⟩
    unfold holdsIn
    rw [holds_abs t hc ho s (hS s hs).1 (hS s hs).2]
    exact hh
theorem filt_t (p : List Int → Bool) (l : List (List Int)) : (l.filter fun a => p a == true) = l.filter p := List.filter_congr fun a _ => by cases p a <;> rfl
theorem filt_f (p : List Int → Bool) (l : List (List Int)) : (l.filter fun a => p a == false) = l.filter fun a => !p a := List.filter_congr fun a _ => by cases p a <;> rfl
theorem NN.filt {m : Nat} {S : List (List Int)} (h : NN m S) (p : List Int → Bool) : NN m (S.filter p) := fun s hs => h s (List.mem_filter.mp hs).1
theorem Ab.app {n : Int} {A S B U : List (List Int)} (h : Ab n A S) (h' : Ab n B U) : Ab n (A ++ B) (S ++ U) := fun a => by
  rw [List.mem_append, h a, h' a]
  constructor
  · rintro (⟨s, hs, e⟩ | ⟨s, hs, e⟩)
    · exact ⟨s, List.mem_append_left _ hs, e⟩
    · exact ⟨s, List.mem_append_right _ hs, e⟩
  · rintro ⟨s, hs, e⟩
    rcases List.mem_append.mp hs with hs | hs
    · exact .inl ⟨s, hs, e⟩
    · exact .inr ⟨s, hs, e⟩
theorem Ab.same {n : Int} {A S U : List (List Int)} (h : Ab n A S) (e : ∀ s, s ∈ U ↔ s ∈ S) : Ab n A U := fun a => by
  rw [h a]
  constructor
  · rintro ⟨s, hs, e'⟩; exact ⟨s, (e s).mpr hs, e'⟩
  · rintro ⟨s, hs, e'⟩; exact ⟨s, (e s).mp hs, e'⟩
/-! ### simple rows -/
/-- the new values of the word -/
def Rw.vals (s : List Int) : Rw → List Int
  | .set _ n => [n]
  | .copy _ y => [gi s y]
  | .add w k => [gi s w + k]
  | .less w k => [if gi s w - k > 0 then gi s w - k else 0]
  | .draw w ns => ns.map fun p => gi s w + (p.1 : Int)
  | _ => []
def Rw.succ (r : Rw) (s : List Int) : List (List Int) := (r.vals s).map (pt s r.w)
theorem cutN_pt (c : Int) (s : List Int) (w : Nat) (x : Int) : cutN c (pt s w x) = pt (cutN c s) w (cut1 c x) := by
  rw [cutN_map, cutN_map]
  unfold pt
  rw [List.map_append, List.map_cons, List.map_take, List.map_drop]
theorem mem_setI2 : ∀ {l : List Int} {x : Int}, x ∈ setI l ↔ x ∈ l := by
  have mi : ∀ {l : List Int} {x y : Int}, y ∈ insU x l ↔ y = x ∨ y ∈ l := by
    intro l x y
    induction l with
    | nil => simp [insU]
    | cons z l ih =>
      unfold insU
      split
      · simp
      · split
        · rename_i e; rw [e]; simp
        · rw [List.mem_cons, ih, List.mem_cons]
          constructor
          · rintro (h | h | h)
            · exact .inr (.inl h)
            · exact .inl h
            · exact .inr (.inr h)
          · rintro (h | h | h)
            · exact .inr (.inl h)
            · exact .inl h
            · exact .inr (.inr h)
  intro l
  induction l with
  | nil => intro x; simp [setI]
  | cons y l ih => intro x; rw [setI, mi, ih, List.mem_cons]
theorem minc_minc (c n : Int) : minc c (minc c n) = minc c n := by
  unfold minc
  by_cases h : n < c
  · rw [if_pos h, if_pos h]
  · rw [if_neg h, if_neg (by omega)]
theorem vals_abs {m : Nat} {r : Rw} (hr : r.simple m) {c : Int} (hc : 0 ≤ c) {s : List Int} (hl : s.length = m) (hx : ∀ x ∈ s, 0 ≤ x) (y : Int) :
    (∃ x ∈ r.nums (cutN (r.need c) s) c, cut1 c x = y) ↔ ∃ v ∈ r.vals s, cut1 c v = y := by
  have hg : ∀ (n : Int) w, w < m → gi (cutN n s) w = cut1 n (gi s w) := fun n w hw => by rw [cutN_map, gi_map (by omega)]
  have h0 : ∀ w, w < m → 0 ≤ gi s w := fun w hw => hx _ (gi_mem (by omega))
  cases r with
  | set w n => rfl
  | copy w z =>
    simp only [Rw.nums, Rw.vals, Rw.need, List.mem_singleton, exists_eq_left]
    rw [hg c z hr.2, cut_cut hc (Int.le_refl _)]
  | add w k =>
    have hw : w < m := hr
    show (∃ x ∈ (Rw.add w k).nums (cutN c s) c, _) ↔ _
    simp only [Rw.nums, Rw.vals]
    rw [hg c w hw]
    have := h0 w hw
    by_cases h : c ≤ gi s w
    · have e1 : cut1 c (gi s w) = -1 := if_pos h
      rw [e1, if_pos rfl]
      simp only [List.mem_singleton, exists_eq_left]
      have e2 : cut1 c (-1) = -1 := by unfold cut1; rw [if_neg (by omega)]
      have e3 : cut1 c (gi s w + k) = -1 := if_pos (by omega)
      rw [e2, e3]
    · have e1 : cut1 c (gi s w) = gi s w := if_neg h
      rw [e1, if_neg (by omega)]
  | less w k =>
    have hw : w < m := hr
    show (∃ x ∈ (Rw.less w k).nums (cutN (c + k) s) c, _) ↔ _
    simp only [Rw.nums, Rw.vals]
    rw [hg (c + k) w hw]
    have := h0 w hw
    by_cases h : c + k ≤ gi s w
    · have e1 : cut1 (c + k) (gi s w) = -1 := if_pos h
      rw [e1, if_pos rfl]
      simp only [List.mem_singleton, exists_eq_left]
      have e2 : cut1 c (-1) = -1 := by unfold cut1; rw [if_neg (by omega)]
      have e3 : cut1 c (if gi s w - k > 0 then gi s w - k else 0) = -1 := if_pos (by split <;> omega)
      rw [e2, e3]
    · have e1 : cut1 (c + k) (gi s w) = gi s w := if_neg h
      rw [e1, if_neg (by omega)]
  | draw w ns =>
    have hw : w < m := hr.1
    have hne : 0 < ns.length := hr.2.1
    obtain ⟨p0, hp0⟩ : ∃ p, p ∈ ns := by
      match ns, hne with
      | p :: _, _ => exact ⟨p, by simp⟩
    show (∃ x ∈ (Rw.draw w ns).nums (cutN c s) c, _) ↔ _
    simp only [Rw.nums, Rw.vals, drawn]
    rw [hg c w hw]
    have hv := h0 w hw
    have em : ∀ x, x ∈ dnums ns c ↔ ∃ p ∈ ns, minc c p.1 = x := fun x => by unfold dnums; rw [mem_setI2, List.mem_map]
    by_cases h : c ≤ gi s w
    · have e1 : cut1 c (gi s w) = -1 := if_pos h
      rw [e1, if_pos (.inl rfl)]
      simp only [List.mem_singleton, exists_eq_left]
      have e2 : cut1 c (-1) = -1 := by unfold cut1; rw [if_neg (by omega)]
      rw [e2]
      constructor
      · intro e
        exact ⟨_, List.mem_map.mpr ⟨p0, hp0, rfl⟩, by rw [← e]; exact if_pos (by omega)⟩
      · rintro ⟨v, hv2, e⟩
        obtain ⟨p, hp, rfl⟩ := List.mem_map.mp hv2
        rw [← e]
        exact (if_pos (by omega)).symm
    · have e1 : cut1 c (gi s w) = gi s w := if_neg h
      rw [e1]
      by_cases hd : dnums ns c = [0]
      · rw [if_pos (.inr hd)]
        have hz : ∀ p ∈ ns, p.1 = 0 := fun p hp => by
          have : minc c p.1 ∈ dnums ns c := (em _).mpr ⟨p, hp, rfl⟩
          rw [hd, List.mem_singleton] at this
          unfold minc at this
          split at this <;> omega
        simp only [List.mem_singleton, exists_eq_left]
        constructor
        · intro e
          exact ⟨_, List.mem_map.mpr ⟨p0, hp0, rfl⟩, by rw [← e, hz p0 hp0]; simp⟩
        · rintro ⟨v, hv2, e⟩
          obtain ⟨p, hp, rfl⟩ := List.mem_map.mp hv2
          rw [← e, hz p hp]; simp
      · rw [if_neg (by rintro (z | z); · omega
                       · exact hd z)]
        have key : ∀ p : Nat × T, cut1 c (gi s w + minc c (minc c p.1)) = cut1 c (gi s w + p.1) := fun p => by
          rw [minc_minc]
          unfold minc
          by_cases hp : (p.1 : Int) < c
          · rw [if_pos hp]
          · rw [if_neg hp]
            unfold cut1
            rw [if_pos (by omega), if_pos (by omega)]
        constructor
        · rintro ⟨x, hx2, e⟩
          obtain ⟨z, hz, rfl⟩ := List.mem_map.mp hx2
          unfold sum1 at hz
          obtain ⟨u, hu, rfl⟩ := List.mem_map.mp (mem_setI2.mp hz)
          obtain ⟨p, hp, rfl⟩ := (em u).mp hu
          exact ⟨_, List.mem_map.mpr ⟨p, hp, rfl⟩, by rw [← key p]; exact e⟩
        · rintro ⟨v, hv2, e⟩
          obtain ⟨p, hp, rfl⟩ := List.mem_map.mp hv2
          refine ⟨gi s w + minc c (minc c p.1), List.mem_map.mpr ⟨minc c (minc c p.1), ?_, rfl⟩, by rw [key p]; exact e⟩
          unfold sum1
          exact mem_setI2.mpr (List.mem_map.mpr ⟨minc c p.1, (em _).mpr ⟨p, hp, rfl⟩, rfl⟩)
  | _ => exact hr.elim
theorem step_abs {m : Nat} {r : Rw} (hr : r.simple m) {c : Int} (hc : 0 ≤ c) {A S : List (List Int)} (hS : NN m S) (h : Ab (r.need c) A S) : Ab c (low (A.flatMap (r.step c)) c) (S.flatMap r.succ) := fun b => by
  have hcut : ∀ s, cutN c (cutN (r.need c) s) = cutN c s := fun s => cutN_cutN hc (Rw.need_ge r c) s
  rw [mem_low]
  constructor
  · rintro ⟨u, hu, rfl⟩
    obtain ⟨a, ha, hu⟩ := List.mem_flatMap.mp hu
    obtain ⟨s, hs, rfl⟩ := (h a).mp ha
    obtain ⟨x, hx, rfl⟩ := List.mem_map.mp hu
    obtain ⟨v, hv, e⟩ := (vals_abs hr hc (hS s hs).1 (hS s hs).2 (cut1 c x)).mp ⟨x, hx, rfl⟩
    exact ⟨pt s r.w v, List.mem_flatMap.mpr ⟨s, hs, List.mem_map.mpr ⟨v, hv, rfl⟩⟩, by rw [cutN_pt, cutN_pt, hcut, e]⟩
  · rintro ⟨u, hu, rfl⟩
    obtain ⟨s, hs, hu⟩ := List.mem_flatMap.mp hu
    obtain ⟨v, hv, rfl⟩ := List.mem_map.mp hu
    obtain ⟨x, hx, e⟩ := (vals_abs hr hc (hS s hs).1 (hS s hs).2 (cut1 c v)).mpr ⟨v, hv, rfl⟩
    exact ⟨pt (cutN (r.need c) s) r.w x, List.mem_flatMap.mpr ⟨_, (h _).mpr ⟨s, hs, rfl⟩, List.mem_map.mpr ⟨x, hx, rfl⟩⟩, by rw [cutN_pt, cutN_pt, hcut, e]⟩
theorem mem_sim {r : Rw} {m : Nat} (hr : r.simple m) (nd : ∀ w ns, r ≠ .draw w ns) (S : List (List Int)) (s : List Int) : s ∈ puts [] (S.map (sim r)) ↔ s ∈ S.flatMap r.succ := by
  rw [mem_puts]
  have e : ∀ u, r.succ u = [sim r u] := fun u => by
    cases r with
    | draw w ns => exact absurd rfl (nd w ns)
    | set w n => rfl
    | add w n => rfl
    | copy w n => rfl
    | less w n => rfl
    | _ => exact hr.elim
  have e2 : S.flatMap r.succ = S.map (sim r) := by
    rw [List.map_eq_flatMap]
    congr 1
    exact funext e
  rw [e2]
  simp
theorem NN.of_vx {m N : Nat} {S : List (List Int)} (h : Vx m N S) : NN m S := fun s hs => ⟨(h s hs).1, fun x hx => ((h s hs).2 x hx).1⟩
theorem NN.app {m : Nat} {S U : List (List Int)} (h : NN m S) (h' : NN m U) : NN m (S ++ U) := fun s hs => by
  rcases List.mem_append.mp hs with hs | hs
  · exact h s hs
  · exact h' s hs
theorem Ab.sw {n k : Int} {A S : List (List Int)} (h : Ab n A S) (e : k = n) : Ab k A S := by rw [e]; exact h
mutual
theorem Rw.sts_abs {m : Nat} : ∀ (r : Rw), r.ok m → ∀ (A S : List (List Int)) (c n : Int) (N : Nat), 0 ≤ c → r.need c ≤ n → Vx m N S → Ab n A S → Ab c (r.sts A c) (r.sup S)
  | .set w k, ho, A, S, c, n, N, hc, hn, hS, h => (step_abs (r := .set w k) ho hc (NN.of_vx hS) (h.low hc hn)).same (mem_sim (r := .set w k) ho (fun _ _ e => by cases e) S)
  | .add w k, ho, A, S, c, n, N, hc, hn, hS, h => (step_abs (r := .add w k) ho hc (NN.of_vx hS) (h.low hc hn)).same (mem_sim (r := .add w k) ho (fun _ _ e => by cases e) S)
  | .copy w k, ho, A, S, c, n, N, hc, hn, hS, h => (step_abs (r := .copy w k) ho hc (NN.of_vx hS) (h.low hc hn)).same (mem_sim (r := .copy w k) ho (fun _ _ e => by cases e) S)
  | .less w k, ho, A, S, c, n, N, hc, hn, hS, h => (step_abs (r := .less w k) ho hc (NN.of_vx hS) (h.low (Int.le_trans hc (Rw.need_ge (.less w k) c)) hn)).same (mem_sim (r := .less w k) ho (fun _ _ e => by cases e) S)
  | .draw w ns, ho, A, S, c, n, N, hc, hn, hS, h => (step_abs (r := .draw w ns) ho hc (NN.of_vx hS) (h.low hc hn)).same fun s => by
    rw [Rw.sup, mem_puts]
    have e : (Rw.draw w ns).succ = drw w ns := funext fun u => by
      show (ns.map fun p => gi u w + (p.1 : Int)).map (pt u w) = _
      rw [List.map_map]; rfl
    rw [e]
    simp
  | .given t, ho, A, S, c, n, N, hc, hn, hS, h => by
    have hge := Rw.need_ge (.given t) c
    have hcap : t.cap ≤ (Rw.given t).need c := by rw [Rw.need]; split <;> omega
    have h1 := (h.low (by omega) hn).filt hcap ho (NN.of_vx hS) true
    rw [Rw.sts, Rw.sup]
    generalize (Rw.given t).need c = q at *
    rw [filt_t, filt_t] at h1
    exact (h1.low hc hge).same fun s => by rw [mem_puts]; simp
  | .ite t a b, ho, A, S, c, n, N, hc, hn, hS, h => by
    have hge := Rw.need_ge (.ite t a b) c
    have en : (Rw.ite t a b).need c = maxI t.cap [need a c, need b c] := by rw [Rw.need]
    have hcap : t.cap ≤ (Rw.ite t a b).need c := by rw [Rw.need]; exact (maxI_ge [need a c, need b c] t.cap).1
    have hna : need a c ≤ (Rw.ite t a b).need c := by rw [Rw.need]; exact (maxI_ge [need a c, need b c] t.cap).2 _ (by simp)
    have hnb : need b c ≤ (Rw.ite t a b).need c := by rw [Rw.need]; exact (maxI_ge [need a c, need b c] t.cap).2 _ (by simp)
    rw [Rw.sts, Rw.sup, ← en]
    generalize (Rw.ite t a b).need c = q at *
    have h1 := (h.low (k := q) (by omega) hn).filt hcap ho.1 (NN.of_vx hS) true
    have h2 := (h.low (k := q) (by omega) hn).filt hcap ho.1 (NN.of_vx hS) false
    rw [filt_t, filt_t] at h1
    rw [filt_f, filt_f] at h2
    have h1 := h1.same (U := puts [] (S.filter t.holds)) fun s => by rw [mem_puts]; simp
    have h2 := h2.same (U := puts [] (S.filter fun s => !t.holds s)) fun s => by rw [mem_puts]; simp
    have b1 := blk_abs a ho.2.1 _ _ c q N hc hna (Vx.nil.puts (hS.filter _)) h1
    have b2 := blk_abs b ho.2.2 _ _ c q N hc hnb (Vx.nil.puts (hS.filter _)) h2
    exact ((b1.app b2).low hc (Int.le_refl _)).same fun s => by rw [mem_puts, mem_puts, List.mem_append]; simp
  | .alt t a b, ho, A, S, c, n, N, hc, hn, hS, h => by
    have hge := Rw.need_ge (.alt t a b) c
    have en : (Rw.alt t a b).need c = if need b c > need a c then need b c else need a c := by rw [Rw.need]
    have hna : need a c ≤ (Rw.alt t a b).need c := by rw [Rw.need]; split <;> omega
    have hnb : need b c ≤ (Rw.alt t a b).need c := by rw [Rw.need]; split <;> omega
    rw [Rw.sts, Rw.sup, ← en]
    generalize (Rw.alt t a b).need c = q at *
    have h1 := h.low (k := q) (by omega) hn
    have b1 := blk_abs a ho.1 _ _ c q N hc hna hS h1
    have b2 := blk_abs b ho.2 _ _ c q N hc hnb hS h1
    exact ((b1.app b2).low hc (Int.le_refl _)).same fun s => by rw [mem_puts, mem_puts, List.mem_append]; simp
theorem blk_abs {m : Nat} : ∀ (b : List Rw), oks m b → ∀ (A S : List (List Int)) (c n : Int) (N : Nat), 0 ≤ c → need b c ≤ n → Vx m N S → Ab n A S → Ab c (blk b A c) (sups b S)
  | [], _, A, S, c, n, N, hc, hn, hS, h => h.low hc hn
  | r :: b, ho, A, S, c, n, N, hc, hn, hS, h => blk_abs b ho.2 _ _ c (need b c) (N + r.inc) hc (Int.le_refl _) (Rw.sup_vx r ho.1 S N hS) (Rw.sts_abs r ho.1 A S (need b c) n N (Int.le_trans hc (need_ge b c)) hn hS h)
end
/-! ### one start after the other -/
mutual
theorem Rw.sup_add : ∀ (r : Rw) (S : List (List Int)) (x : List Int), x ∈ r.sup S ↔ ∃ s ∈ S, x ∈ r.sup [s]
  | .set w k, S, x => by
    rw [Rw.sup, mem_puts]
    simp only [Rw.sup, mem_puts, List.map_cons, List.map_nil, List.mem_singleton, List.not_mem_nil, false_or, List.mem_map]
    exact ⟨fun ⟨s, h, e⟩ => ⟨s, h, e.symm⟩, fun ⟨s, h, e⟩ => ⟨s, h, e.symm⟩⟩
  | .add w k, S, x => by
    rw [Rw.sup, mem_puts]
    simp only [Rw.sup, mem_puts, List.map_cons, List.map_nil, List.mem_singleton, List.not_mem_nil, false_or, List.mem_map]
    exact ⟨fun ⟨s, h, e⟩ => ⟨s, h, e.symm⟩, fun ⟨s, h, e⟩ => ⟨s, h, e.symm⟩⟩
  | .less w k, S, x => by
    rw [Rw.sup, mem_puts]
    simp only [Rw.sup, mem_puts, List.map_cons, List.map_nil, List.mem_singleton, List.not_mem_nil, false_or, List.mem_map]
    exact ⟨fun ⟨s, h, e⟩ => ⟨s, h, e.symm⟩, fun ⟨s, h, e⟩ => ⟨s, h, e.symm⟩⟩
  | .copy w k, S, x => by
    rw [Rw.sup, mem_puts]
    simp only [Rw.sup, mem_puts, List.map_cons, List.map_nil, List.mem_singleton, List.not_mem_nil, false_or, List.mem_map]
    exact ⟨fun ⟨s, h, e⟩ => ⟨s, h, e.symm⟩, fun ⟨s, h, e⟩ => ⟨s, h, e.symm⟩⟩
  | .draw w ns, S, x => by
    rw [Rw.sup, mem_puts]
    simp only [Rw.sup, mem_puts, List.flatMap_cons, List.flatMap_nil, List.append_nil, List.not_mem_nil, false_or, List.mem_flatMap]
  | .given t, S, x => by
    rw [Rw.sup, mem_puts]
    simp only [Rw.sup, mem_puts, List.mem_filter, List.mem_singleton, List.not_mem_nil, false_or]
    exact ⟨fun ⟨h, e⟩ => ⟨x, h, rfl, e⟩, fun ⟨s, h, e, e2⟩ => ⟨by rw [e]; exact h, e2⟩⟩
  | .ite t a b, S, x => by
    rw [Rw.sup, mem_puts, mem_puts]
    have ha := fun U => sups_add a U x
    have hb := fun U => sups_add b U x
    constructor
    · rintro ((h | h) | h)
      · exact absurd h (by simp)
      · obtain ⟨s, hs, h⟩ := (ha _).mp h
        have hs : s ∈ S.filter t.holds := by rcases mem_puts.mp hs with z | z; · exact absurd z (by simp)
                                             · exact z
        obtain ⟨hs, ht⟩ := List.mem_filter.mp hs
        refine ⟨s, hs, ?_⟩
        rw [Rw.sup, mem_puts, mem_puts]
        exact .inl (.inr ((ha _).mpr ⟨s, mem_puts.mpr (.inr (List.mem_filter.mpr ⟨by simp, ht⟩)), h⟩))
      · obtain ⟨s, hs, h⟩ := (hb _).mp h
        have hs : s ∈ S.filter (fun s => !t.holds s) := by rcases mem_puts.mp hs with z | z; · exact absurd z (by simp)
                                                           · exact z
        obtain ⟨hs, ht⟩ := List.mem_filter.mp hs
        refine ⟨s, hs, ?_⟩
        rw [Rw.sup, mem_puts, mem_puts]
        exact .inr ((hb _).mpr ⟨s, mem_puts.mpr (.inr (List.mem_filter.mpr ⟨by simp, ht⟩)), h⟩)
    · rintro ⟨s, hs, h⟩
      rw [Rw.sup, mem_puts, mem_puts] at h
      rcases h with (h | h) | h
      · exact absurd h (by simp)
      · obtain ⟨u, hu, h⟩ := (ha _).mp h
        have hu : u ∈ [s].filter t.holds := by rcases mem_puts.mp hu with z | z; · exact absurd z (by simp)
                                               · exact z
        obtain ⟨hu, ht⟩ := List.mem_filter.mp hu
        have e := List.mem_singleton.mp hu
        exact .inl (.inr ((ha _).mpr ⟨u, mem_puts.mpr (.inr (List.mem_filter.mpr ⟨by rw [e]; exact hs, ht⟩)), h⟩))
      · obtain ⟨u, hu, h⟩ := (hb _).mp h
        have hu : u ∈ [s].filter (fun s => !t.holds s) := by rcases mem_puts.mp hu with z | z; · exact absurd z (by simp)
                                                             · exact z
        obtain ⟨hu, ht⟩ := List.mem_filter.mp hu
        have e := List.mem_singleton.mp hu
        exact .inr ((hb _).mpr ⟨u, mem_puts.mpr (.inr (List.mem_filter.mpr ⟨by rw [e]; exact hs, ht⟩)), h⟩)
  | .alt t a b, S, x => by
    rw [Rw.sup, mem_puts, mem_puts]
    have ha := fun U => sups_add a U x
    have hb := fun U => sups_add b U x
    constructor
    · rintro ((h | h) | h)
      · exact absurd h (by simp)
      · obtain ⟨s, hs, h⟩ := (ha _).mp h
        refine ⟨s, hs, ?_⟩
        rw [Rw.sup, mem_puts, mem_puts]
        exact .inl (.inr h)
      · obtain ⟨s, hs, h⟩ := (hb _).mp h
        refine ⟨s, hs, ?_⟩
        rw [Rw.sup, mem_puts, mem_puts]
        exact .inr h
    · rintro ⟨s, hs, h⟩
      rw [Rw.sup, mem_puts, mem_puts] at h
      rcases h with (h | h) | h
      · exact absurd h (by simp)
      · exact .inl (.inr ((ha _).mpr ⟨s, hs, h⟩))
      · exact .inr ((hb _).mpr ⟨s, hs, h⟩)
theorem sups_add : ∀ (b : List Rw) (S : List (List Int)) (x : List Int), x ∈ sups b S ↔ ∃ s ∈ S, x ∈ sups b [s]
  | [], S, x => by
    rw [sups]
    exact ⟨fun h => ⟨x, h, by rw [sups]; simp⟩, fun ⟨s, h, e⟩ => by rw [sups, List.mem_singleton] at e; rw [e]; exact h⟩
  | r :: b, S, x => by
    rw [sups]
    have hb := fun U => sups_add b U x
    have hr := fun U y => Rw.sup_add r U y
    constructor
    · intro h
      obtain ⟨u, hu, h⟩ := (hb _).mp h
      obtain ⟨s, hs, hu⟩ := (hr _ _).mp hu
      refine ⟨s, hs, ?_⟩
      rw [sups]
      exact (hb _).mpr ⟨u, hu, h⟩
    · rintro ⟨s, hs, h⟩
      rw [sups] at h
      obtain ⟨u, hu, h⟩ := (hb _).mp h
      exact (hb _).mpr ⟨u, (hr _ _).mpr ⟨s, hs, hu⟩, h⟩
end
/-- what the program tells stands for what the law tells -/
theorem sb_abs {m : Nat} (hm : m = 1 ∨ m = 2) {l : List Rw} (ho : oks m l) : Ab 10 (sb m l) (lst m l) := fun a => by
  have hge := need_ge l 10
  unfold sb lst
  generalize hn : (need l 10).toNat = n
  have en : need l 10 ≤ (n : Int) := by omega
  have one : ∀ s ∈ stL m n, Ab 10 (blk l [cutN n s] 10) (sups l [s]) := fun s hs => blk_abs l ho [cutN n s] [s] 10 n n (by decide) en (fun u hu => by rw [List.mem_singleton.mp hu]; exact stL_vx hm s hs) fun a => by simp [eq_comm]
  rw [mem_puts, List.mem_flatMap]
  constructor
  · rintro (h | ⟨r, hr, h⟩)
    · exact absurd h (by simp)
    · obtain ⟨hl, hx⟩ := (mem_regs hm).mp hr
      have hs : r.map (fun x => if x = -1 then (n : Int) else x) ∈ stL m n := (mem_stL hm).mpr ⟨by rw [List.length_map]; exact hl, fun y hy => by
        obtain ⟨x, hx2, rfl⟩ := List.mem_map.mp hy
        have := mem_far.mp (hx x hx2)
        split <;> omega⟩
      have er : cutN n (r.map fun x => if x = -1 then (n : Int) else x) = r := by
        rw [cutN_map, List.map_map]
        have : ∀ x ∈ r, (cut1 (n : Int) ∘ fun x => if x = -1 then (n : Int) else x) x = x := fun x hx2 => by
          have := mem_far.mp (hx x hx2)
          show cut1 n (if x = -1 then (n : Int) else x) = x
          unfold cut1
          by_cases e : x = -1
          · rw [if_pos e, if_pos (Int.le_refl _)]; exact e.symm
          · rw [if_neg e, if_neg (by omega)]
        rw [List.map_congr_left this, List.map_id']
      have h2 := one _ hs
      rw [er] at h2
      obtain ⟨s', hs', e⟩ := (h2 a).mp h
      exact ⟨s', (sups_add l _ s').mpr ⟨_, mem_puts.mpr (.inr hs), hs'⟩, e⟩
  · rintro ⟨s', hs', e⟩
    obtain ⟨s, hs, hs'⟩ := (sups_add l _ s').mp hs'
    have hs : s ∈ stL m n := by rcases mem_puts.mp hs with z | z; · exact absurd z (by simp)
                                · exact z
    refine .inr ⟨cutN n s, (mem_regs hm).mpr ⟨by rw [cutN_len]; exact (stL_vx hm s hs).1, fun x hx => ?_⟩, (one s hs a).mpr ⟨s', hs', e⟩⟩
    obtain ⟨y, hy, rfl⟩ := List.mem_map.mp hx
    have := (stL_vx hm s hs).2 y hy
    rw [mem_far]
    split <;> omega
/-! ### both tell the same number -/
theorem mem_insI {x y : Int} : ∀ {l : List Int}, y ∈ insI x l ↔ y = x ∨ y ∈ l
  | [] => by simp [insI]
  | z :: l => by
    unfold insI
    split
    · simp
    · rw [List.mem_cons, mem_insI, List.mem_cons]
      constructor
      · rintro (h | h | h)
        · exact .inr (.inl h)
        · exact .inl h
        · exact .inr (.inr h)
      · rintro (h | h | h)
        · exact .inr (.inl h)
        · exact .inl h
        · exact .inr (.inr h)
theorem mem_sortI {y : Int} : ∀ {l : List Int}, y ∈ Ev.sortI l ↔ y ∈ l
  | [] => Iff.rfl
  | x :: l => by rw [Ev.sortI, mem_insI, mem_sortI, List.mem_cons]
theorem insI_pw {x : Int} : ∀ {l : List Int}, l.Pairwise (· ≤ ·) → (insI x l).Pairwise (· ≤ ·)
  | [], _ => by simp [insI]
  | z :: l, h => by
    obtain ⟨h1, h2⟩ := List.pairwise_cons.mp h
    unfold insI
    split
    · rename_i q
      refine List.pairwise_cons.mpr ⟨fun y hy => ?_, h⟩
      rcases List.mem_cons.mp hy with e | hy
      · omega
      · have := h1 y hy; omega
    · refine List.pairwise_cons.mpr ⟨fun y hy => ?_, insI_pw h2⟩
      rcases mem_insI.mp hy with e | hy
      · omega
      · exact h1 y hy
theorem sortI_pw : ∀ l : List Int, (Ev.sortI l).Pairwise (· ≤ ·)
  | [] => List.Pairwise.nil
  | x :: l => insI_pw (sortI_pw l)
theorem lastI_in : ∀ (x : Int) (l : List Int), lastI x l ∈ x :: l
  | x, [] => by simp [lastI]
  | x, y :: l => by rw [lastI]; exact List.mem_cons_of_mem _ (lastI_in y l)
theorem lastI_ge : ∀ (x : Int) (l : List Int), (x :: l).Pairwise (· ≤ ·) → ∀ y ∈ x :: l, y ≤ lastI x l
  | x, [], _, y, h => by rw [List.mem_singleton.mp h]; exact Int.le_refl _
  | x, z :: l, h, y, hy => by
    obtain ⟨h1, h2⟩ := List.pairwise_cons.mp h
    rw [lastI]
    rcases List.mem_cons.mp hy with e | hy
    · rw [e]
      have a := h1 z (by simp)
      have b := lastI_ge z l h2 z (by simp)
      omega
    · exact lastI_ge z l h2 y hy
theorem lsure_one {S : List (List Int)} {w : Nat} {v : Int} (hne : ∃ s, s ∈ S) (h : ∀ s ∈ S, gi s w = v) (h9 : v ≤ 9) : lsure S w = [v] := by
  unfold lsure
  have hm : ∀ y, y ∈ Ev.sortI (S.map fun s => gi s w) → y = v := fun y hy => by
    obtain ⟨s, hs, rfl⟩ := List.mem_map.mp (mem_sortI.mp hy)
    exact h s hs
  obtain ⟨s, hs⟩ := hne
  have hin : gi s w ∈ Ev.sortI (S.map fun s => gi s w) := mem_sortI.mpr (List.mem_map.mpr ⟨s, hs, rfl⟩)
  generalize Ev.sortI (S.map fun s => gi s w) = ns at hm hin ⊢
  rcases ns with _ | ⟨x, ns⟩
  · exact absurd hin (by simp)
  · have e1 := hm x (by simp)
    have e2 := hm _ (lastI_in x ns)
    dsimp only
    rw [if_neg (by omega), e1]
theorem lsure_no {S : List (List Int)} {w : Nat} (h : ¬ ∃ v, (∃ s, s ∈ S) ∧ (∀ s ∈ S, gi s w = v) ∧ v ≤ 9) : lsure S w = [] := by
  unfold lsure
  have hm : ∀ y, y ∈ Ev.sortI (S.map fun s => gi s w) ↔ ∃ s ∈ S, gi s w = y := fun y => mem_sortI.trans List.mem_map
  have hp := sortI_pw (S.map fun s => gi s w)
  generalize Ev.sortI (S.map fun s => gi s w) = ns at hm hp ⊢
  rcases ns with _ | ⟨x, ns⟩
  · rfl
  · dsimp only
    by_cases hc : 9 < lastI x ns ∨ x ≠ lastI x ns
    · rw [if_pos hc]
    · exfalso
      refine h ⟨x, ?_, fun s hs => ?_, by omega⟩
      · obtain ⟨s, hs, _⟩ := (hm x).mp (by simp)
        exact ⟨s, hs⟩
      · have hin := (hm (gi s w)).mpr ⟨s, hs, rfl⟩
        have a := lastI_ge x ns hp _ hin
        have b : x ≤ gi s w := by
          rcases List.mem_cons.mp hin with e | hin
          · omega
          · exact (List.pairwise_cons.mp hp).1 _ hin
        omega
theorem sureIn_one {S : List (List Int)} {w : Nat} {v : Int} (hne : ∃ s, s ∈ S) (h : ∀ s ∈ S, gi s w = v) (h0 : 0 ≤ v) : sureIn S w = [v] := by
  rcases S with _ | ⟨s, S⟩
  · obtain ⟨s, hs⟩ := hne; exact absurd hs (by simp)
  · have e := h s (by simp)
    unfold sureIn
    dsimp only
    rw [if_neg, e]
    rintro (z | z)
    · omega
    · obtain ⟨u, hu, hn⟩ := List.any_eq_true.mp z
      have := h u hu
      rw [this, e] at hn
      simp at hn
theorem sureIn_no {S : List (List Int)} {w : Nat} (h : ¬ ∃ v, (∃ s, s ∈ S) ∧ (∀ s ∈ S, gi s w = v) ∧ 0 ≤ v) : sureIn S w = [] := by
  rcases S with _ | ⟨s, S⟩
  · rfl
  · unfold sureIn
    dsimp only
    by_cases hc : gi s w < 0 ∨ ((s :: S).any fun u => gi u w != gi s w) = true
    · rw [if_pos hc]
    · exfalso
      refine h ⟨gi s w, ⟨s, by simp⟩, fun u hu => ?_, by omega⟩
      by_cases e : gi u w = gi s w
      · exact e
      · exact absurd (.inr (List.any_eq_true.mpr ⟨u, hu, by simpa using e⟩)) hc
theorem sure_same {m : Nat} (hm : m = 1 ∨ m = 2) {l : List Rw} (ho : oks m l) {w : Nat} (hw : w < m) : sureIn (sb m l) w = lsure (lst m l) w := by
  have hab := sb_abs hm ho
  have hge := need_ge l 10
  have hv : Vx m ((need l 10).toNat + incs l) (lst m l) := sups_vx l ho _ _ (Vx.nil.puts (stL_vx hm))
  have hgi : ∀ s ∈ lst m l, gi (cutN 10 s) w = cut1 10 (gi s w) ∧ 0 ≤ gi s w := fun s hs => by
    have hl : w < s.length := by rw [(hv s hs).1]; exact hw
    exact ⟨by rw [cutN_map, gi_map hl], ((hv s hs).2 _ (gi_mem hl)).1⟩
  by_cases h : ∃ v, (∃ s, s ∈ lst m l) ∧ (∀ s ∈ lst m l, gi s w = v) ∧ v ≤ 9
  · obtain ⟨v, ⟨s, hs⟩, hall, h9⟩ := h
    have h0 : 0 ≤ v := by rw [← hall s hs]; exact (hgi s hs).2
    rw [lsure_one ⟨s, hs⟩ hall h9, sureIn_one ⟨cutN 10 s, (hab _).mpr ⟨s, hs, rfl⟩⟩ (fun a ha => ?_) h0]
    obtain ⟨s', hs', rfl⟩ := (hab a).mp ha
    rw [(hgi s' hs').1, hall s' hs']
    exact if_neg (by omega)
  · rw [lsure_no h, sureIn_no]
    rintro ⟨v, ⟨a, ha⟩, hall, h0⟩
    obtain ⟨s, hs, rfl⟩ := (hab a).mp ha
    have hcut : ∀ s ∈ lst m l, cut1 10 (gi s w) = v := fun s hs => by
      rw [← (hgi s hs).1]
      exact hall _ ((hab _).mpr ⟨s, hs, rfl⟩)
    have hval : ∀ s ∈ lst m l, gi s w = v ∧ v ≤ 9 := fun s hs => by
      have := hcut s hs
      unfold cut1 at this
      split at this <;> omega
    exact h ⟨v, ⟨s, hs⟩, fun s hs => (hval s hs).1, (hval s hs).2⟩
end K82
end

section
set_option autoImplicit false
set_option linter.all false
set_option maxRecDepth 100000
set_option maxHeartbeats 2000000
/-! M18: bounds of what is drawn. -/
namespace K82
open Ev
mutual
def Rw.sz : Rw → Nat
  | .given _ => 0
  | .ite _ a b => max (szs a) (szs b)
  | .alt _ a b => max (szs a) (szs b)
  | _ => 1
def szs : List Rw → Nat
  | [] => 0
  | r :: b => r.sz + szs b
end
mutual
def Rw.tame : Rw → Prop
  | .set _ n => n ≤ 4
  | .add _ n => n ≤ 4
  | .less _ n => n ≤ 2
  | .copy _ _ => True
  | .draw _ ns => mx ns ≤ 4 ∧ ns.length ≤ 3 ∧ ∀ p ∈ ns, isCh p.2
  | .given t => t.cap ≤ 2
  | .ite t a b => t.cap ≤ 2 ∧ tames a ∧ tames b
  | .alt c a b => isCh c ∧ tames a ∧ tames b
def tames : List Rw → Prop
  | [] => True
  | r :: b => r.tame ∧ tames b
end
theorem tames_of : ∀ {b : List Rw}, (∀ r ∈ b, r.tame) → tames b
  | [], _ => trivial
  | r :: b, h => ⟨h r (by simp), tames_of fun x hx => h x (List.mem_cons_of_mem _ hx)⟩
theorem tames_mem : ∀ {b : List Rw}, tames b → ∀ r ∈ b, r.tame
  | x :: b, h, r, hr => by
    rw [tames] at h
    rcases List.mem_cons.mp hr with e | hr
    · rw [e]; exact h.1
    · exact tames_mem h.2 r hr
theorem oks_of {m : Nat} : ∀ {b : List Rw}, (∀ r ∈ b, r.ok m) → oks m b
  | [], _ => trivial
  | r :: b, h => ⟨h r (by simp), oks_of fun x hx => h x (List.mem_cons_of_mem _ hx)⟩
theorem wids_of : ∀ {b : List Rw}, b.length < 1000 → (∀ r ∈ b, r.wid) → wids b
  | [], _, _ => trivial
  | r :: b, hl, h => by
    rw [List.length_cons] at hl
    exact ⟨by omega, h r (by simp), wids_of (by omega) fun x hx => h x (List.mem_cons_of_mem _ hx)⟩
mutual
theorem Rw.inc_le : ∀ r : Rw, r.tame → r.inc ≤ 4 * r.sz
  | .set _ n, h => by rw [Rw.tame] at h; simp only [Rw.inc, Rw.sz]; omega
  | .add _ n, h => by rw [Rw.tame] at h; simp only [Rw.inc, Rw.sz]; omega
  | .less _ n, h => by simp only [Rw.inc, Rw.sz]; omega
  | .copy _ n, h => by simp only [Rw.inc, Rw.sz]; omega
  | .draw _ ns, h => by rw [Rw.tame] at h; simp only [Rw.inc, Rw.sz]; omega
  | .given t, h => by simp only [Rw.inc, Rw.sz]; omega
  | .ite t a b, h => by
    rw [Rw.tame] at h
    have h1 := incs_le a h.2.1
    have h2 := incs_le b h.2.2
    simp only [Rw.inc, Rw.sz]; omega
  | .alt t a b, h => by
    rw [Rw.tame] at h
    have h1 := incs_le a h.2.1
    have h2 := incs_le b h.2.2
    simp only [Rw.inc, Rw.sz]; omega
theorem incs_le : ∀ b : List Rw, tames b → incs b ≤ 4 * szs b
  | [], _ => Nat.le_refl _
  | r :: b, h => by
    rw [tames] at h
    have h1 := Rw.inc_le r h.1
    have h2 := incs_le b h.2
    rw [incs, szs]; omega
end
mutual
theorem Rw.need_le : ∀ (r : Rw) (c : Int), r.tame → 2 ≤ c → r.need c ≤ c + 2 * (r.sz : Int)
  | .set _ n, c, h, hc => by simp only [Rw.need, Rw.sz]; omega
  | .add _ n, c, h, hc => by simp only [Rw.need, Rw.sz]; omega
  | .less _ n, c, h, hc => by rw [Rw.tame] at h; simp only [Rw.need, Rw.sz]; omega
  | .copy _ n, c, h, hc => by simp only [Rw.need, Rw.sz]; omega
  | .draw _ ns, c, h, hc => by simp only [Rw.need, Rw.sz]; omega
  | .given t, c, h, hc => by rw [Rw.tame] at h; simp only [Rw.need, Rw.sz]; split <;> omega
  | .ite t a b, c, h, hc => by
    rw [Rw.tame] at h
    have h1 := need_le a c h.2.1 hc
    have h2 := need_le b c h.2.2 hc
    have h3 := h.1
    simp only [Rw.need, Rw.sz, maxI]
    split <;> split <;> omega
  | .alt t a b, c, h, hc => by
    rw [Rw.tame] at h
    have h1 := need_le a c h.2.1 hc
    have h2 := need_le b c h.2.2 hc
    simp only [Rw.need, Rw.sz]
    split <;> omega
theorem need_le : ∀ (b : List Rw) (c : Int), tames b → 2 ≤ c → need b c ≤ c + 2 * (szs b : Int)
  | [], c, _, hc => by rw [need, szs]; omega
  | r :: b, c, h, hc => by
    rw [tames] at h
    have h2 := need_le b c h.2 hc
    have h3 := need_ge b c
    have h1 := Rw.need_le r (need b c) h.1 (by omega)
    rw [need, szs]; omega
end
theorem szs_app : ∀ (a b : List Rw), szs (a ++ b) = szs a + szs b
  | [], b => by rw [List.nil_append, szs]; omega
  | r :: a, b => by rw [List.cons_append, szs, szs, szs_app a b]; omega
theorem dps_app : ∀ (a b : List Rw), dps (a ++ b) = max (dps a) (dps b)
  | [], b => by have := dps_8 b; rw [List.nil_append, dps]; omega
  | r :: a, b => by rw [List.cons_append, dps, dps, dps_app a b]; omega
theorem wid_mem {b : List Rw} (h : wids b) : ∀ r ∈ b, r.wid := wids_mem h
theorem cnt_1 (r : Rw) : 1 ≤ r.cnt := by cases r <;> simp only [Rw.cnt] <;> omega
theorem len_cnts : ∀ b : List Rw, b.length ≤ cnts b
  | [] => Nat.le_refl _
  | r :: b => by have h1 := cnt_1 r; have h2 := len_cnts b; rw [List.length_cons, cnts]; omega
/-- what a road keeps of its block -/
theorem rows_all {m : Nat} : ∀ (p : List Nat) (b l : List Rw), rows b p = some l → oks m b → tames b → wids b → cnts b < 1000 → oks m l ∧ tames l ∧ (∀ r ∈ l, r.wid) ∧ l.length ≤ cnts b ∧ szs l ≤ szs b ∧ dps l ≤ dps b + 1
  | [], _, _, h, _, _, _, _ => by cases h
  | [k], b, l, h, ho, ht, hw, hc => by
    rw [rows] at h
    split at h
    · cases h
      have hm : ∀ r ∈ b.take k, r ∈ b := fun r hr => List.mem_of_mem_take hr
      have e : b = b.take k ++ b.drop k := (List.take_append_drop k b).symm
      have e1 := szs_app (b.take k) (b.drop k)
      have e2 := dps_app (b.take k) (b.drop k)
      rw [← e] at e1 e2
      have := len_cnts b
      exact ⟨oks_of fun r hr => oks_mem ho r (hm r hr), tames_of fun r hr => tames_mem ht r (hm r hr), fun r hr => wids_mem hw r (hm r hr), by rw [List.length_take]; omega, by omega, by omega⟩
    · cases h
  | k :: i :: p, b, l, h, ho, ht, hw, hc => by
    obtain ⟨r, x, y, l', hb, hk, hi, hr, hcs⟩ := rows_cons h
    have hrm := List.mem_of_getElem? hb
    have hrw := wids_mem hw r hrm
    have hrt := tames_mem ht r hrm
    have hro := oks_mem ho r hrm
    have hrd := dps_mem hrm
    have hm : ∀ r ∈ b.take k, r ∈ b := fun r hr => List.mem_of_mem_take hr
    have hkk : b[k] = r := (List.getElem?_eq_some_iff.mp hb).2
    have e : b = b.take k ++ r :: b.drop (k + 1) := by
      rw [← hkk, ← List.drop_eq_getElem_cons hk, List.take_append_drop]
    have e1 := szs_app (b.take k) (r :: b.drop (k + 1))
    have e2 := dps_app (b.take k) (r :: b.drop (k + 1))
    have e3 := cnts_app (b.take k) (r :: b.drop (k + 1))
    rw [← e, szs] at e1
    rw [← e, dps] at e2
    rw [← e, cnts] at e3
    have e4 := len_cnts (b.take k)
    have hin : oks m (if i = 0 then x else y) ∧ tames (if i = 0 then x else y) ∧ wids (if i = 0 then x else y) ∧ cnts (if i = 0 then x else y) + 1 ≤ r.cnt ∧ szs (if i = 0 then x else y) ≤ r.sz ∧ dps (if i = 0 then x else y) + 8 ≤ r.dp := by
      rcases hcs with ⟨t, er, _⟩ | ⟨t, er, _⟩
      · rw [er, Rw.wid] at hrw
        rw [er, Rw.tame] at hrt
        rw [er] at hro
        rw [er, Rw.cnt, Rw.sz, Rw.dp]
        rcases hi with rfl | rfl
        · exact ⟨hro.2.1, hrt.2.1, hrw.1, by rw [if_pos rfl]; omega, by rw [if_pos rfl]; omega, by rw [if_pos rfl]; omega⟩
        · exact ⟨hro.2.2, hrt.2.2, hrw.2, by rw [if_neg (by decide)]; omega, by rw [if_neg (by decide)]; omega, by rw [if_neg (by decide)]; omega⟩
      · rw [er, Rw.wid] at hrw
        rw [er, Rw.tame] at hrt
        rw [er] at hro
        rw [er, Rw.cnt, Rw.sz, Rw.dp]
        rcases hi with rfl | rfl
        · exact ⟨hro.1, hrt.2.1, hrw.1, by rw [if_pos rfl]; omega, by rw [if_pos rfl]; omega, by rw [if_pos rfl]; omega⟩
        · exact ⟨hro.2, hrt.2.2, hrw.2, by rw [if_neg (by decide)]; omega, by rw [if_neg (by decide)]; omega, by rw [if_neg (by decide)]; omega⟩
    obtain ⟨i1, i2, i3, i4, i5, i6⟩ := hin
    obtain ⟨j1, j2, j3, j4, j5, j6⟩ := rows_all p _ l' hr i1 i2 i3 (by omega)
    have o1 : oks m (b.take k) := oks_of fun r hr => oks_mem ho r (hm r hr)
    have t1 : tames (b.take k) := tames_of fun r hr => tames_mem ht r (hm r hr)
    have w1 : ∀ r ∈ b.take k, r.wid := fun r hr => wids_mem hw r (hm r hr)
    rcases hcs with ⟨t, er, el⟩ | ⟨t, er, el⟩
    · rw [er, Rw.tame] at hrt
      rw [er] at hro
      have hg : ∃ t', (if i = 0 then t else .no t) = t' ∧ t'.ok m ∧ t'.cap ≤ 2 ∧ t'.dp + 8 ≤ r.dp + 1 := by
        rw [er, Rw.dp]
        rcases hi with rfl | rfl
        · exact ⟨t, rfl, hro.1, hrt.1, by omega⟩
        · exact ⟨.no t, rfl, hro.1, hrt.1, by simp only [Te.dp]; omega⟩
      obtain ⟨t', et, g1, g2, g3⟩ := hg
      rw [el, et]
      refine ⟨oks_of fun z hz => ?_, tames_of fun z hz => ?_, fun z hz => ?_, ?_, ?_, ?_⟩
      · rcases List.mem_append.mp hz with hz | hz
        · exact oks_mem o1 z hz
        · rcases List.mem_cons.mp hz with e | hz
          · rw [e]; exact g1
          · exact oks_mem j1 z hz
      · rcases List.mem_append.mp hz with hz | hz
        · exact tames_mem t1 z hz
        · rcases List.mem_cons.mp hz with e | hz
          · rw [e]; exact g2
          · exact tames_mem j2 z hz
      · rcases List.mem_append.mp hz with hz | hz
        · exact w1 z hz
        · rcases List.mem_cons.mp hz with e | hz
          · rw [e]; trivial
          · exact j3 z hz
      · rw [List.length_append, List.length_cons]; omega
      · rw [szs_app, szs, Rw.sz]; omega
      · rw [dps_app, dps, Rw.dp]; omega
    · rw [el]
      refine ⟨oks_of fun z hz => ?_, tames_of fun z hz => ?_, fun z hz => ?_, ?_, ?_, ?_⟩
      · rcases List.mem_append.mp hz with hz | hz
        · exact oks_mem o1 z hz
        · exact oks_mem j1 z hz
      · rcases List.mem_append.mp hz with hz | hz
        · exact tames_mem t1 z hz
        · exact tames_mem j2 z hz
      · rcases List.mem_append.mp hz with hz | hz
        · exact w1 z hz
        · exact j3 z hz
      · rw [List.length_append]; omega
      · rw [szs_app]; omega
      · rw [dps_app]; omega
/-! ### the drawn block -/
structure Nice (m : Nat) (b : List Rw) : Prop where
  ok : oks m b
  tm : tames b
  wd : ∀ r ∈ b, r.wid
theorem Nice.app {m : Nat} {a b : List Rw} (h : Nice m a) (h' : Nice m b) : Nice m (a ++ b) where
  ok := oks_of fun r hr => (List.mem_append.mp hr).elim (oks_mem h.ok r) (oks_mem h'.ok r)
  tm := tames_of fun r hr => (List.mem_append.mp hr).elim (tames_mem h.tm r) (tames_mem h'.tm r)
  wd := fun r hr => (List.mem_append.mp hr).elim (h.wd r) (h'.wd r)
theorem mx_le {k : Nat} : ∀ {ns : List (Nat × T)}, (∀ p ∈ ns, p.1 ≤ k) → mx ns ≤ k
  | [], _ => Nat.zero_le _
  | p :: ns, h => by
    have h1 := h p (by simp)
    have h2 := mx_le fun q hq => h q (List.mem_cons_of_mem _ hq)
    show max p.1 (mx ns) ≤ k
    omega
theorem row0_nice {m : Nat} {r : Rw} (h : row0 m r) : Nice m [r] ∧ r.dp = 8 ∧ r.cnt = 1 ∧ r.sz = 1 := by
  have mk : r.ok m → r.tame → r.wid → Nice m [r] := fun a b c => ⟨⟨a, trivial⟩, ⟨b, trivial⟩, fun x hx => by rw [List.mem_singleton.mp hx]; exact c⟩
  cases r with
  | set w n => exact ⟨mk h.1 (by rw [Rw.tame]; have := h.2; omega) trivial, rfl, rfl, rfl⟩
  | add w n => exact ⟨mk h.1 (by rw [Rw.tame]; have := h.2; omega) trivial, rfl, rfl, rfl⟩
  | less w n => exact ⟨mk h.1 h.2 trivial, rfl, rfl, rfl⟩
  | copy w n => exact ⟨mk h trivial trivial, rfl, rfl, rfl⟩
  | draw w ns => exact ⟨mk ⟨h.1, h.2.1, h.2.2.1⟩ ⟨mx_le fun p hp => (h.2.2.2 p hp).1, h.2.2.1, fun p hp => (h.2.2.2 p hp).2⟩ trivial, rfl, rfl, rfl⟩
  | _ => exact h.elim
theorem all0_nice {m : Nat} : ∀ {b : List Rw}, all0 m b → Nice m b ∧ dps b = 8 ∧ cnts b = b.length ∧ szs b = b.length
  | [], _ => ⟨⟨trivial, trivial, fun r hr => absurd hr (by simp)⟩, rfl, rfl, rfl⟩
  | r :: b, h => by
    obtain ⟨h1, h2, h3, h4⟩ := row0_nice (h r (by simp))
    obtain ⟨i1, i2, i3, i4⟩ := all0_nice fun x hx => h x (List.mem_cons_of_mem _ hx)
    refine ⟨h1.app i1, ?_, ?_, ?_⟩
    · rw [dps, h2, i2]; rfl
    · rw [cnts, h3, i3, List.length_cons]; omega
    · rw [szs, h4, i4, List.length_cons]; omega
theorem row1_nice {m : Nat} {r : Rw} (h : row1 m r) : Nice m [r] ∧ r.dp ≤ 16 ∧ r.cnt ≤ 4 ∧ r.sz ≤ 2 := by
  have mk : r.ok m → r.tame → r.wid → Nice m [r] := fun a b c => ⟨⟨a, trivial⟩, ⟨b, trivial⟩, fun x hx => by rw [List.mem_singleton.mp hx]; exact c⟩
  rcases h with h | ⟨t, a, b, rfl, ht, la, lb, ha, hb⟩ | ⟨t, a, b, rfl, ht, la, lb, ha, hb⟩
  · obtain ⟨h1, h2, h3, h4⟩ := row0_nice h
    exact ⟨h1, by omega, by omega, by omega⟩
  · obtain ⟨a1, a2, a3, a4⟩ := all0_nice ha
    obtain ⟨b1, b2, b3, b4⟩ := all0_nice hb
    refine ⟨mk ⟨ht.1, a1.ok, b1.ok⟩ ⟨ht.2.1, a1.tm, b1.tm⟩ ⟨wids_of (by omega) a1.wd, wids_of (by omega) b1.wd⟩, ?_, ?_, ?_⟩
    · rw [Rw.dp]; have := ht.2.2; omega
    · rw [Rw.cnt]; omega
    · rw [Rw.sz]; omega
  · obtain ⟨a1, a2, a3, a4⟩ := all0_nice ha
    obtain ⟨b1, b2, b3, b4⟩ := all0_nice hb
    refine ⟨mk ⟨a1.ok, b1.ok⟩ ⟨ht, a1.tm, b1.tm⟩ ⟨wids_of (by omega) a1.wd, wids_of (by omega) b1.wd⟩, ?_, ?_, ?_⟩
    · rw [Rw.dp]; omega
    · rw [Rw.cnt]; omega
    · rw [Rw.sz]; omega
theorem all1_nice {m : Nat} : ∀ {b : List Rw}, all1 m b → Nice m b ∧ dps b ≤ 16 ∧ cnts b ≤ 4 * b.length ∧ szs b ≤ 2 * b.length
  | [], _ => ⟨⟨trivial, trivial, fun r hr => absurd hr (by simp)⟩, by rw [dps]; omega, Nat.le_refl _, Nat.le_refl _⟩
  | r :: b, h => by
    obtain ⟨h1, h2, h3, h4⟩ := row1_nice (h r (by simp))
    obtain ⟨i1, i2, i3, i4⟩ := all1_nice fun x hx => h x (List.mem_cons_of_mem _ hx)
    refine ⟨h1.app i1, ?_, ?_, ?_⟩
    · rw [dps]; omega
    · rw [cnts, List.length_cons]; omega
    · rw [szs, List.length_cons]; omega
theorem mid_nice {m : Nat} {rl : Rw} {l : List Rw} (hrl : row0 m rl) (h : mid m rl l) : Nice m l ∧ dps l ≤ 24 ∧ cnts l ≤ 10 ∧ szs l ≤ 4 ∧ l.length ≤ 3 := by
  obtain ⟨r1, r2, r3, r4⟩ := row0_nice hrl
  have mk : ∀ r : Rw, r.ok m → r.tame → r.wid → Nice m [r] := fun r a b c => ⟨⟨a, trivial⟩, ⟨b, trivial⟩, fun x hx => by rw [List.mem_singleton.mp hx]; exact c⟩
  have dl : dps [rl] = 8 := by rw [dps, dps, r2]; rfl
  have cl : cnts [rl] = 1 := by rw [cnts, cnts, r3]
  have sl : szs [rl] = 1 := by rw [szs, szs, r4]
  rcases h with ⟨t, inner, rfl, ht, li, hi⟩ | ⟨c, inner, rfl, hc, li, hi⟩ | ⟨t, inner, rfl, ht, li, hi⟩
  · obtain ⟨i1, i2, i3, i4⟩ := all1_nice hi
    refine ⟨mk _ ⟨ht.1, i1.ok, r1.ok⟩ ⟨ht.2.1, i1.tm, r1.tm⟩ ⟨wids_of (by omega) i1.wd, wids_of (by simp) r1.wd⟩, ?_, ?_, ?_, by simp⟩
    · rw [dps, dps, Rw.dp, dl]; have := ht.2.2; omega
    · rw [cnts, cnts, Rw.cnt, cl]; omega
    · rw [szs, szs, Rw.sz, sl]; omega
  · obtain ⟨i1, i2, i3, i4⟩ := all1_nice hi
    refine ⟨mk _ ⟨r1.ok, i1.ok⟩ ⟨hc, r1.tm, i1.tm⟩ ⟨wids_of (by simp) r1.wd, wids_of (by omega) i1.wd⟩, ?_, ?_, ?_, by simp⟩
    · rw [dps, dps, Rw.dp, dl]; omega
    · rw [cnts, cnts, Rw.cnt, cl]; omega
    · rw [szs, szs, Rw.sz, sl]; omega
  · obtain ⟨i1, i2, i3, i4⟩ := all1_nice hi
    refine ⟨(mk (.given t) ht.1 ht.2.1 trivial).app i1, ?_, ?_, ?_, by simp; omega⟩
    · rw [dps, Rw.dp]; have := ht.2.2; omega
    · have e : (Rw.given t).cnt = 1 := rfl
      rw [cnts, e]; omega
    · rw [szs, Rw.sz]; omega
theorem block_nice {m : Nat} {r0 rl : Rw} {l : List Rw} (h0 : row0 m r0) (hrl : row0 m rl) (h : mid m rl l) : Nice m (r0 :: (l ++ [rl])) ∧ dps (r0 :: (l ++ [rl])) ≤ 24 ∧ cnts (r0 :: (l ++ [rl])) ≤ 12 ∧ szs (r0 :: (l ++ [rl])) ≤ 6 ∧ (r0 :: (l ++ [rl])).length ≤ 5 := by
  obtain ⟨r1, r2, r3, r4⟩ := row0_nice h0
  obtain ⟨q1, q2, q3, q4⟩ := row0_nice hrl
  obtain ⟨m1, m2, m3, m4, m5⟩ := mid_nice hrl h
  refine ⟨r1.app (m1.app q1), ?_, ?_, ?_, ?_⟩
  · rw [dps, dps_app, dps, dps]; omega
  · rw [cnts, cnts_app, cnts, cnts]; omega
  · rw [szs, szs_app, szs, szs]; omega
  · rw [List.length_cons, List.length_append]; simp; omega
/-! ### values that _law_same looks at -/
theorem sg_ints : ∀ s : List Int, sgs (itsL s) = true ∧ tszs (itsL s) = true ∧ sds (itsL s) = 1
  | [] => ⟨rfl, rfl, rfl⟩
  | x :: s => by
    obtain ⟨h1, h2, h3⟩ := sg_ints s
    exact ⟨by show (sg (.int x) && sgs (itsL s)) = true; rw [h1]; rfl, by show (tsz (.int x) && tszs (itsL s)) = true; rw [h2]; rfl, by show max (sd (.int x)) (sds (itsL s)) = 1; rw [h3]; rfl⟩
theorem sg_te : ∀ t : Te, sg t.t = true ∧ tsz t.t = true ∧ sd t.t ≤ t.dp + 1
  | .lt w k => ⟨rfl, rfl, by show (2 : Nat) ≤ _; simp only [Te.dp]; omega⟩
  | .eq w k => ⟨rfl, rfl, by show (2 : Nat) ≤ _; simp only [Te.dp]; omega⟩
  | .no t => by
    obtain ⟨h1, h2, h3⟩ := sg_te t
    refine ⟨?_, ?_, ?_⟩
    · show (sg (.sym 8) && (sg t.t && true)) = true; rw [h1]; rfl
    · show (decide (2 < 1000) && (tsz (.sym 8) && (tsz t.t && true))) = true; rw [h2]; rfl
    · show max (sd (.sym 8)) (max (sd t.t) 1) + 1 ≤ _
      have : sd (.sym 8) = 1 := rfl
      rw [this, Te.dp]; omega
theorem sg_ch {c : T} (h : isCh c) : sg c = true ∧ tsz c = true ∧ sd c ≤ 4 := by
  obtain ⟨a, b, rfl⟩ := h
  exact ⟨rfl, rfl, Nat.le_refl _⟩
theorem sg_ns : ∀ ns : List (Nat × T), (∀ p ∈ ns, isCh p.2) → sgs (ns.map fun p => T.tup [.int p.1, p.2]) = true ∧ tszs (ns.map fun p => T.tup [.int p.1, p.2]) = true ∧ sds (ns.map fun p => T.tup [.int p.1, p.2]) ≤ 5
  | [], _ => ⟨rfl, rfl, by decide⟩
  | p :: ns, h => by
    obtain ⟨h1, h2, h3⟩ := sg_ch (h p (by simp))
    obtain ⟨i1, i2, i3⟩ := sg_ns ns fun q hq => h q (List.mem_cons_of_mem _ hq)
    refine ⟨?_, ?_, ?_⟩
    · show ((sg (.int p.1) && (sg p.2 && true)) && sgs (ns.map fun p => T.tup [.int p.1, p.2])) = true; rw [h1, i1]; rfl
    · show ((decide (2 < 1000) && (tsz (.int p.1) && (tsz p.2 && true))) && tszs (ns.map fun p => T.tup [.int p.1, p.2])) = true; rw [h2, i2]; rfl
    · show max (max (sd (.int p.1)) (max (sd p.2) 1) + 1) (sds (ns.map fun p => T.tup [.int p.1, p.2])) ≤ 5
      have : sd (.int p.1) = 1 := rfl
      rw [this]; omega
mutual
theorem Rw.sg_t : ∀ r : Rw, r.tame → r.wid → sg r.t = true ∧ tsz r.t = true ∧ sd r.t ≤ 8 + r.dp
  | .set w n, _, _ => ⟨rfl, rfl, by show (2 : Nat) ≤ _; omega⟩
  | .add w n, _, _ => ⟨rfl, rfl, by show (2 : Nat) ≤ _; omega⟩
  | .less w n, _, _ => ⟨rfl, rfl, by show (2 : Nat) ≤ _; omega⟩
  | .copy w n, _, _ => ⟨rfl, rfl, by show (2 : Nat) ≤ _; omega⟩
  | .draw w ns, h, _ => by
    rw [Rw.tame] at h
    obtain ⟨i1, i2, i3⟩ := sg_ns ns h.2.2
    refine ⟨?_, ?_, ?_⟩
    · show (sg (.sym 13) && (sg (.int w) && ((sg (.sym 18) && (sgs (ns.map fun p => T.tup [.int p.1, p.2]) && true)) && true))) = true; rw [i1]; rfl
    · show (decide (3 < 1000) && (tsz (.sym 13) && (tsz (.int w) && ((decide (2 < 1000) && (tsz (.sym 18) && ((decide ((ns.map fun p => T.tup [.int p.1, p.2]).length < 1000) && tszs (ns.map fun p => T.tup [.int p.1, p.2])) && true))) && true)))) = true
      rw [i2, decide_eq_true (show (ns.map fun p => T.tup [.int p.1, p.2]).length < 1000 by rw [List.length_map]; omega)]; rfl
    · show max (sd (.sym 13)) (max (sd (.int w)) (max (max (sd (.sym 18)) (max (sds (ns.map fun p => T.tup [.int p.1, p.2]) + 1) 1) + 1) 1)) + 1 ≤ _
      have e1 : sd (.sym 13) = 1 := rfl
      have e2 : sd (.int (w : Int)) = 1 := rfl
      have e3 : sd (.sym 18) = 1 := rfl
      rw [e1, e2, e3, Rw.dp]
      omega
      all_goals intros; contradiction
  | .given t, _, _ => by
    obtain ⟨h1, h2, h3⟩ := sg_te t
    refine ⟨?_, ?_, ?_⟩
    · show (sg (.sym 7) && (sg t.t && true)) = true; rw [h1]; rfl
    · show (decide (2 < 1000) && (tsz (.sym 7) && (tsz t.t && true))) = true; rw [h2]; rfl
    · show max (sd (.sym 7)) (max (sd t.t) 1) + 1 ≤ _
      have : sd (.sym 7) = 1 := rfl
      rw [this, Rw.dp]; omega
  | .ite t a b, h, hw => by
    rw [Rw.tame] at h
    rw [Rw.wid] at hw
    obtain ⟨h1, h2, h3⟩ := sg_te t
    obtain ⟨a1, a2, a3⟩ := sg_bT a h.2.1 hw.1
    obtain ⟨b1, b2, b3⟩ := sg_bT b h.2.2 hw.2
    have la := wids_len hw.1
    have lb := wids_len hw.2
    refine ⟨?_, ?_, ?_⟩
    · show (sg (.sym 2) && (sg t.t && (sgs (bT a) && (sgs (bT b) && true)))) = true; rw [h1, a1, b1]; rfl
    · show (decide (4 < 1000) && (tsz (.sym 2) && (tsz t.t && ((decide ((bT a).length < 1000) && tszs (bT a)) && ((decide ((bT b).length < 1000) && tszs (bT b)) && true))))) = true
      rw [h2, a2, b2, decide_eq_true (show (bT a).length < 1000 by rw [bT_len]; exact la), decide_eq_true (show (bT b).length < 1000 by rw [bT_len]; exact lb)]; rfl
    · show max (sd (.sym 2)) (max (sd t.t) (max (sds (bT a) + 1) (max (sds (bT b) + 1) 1))) + 1 ≤ _
      have : sd (.sym 2) = 1 := rfl
      rw [this, Rw.dp]; omega
  | .alt c a b, h, hw => by
    rw [Rw.tame] at h
    rw [Rw.wid] at hw
    obtain ⟨h1, h2, h3⟩ := sg_ch h.1
    obtain ⟨a1, a2, a3⟩ := sg_bT a h.2.1 hw.1
    obtain ⟨b1, b2, b3⟩ := sg_bT b h.2.2 hw.2
    have la := wids_len hw.1
    have lb := wids_len hw.2
    refine ⟨?_, ?_, ?_⟩
    · show (sg (.sym 1) && (sg c && (sgs (bT a) && (sgs (bT b) && true)))) = true; rw [h1, a1, b1]; rfl
    · show (decide (4 < 1000) && (tsz (.sym 1) && (tsz c && ((decide ((bT a).length < 1000) && tszs (bT a)) && ((decide ((bT b).length < 1000) && tszs (bT b)) && true))))) = true
      rw [h2, a2, b2, decide_eq_true (show (bT a).length < 1000 by rw [bT_len]; exact la), decide_eq_true (show (bT b).length < 1000 by rw [bT_len]; exact lb)]; rfl
    · show max (sd (.sym 1)) (max (sd c) (max (sds (bT a) + 1) (max (sds (bT b) + 1) 1))) + 1 ≤ _
      have : sd (.sym 1) = 1 := rfl
      rw [this, Rw.dp]; omega
theorem sg_bT : ∀ b : List Rw, tames b → wids b → sgs (bT b) = true ∧ tszs (bT b) = true ∧ sds (bT b) ≤ 8 + dps b
  | [], _, _ => ⟨rfl, rfl, by show (1 : Nat) ≤ _; omega⟩
  | r :: b, h, hw => by
    rw [tames] at h
    rw [wids] at hw
    obtain ⟨h1, h2, h3⟩ := Rw.sg_t r h.1 hw.2.1
    obtain ⟨i1, i2, i3⟩ := sg_bT b h.2 hw.2.2
    refine ⟨?_, ?_, ?_⟩
    · show (sg r.t && sgs (bT b)) = true; rw [h1, i1]; rfl
    · show (tsz r.t && tszs (bT b)) = true; rw [h2, i2]; rfl
    · show max (sd r.t) (sds (bT b)) ≤ _; rw [dps]; omega
end
theorem same_pg {m : Nat} (hm : m = 1 ∨ m = 2) {l : List Rw} (ht : tames l) (hw : wids l) (d : Nat) (st : St) (hd : dps l + 12 ≤ d) : C d 30 [pgT m l, pgT m l] st = .ok (false, .bl true, st) := by
  obtain ⟨h1, h2, h3⟩ := sg_bT l ht hw
  have hl := wids_len hw
  have a1 : sg (wT m) = true ∧ tsz (wT m) = true ∧ sd (wT m) = 2 := by rcases hm with rfl | rfl <;> exact ⟨rfl, rfl, rfl⟩
  obtain ⟨a1, a2, a3⟩ := a1
  refine same_ok (pgT m l) ?_ ?_ d st ?_
  · show (sg (.sym 20) && (true && (sg (wT m) && (true && (true && (true && (sgs (bT l) && true))))))) = true; rw [a1, h1]; rfl
  · show (decide (7 < 1000) && (tsz (.sym 20) && (true && (tsz (wT m) && (true && (true && (true && ((decide ((bT l).length < 1000) && tszs (bT l)) && true)))))))) = true
    rw [a2, h2, decide_eq_true (show (bT l).length < 1000 by rw [bT_len]; exact hl)]; rfl
  · show max (sd (.sym 20)) (max 1 (max (sd (wT m)) (max 1 (max 1 (max 1 (max (sds (bT l) + 1) 1)))))) + 1 + 1 ≤ d
    have : sd (.sym 20) = 1 := rfl
    rw [this, a3]; omega
theorem same_s (s : List Int) (hl : s.length < 1000) (d : Nat) (st : St) (hd : 3 ≤ d) : C d 30 [sT s, sT s] st = .ok (false, .bl true, st) := by
  obtain ⟨h1, h2, h3⟩ := sg_ints s
  refine same_ok (sT s) h1 ?_ d st ?_
  · show (decide ((itsL s).length < 1000) && tszs (itsL s)) = true
    rw [h2, decide_eq_true (by rw [ints_len]; exact hl)]; rfl
  · show sds (itsL s) + 1 + 1 ≤ d
    omega
end K82
end

section
set_option autoImplicit false
set_option linter.all false
set_option maxRecDepth 100000
set_option maxHeartbeats 2000000
/-! M19: the law. -/
namespace K82
open Ev
theorem _root_.Ev.kEs_exc {C : Cal} {es : List E} {Γ : Env} {n : Nat} {ts : List T} {s : St} : kEs C es Γ (.exc n ts s) = .exc n ts s := rfl
theorem _root_.Ev.kEs2_exc {t : T} {n : Nat} {ts : List T} {s : St} : kEs2 t (.exc n ts s) = .exc n ts s := rfl
theorem _root_.Ev.kCall_exc {C : Cal} {f : Nat} {n : Nat} {ts : List T} {s : St} : kCall C f (.exc n ts s) = .exc n ts s := rfl
theorem _root_.Ev.kRe_exc {n : Nat} {ts : List T} {s : St} : kRe (.exc n ts s) = .exc n ts s := rfl
/-! ### paths that are none -/
def Bad (b : List Rw) (t : T) : Prop := ∀ d st, 3 ≤ d → C d 20 [.tup (bT b), t] st = .ok (false, .bl false, st)
theorem bad_nil (b : List Rw) : Bad b (.tup []) := by
  intro d st hd
  obtain ⟨d, rfl⟩ : ∃ k, d = k + 1 := ⟨d - 1, by omega⟩
  rw [call_ir (show P 20 = Df.ir _ from rfl)]
  have e : eqOf (.tup []) (.tup []) = some true := rfl
  simp -implicitDefEqProofs [d_has_path, e]
theorem bad_int (b : List Rw) (n : Int) : Bad b (.int n) := by
  intro d st hd
  obtain ⟨d, rfl⟩ : ∃ k, d = k + 1 := ⟨d - 1, by omega⟩
  rw [call_ir (show P 20 = Df.ir _ from rfl)]
  simp -implicitDefEqProofs [d_has_path]
theorem bad_sym (b : List Rw) (n : Nat) : Bad b (.sym n) := by
  intro d st hd
  obtain ⟨d, rfl⟩ : ∃ k, d = k + 1 := ⟨d - 1, by omega⟩
  rw [call_ir (show P 20 = Df.ir _ from rfl)]
  simp -implicitDefEqProofs [d_has_path]
theorem eqc_nil (t : T) (ts : List T) (h : T.plains (t :: ts) = true) : eqOf (.tup (t :: ts)) (.tup []) = some false := by
  have e1 : T.plain (.tup (t :: ts)) = true := h
  unfold eqOf
  rw [e1, if_pos ⟨rfl, rfl, by
    have : T.depth (.tup []) = 1 := rfl
    rw [this]; omega⟩]
  rfl
theorem bad_first (b : List Rw) (t : T) (ts : List T) (hp : T.plains (t :: ts) = true) (h : ∀ d st, 1 ≤ d → C d 19 [t] st = .ok (false, .bl false, st)) : Bad b (.tup (t :: ts)) := by
  intro d st hd
  obtain ⟨d, rfl⟩ : ∃ k, d = k + 1 := ⟨d - 1, by omega⟩
  have h1 := h d st (by omega)
  have e := eqc_nil t ts hp
  rw [call_ir (show P 20 = Df.ir _ from rfl)]
  generalize C d = cc at h1 ⊢
  simp -implicitDefEqProofs [d_has_path, e, h1]
theorem bad_neg (b : List Rw) : Bad b (.tup [.int (-1)]) := bad_first b _ _ rfl fun d st hd => by
  obtain ⟨d, rfl⟩ : ∃ k, d = k + 1 := ⟨d - 1, by omega⟩
  rw [call_ir (show P 19 = Df.ir _ from rfl)]
  simp -implicitDefEqProofs [d_is_path_number]
theorem bad_str (b : List Rw) (n : Nat) : Bad b (.tup [.sym n]) := bad_first b _ _ rfl fun d st hd => by
  obtain ⟨d, rfl⟩ : ∃ k, d = k + 1 := ⟨d - 1, by omega⟩
  rw [call_ir (show P 19 = Df.ir _ from rfl)]
  simp -implicitDefEqProofs [d_is_path_number]
theorem bad_far (b : List Rw) (k : Nat) (ts : List T) (hp : T.plains (.int (k : Int) :: ts) = true) (hk : b.length ≤ k) : Bad b (.tup (.int (k : Int) :: ts)) := by
  intro d st hd
  obtain ⟨d, rfl⟩ : ∃ k, d = k + 2 := ⟨d - 2, by omega⟩
  have h1 := m_isPath k d st
  have e := eqc_nil _ ts hp
  rw [call_ir (show P 20 = Df.ir _ from rfl)]
  generalize C (d + 1) = cc at h1 ⊢
  simp -implicitDefEqProofs [d_has_path, e, h1, hk]
theorem inner0 {m : Nat} {r : Rw} (h : row0 m r) (d : Nat) (st : St) : C (d + 1) 0 [r.t] st = .ok (false, .tup [], st) := by
  rw [call_ir (show P 0 = Df.ir _ from rfl)]
  cases r with
  | ite _ _ _ => exact h.elim
  | alt _ _ _ => exact h.elim
  | given _ => exact h.elim
  | _ => simp -implicitDefEqProofs [d_inner_blocks, Rw.t]
theorem bad_in {m : Nat} (b : List Rw) (k i : Nat) (ts : List T) (hp : T.plains (.int (k : Int) :: .int (i : Int) :: ts) = true) {r : Rw} (hk : b[k]? = some r) (hr : row0 m r) : Bad b (.tup (.int (k : Int) :: .int (i : Int) :: ts)) := by
  intro d st hd
  obtain ⟨d, rfl⟩ : ∃ k, d = k + 2 := ⟨d - 2, by omega⟩
  have h1 := m_isPath k d st
  have h2 := m_isPath i d st
  have h3 := inner0 hr d st
  have e := eqc_nil _ _ hp
  have hkl := (List.getElem?_eq_some_iff.mp hk).1
  have eb := bT_get hk
  have ex : itemOf st (.tup (bT b)) (.int (k : Int)) = some r.t := by rw [item_t, ixOf_n (by rw [bT_len]; exact hkl)]; exact eb
  have e0 : itemOf st (.tup (.int (k : Int) :: .int (i : Int) :: ts)) (.int 0) = some (.int k) := by simp -implicitDefEqProofs []
  have e1 : itemOf st (.tup (.int (k : Int) :: .int (i : Int) :: ts)) (.int 1) = some (.int i) := by simp -implicitDefEqProofs []
  have hk' : ¬ (b.length ≤ k) := by omega
  have hl : ¬ ((ts.length : Int) + 1 + 1 = 1) := by omega
  rw [call_ir (show P 20 = Df.ir _ from rfl)]
  generalize C (d + 1) = cc at h1 h2 h3 ⊢
  simp -implicitDefEqProofs [d_has_path, e, e0, e1, ex, h1, h2, h3, hk', hl, -item_t]
theorem bad_road {b : List Rw} {t : T} (h : Bad b t) (m : Nat) (d : Nat) (st : St) (hd : 4 ≤ d) : C d 22 [pgT m b, t] st = .exc 0 [.sym 16] st := by
  obtain ⟨d, rfl⟩ : ∃ k, d = k + 1 := ⟨d - 1, by omega⟩
  have h1 := h d st (by omega)
  rw [call_ir (show P 22 = Df.ir _ from rfl)]
  generalize C d = cc at h1 ⊢
  unfold pgT
  simp -implicitDefEqProofs [d_road, h1]
theorem bad_word {b : List Rw} {t : T} (h : Bad b t) (m : Nat) (d : Nat) (st : St) (hd : 5 ≤ d) : C d 56 [pgT m b, t] st = .ok (false, .sym 16, st) := by
  obtain ⟨d, rfl⟩ : ∃ k, d = k + 1 := ⟨d - 1, by omega⟩
  show wordOf (C d 22 [pgT m b, t] st) = _
  rw [bad_road h m d st (by omega)]; rfl
theorem bad_sure {b : List Rw} {t : T} (h : Bad b t) (m : Nat) (d : Nat) (st : St) (hd : 6 ≤ d) : C d 57 [pgT m b, t] st = .ok (false, .sym 16, st) := by
  obtain ⟨d, rfl⟩ : ∃ k, d = k + 2 := ⟨d - 2, by omega⟩
  show wordOf (C (d + 1) 25 [pgT m b, t, .int 0] st) = _
  have h1 := bad_road h m d st (by omega)
  rw [call_ir (show P 25 = Df.ir _ from rfl)]
  generalize C d = cc at h1 ⊢
  simp -implicitDefEqProofs [d_sure, h1, kEs_exc, kEs2_exc, kCall_exc, kRe_exc]
  rfl
theorem m_sure {m : Nat} (hm : m = 1 ∨ m = 2) {p : List Nat} {b l : List Rw} (h : rows b p = some l) (hw : wids b) (hp : p.length ≤ 1000) (hol : oks m l) (hwl : wids l) (h33 : need l 10 ≤ 33) {w : Nat} (hwm : w < m) (d : Nat) (st : St) (hd : p.length + dps l + 12 ≤ d) :
    C d 25 [pgT m b, pT p, .int (w : Int)] st = .ok (false, sT (sureIn (sb m l) w), st) := by
  obtain ⟨d, rfl⟩ : ∃ k, d = k + 2 := ⟨d - 2, by omega⟩
  have h1 := m_road (m := m) h hw hp (d + 1) st (by omega)
  have h2 := m_behind hm l hwl hol h33 (d + 1) st (by omega)
  have hbx : Bx m 10 (sb m l) := Bx.puts (fun s hs => absurd hs (by simp)) fun s hs => by
    obtain ⟨r, hr, hs⟩ := List.mem_flatMap.mp hs
    have := (mem_regs hm).mp hr
    exact blk_box hm l hol [r] 10 (fun u hu => by rw [List.mem_singleton.mp hu]; exact ⟨this.1, fun x hx => (mem_far.mp (this.2 x hx)).1⟩) (by decide) s hs
  have h3 := m_sureIn (sb m l) w (fun s hs => (hbx s hs).1) hwm (bx_small hm (by decide) hbx (puts_nd List.nodup_nil)) d st
  rw [call_ir (show P 25 = Df.ir _ from rfl)]
  generalize C (d + 1) = cc at h1 h2 h3 ⊢
  simp -implicitDefEqProofs [d_sure, h1, h2, h3]
/-! ### the law -/
/-- what is used of the drawn block -/
structure Dn (m : Nat) (b : List Rw) : Prop where
  nice : Nice m b
  dp : dps b ≤ 24
  ct : cnts b ≤ 12
  sz : szs b ≤ 6
  ln : b.length ≤ 5
theorem Dn.w {m : Nat} {b : List Rw} (h : Dn m b) : wids b := wids_of (by have := h.ln; omega) h.nice.wd
theorem road_nice {m : Nat} {b l : List Rw} {p : List Nat} (h : Dn m b) (hr : rows b p = some l) : oks m l ∧ tames l ∧ wids l ∧ dps l ≤ 25 ∧ need l 10 ≤ 22 ∧ (need l 10).toNat + incs l ≤ 63 := by
  obtain ⟨h1, h2, h3, h4, h5, h6⟩ := rows_all p b l hr h.nice.ok h.nice.tm h.w (by have := h.ct; omega)
  have a1 := need_le l 10 h2 (by decide)
  have a2 := incs_le l h2
  have a3 := h.sz
  have a4 := h.dp
  have a5 := h.ct
  have hz : szs l ≤ 6 := by omega
  exact ⟨h1, h2, wids_of (by omega) h3, by omega, by omega, by omega⟩
theorem t1_turn {m : Nat} (hm : m = 1 ∨ m = 2) {b l : List Rw} {p : List Nat} (h : Dn m b) (hr : rows b p = some l) (hp : p.length ≤ 24) (d : Nat) (hd : 60 ≤ d) (st : St) (a1 a2 a4 a5 a7 a8 a9 a10 a11 a0 : Option (Bool × T)) :
    evSs (C d) 200 (d_law.loop 10) [a0, a1, a2, some (false, .tup (bT b)), some (false, pgT m b), a5, some (false, pT p), a7, a8, a9, a10, a11] st = .nx [a0, a1, a2, some (false, .tup (bT b)), some (false, pgT m b), a5, some (false, pT p), a7, a8, a9, a10, a11] st := by
  obtain ⟨r1, r2, r3, r4, r5, r6⟩ := road_nice h hr
  have e1 := m_road (m := m) hr h.w (by omega) d st (by omega)
  have e2 := m_lawRoad p b l hr h.w (by omega) d st (by omega)
  have e3 := same_pg hm r2 r3 d st (by omega)
  generalize C d = cc at e1 e2 e3 ⊢
  have o1 : op2 st .add (.tup [.sym 20, .xt [], wT m, .xt [], .xt [], .xt []]) (.tup [.tup (bT l)]) = vl (pgT m l) := by simp -implicitDefEqProofs [pgT]
  have o2 : cutT none (some 6) (pgT m b) = vl (.tup [.sym 20, .xt [], wT m, .xt [], .xt [], .xt []]) := by unfold pgT; simp -implicitDefEqProofs []
  unfold Fd.loop d_law
  simp -implicitDefEqProofs [Ev.S.bd, e1, e2, e3, o1, o2, -op2_addT, -cut_t]
theorem t2_in {m : Nat} (hm : m = 1 ∨ m = 2) {b l : List Rw} {p : List Nat} (h : Dn m b) (hr : rows b p = some l) (hp : p.length ≤ 24) {w : Nat} (hw : w < m) (d : Nat) (hd : 80 ≤ d) (st : St) (a1 a2 a3 a5 a7 a10 a11 a0 : Option (Bool × T)) :
    evSs (C d) 200 [.fr [4, 6, 8], .ite (.u .not (.call 30 [.call 25 [.v 4, .v 6, .v 9], .call 53 [.v 8, .v 9]])) [.ret (.c (.bl false))] []] [a0, a1, a2, a3, some (false, pgT m b), a5, some (false, pT p), a7, some (false, dkT (lst m l)), some (false, .int (w : Int)), a10, a11] st
      = .nx [a0, a1, a2, a3, some (false, pgT m b), a5, some (false, pT p), a7, some (false, dkT (lst m l)), some (false, .int (w : Int)), a10, a11] st := by
  obtain ⟨r1, r2, r3, r4, r5, r6⟩ := road_nice h hr
  have e1 := m_sure hm hr h.w (by omega) r1 r3 (by omega) hw d st (by omega)
  obtain ⟨d, rfl⟩ : ∃ k, d = k + 1 := ⟨d - 1, by omega⟩
  have hv : Vx m ((need l 10).toNat + incs l) (lst m l) := sups_vx l r1 _ _ (Vx.nil.puts (stL_vx hm))
  have hnd : (lst m l).Nodup := sups_nd l _ (puts_nd List.nodup_nil)
  have e2 := m_lsure (lst m l) w (fun s hs => (hv s hs).1) hw (vx_small hm r6 hv hnd) d st
  rw [sure_same hm r1 hw] at e1
  have hlen : (lsure (lst m l) w).length < 1000 := by
    unfold lsure
    split
    · simp
    · split <;> simp
  have e3 := same_s (lsure (lst m l) w) hlen (d + 1) st (by omega)
  generalize C (d + 1) = cc at e1 e2 e3 ⊢
  simp -implicitDefEqProofs [e1, e2, e3]
theorem t2_turn {m : Nat} (hm : m = 1 ∨ m = 2) {b : List Rw} (h : Dn m b) (ps : List (List Nat)) (hps : ∀ p ∈ ps, p.length ≤ 24 ∧ ∃ l, rows b p = some l) (hne : 0 < ps.length) (hpl : ps.length < 1000) (d : Nat) (hd : 90 ≤ d) (st : St) (hdr : Dr st) (a6 a7 a8 a9 a10 a11 a0 : Option (Bool × T)) :
    ∃ k6 k8 k9 st', Dr st' ∧ evSs (C d) 200 (d_law.loop 11) [a0, some (false, .ref 0), some (false, .int (m : Int)), some (false, .tup (bT b)), some (false, pgT m b), some (false, .lst (psT ps)), a6, a7, a8, a9, a10, a11] st
      = .nx [a0, some (false, .ref 0), some (false, .int (m : Int)), some (false, .tup (bT b)), some (false, pgT m b), some (false, .lst (psT ps)), k6, a7, k8, k9, a10, a11] st' := by
  obtain ⟨d, rfl⟩ : ∃ k, d = k + 2 := ⟨d - 2, by omega⟩
  have el : (psT ps).length = ps.length := List.length_map ..
  obtain ⟨t, st1, ht, hd1, e1⟩ := m_oneOf (psT ps) (by omega) (by omega) false d st hdr
  obtain ⟨p, hpm, rfl⟩ := List.mem_map.mp ht
  obtain ⟨hpl2, l, hl⟩ := hps p hpm
  obtain ⟨r1, r2, r3, r4, r5, r6⟩ := road_nice h hl
  have e2 := m_lawStates hm hl h.w r3 r1 (by omega) (by omega) r6 (d + 2) st1 (by omega)
  have e1 : C (d + 2) 28 [.ref 0, .lst (psT ps)] st = _ := e1
  have hin := fun w (hw : w < m) a7 a10 a11 a0 => t2_in hm h hl hpl2 hw (d + 2) (by omega) st1 (some (false, .ref 0)) (some (false, .int (m : Int))) (some (false, .tup (bT b))) (some (false, .lst (psT ps))) a7 a10 a11 a0
  generalize C (d + 2) = cc at e1 e2 hin ⊢
  have hz : m < 4000000000 := by omega
  unfold Fd.loop d_law
  simp -implicitDefEqProofs [Ev.S.bd, e1, e2, hz]
  refine forL_rk (fun z => ∃ k6 k8 k9 st', Dr st' ∧ kSt cc 200 [] (F.lk (.rng1 (.v 2)) z) = F.nx [a0, some (false, .ref 0), some (false, .int (m : Int)), some (false, .tup (bT b)), some (false, pgT m b), some (false, .lst (psT ps)), k6, a7, k8, k9, a10, a11] st') (fun k Γ => ∃ k9, Γ = [a0, some (false, .ref 0), some (false, .int (m : Int)), some (false, .tup (bT b)), some (false, pgT m b), some (false, .lst (psT ps)), some (false, pT p), a7, some (false, dkT (lst m l)), k9, a10, a11]) m _ ⟨a9, rfl⟩ (fun k Γ hk i => ?_) fun Γ' i => ?_
  · obtain ⟨k9, rfl⟩ := i
    exact ⟨_, fB_eq.trans (hin k hk a7 a10 a11 a0), some (false, .int (k : Int)), rfl⟩
  · obtain ⟨k9, rfl⟩ := i
    exact ⟨_, _, _, st1, hd1, by simp -implicitDefEqProofs []; exact ⟨rfl, rfl, rfl⟩⟩
end K82
end

section
set_option autoImplicit false
set_option linter.all false
set_option maxRecDepth 100000
set_option maxHeartbeats 2000000
/-! M20: the law, whole. -/
namespace K82
open Ev
theorem m_start (sc : List Int) (hz : sc.length ≤ 1000000) (d : Nat) : C (d + 1) 26 [.lst (itsL sc)] [] = .ok (false, .ref 0, [[.lst (itsL sc), .int 0, .int 0, .int 0]]) := by
  rw [call_ir (show P 26 = Df.ir _ from rfl)]
  generalize C d = cc
  simp -implicitDefEqProofs [d__law_start]
theorem m_prog {m : Nat} (hm : m = 1 ∨ m = 2) (b : List Rw) (d : Nat) (st : St) : C (d + 1) 47 [.bl false, .int (m : Int), .tup (bT b)] st = .ok (false, pgT m b, st) := by
  rw [call_ir (show P 47 = Df.ir _ from rfl)]
  generalize C d = cc
  rcases hm with rfl | rfl <;> simp -implicitDefEqProofs [d__law_program, pgT, wT]
def bads (K L : Nat) : List T := [.tup [], .tup [.int (L : Int)], .tup [.int (-1)], .tup [.int 0, .int 0], .tup [.int (K : Int), .int 2, .int 0], .tup [.int (K : Int), .int 0], .tup [.sym 24], .int 0, .sym 16, .tup [.int 0, .int 2, .int 0], .tup [.int 60]]
theorem bads_bad {m : Nat} {r0 rl : Rw} {l : List Rw} (h0 : row0 m r0) (hl : row0 m rl) (hn : l.length ≤ 3) : ∀ t ∈ bads (l.length + 1) (l.length + 2), Bad (r0 :: (l ++ [rl])) t := by
  have hL : (r0 :: (l ++ [rl])).length = l.length + 2 := by simp
  have g0 : (r0 :: (l ++ [rl]))[0]? = some r0 := rfl
  have gl : (r0 :: (l ++ [rl]))[l.length + 1]? = some rl := by rw [List.getElem?_cons_succ, List.getElem?_append_right (Nat.le_refl _), Nat.sub_self]; rfl
  intro t ht
  simp only [bads, List.mem_cons, List.not_mem_nil, or_false] at ht
  rcases ht with rfl | rfl | rfl | rfl | rfl | rfl | rfl | rfl | rfl | rfl | rfl
  · exact bad_nil _
  · exact bad_far _ (l.length + 2) [] rfl (by omega)
  · exact bad_neg _
  · exact bad_in _ 0 0 [] rfl g0 h0
  · exact bad_in _ (l.length + 1) 2 [.int 0] rfl gl hl
  · exact bad_in _ (l.length + 1) 0 [] rfl gl hl
  · exact bad_str _ 24
  · exact bad_int _ 0
  · exact bad_sym _ 16
  · exact bad_in _ 0 2 [.int 0] rfl g0 h0
  · exact bad_far _ 60 [] rfl (by omega)
theorem law_ok (sc : List Int) (hz : sc.length ≤ 1000000) (d : Nat) (hd : 100 ≤ d) : ∃ st', C d 58 [.lst (itsL sc)] [] = .ok (false, .bl true, st') := by
  obtain ⟨d, rfl⟩ : ∃ k, d = k + 10 := ⟨d - 10, by omega⟩
  have e0 := m_start sc hz (d + 8)
  obtain ⟨k, st1, hk, hd1, e1⟩ := m_draw 6 (by decide) (by decide) (d + 8) _ ⟨sc, 0, 0, 0, rfl⟩
  obtain ⟨m, hm, em⟩ : ∃ m : Nat, (m = 1 ∨ m = 2) ∧ (1 : Int) + (if k = 0 then 1 else 0) = (m : Int) := by
    by_cases hk0 : k = 0
    · exact ⟨2, .inr rfl, by rw [if_pos hk0]; rfl⟩
    · exact ⟨1, .inl rfl, by rw [if_neg hk0]; rfl⟩
  obtain ⟨r0, rl, l, st2, h0, hl, hmid, hd2, e2⟩ := m_drawn_block (m := m) (by omega) (by omega) d st1 hd1
  obtain ⟨n1, n2, n3, n4, n5⟩ := block_nice h0 hl hmid
  have hlen3 := (mid_nice hl hmid).2.2.2.2
  have hDn : Dn m (r0 :: (l ++ [rl])) := ⟨n1, n2, n3, n4, n5⟩
  have e3 := m_prog hm (r0 :: (l ++ [rl])) (d + 8) st2
  have e4 := m_paths (r0 :: (l ++ [rl])) (d + 9) [] st2 (by omega) (by simp only [List.length_nil]; omega) (by omega)
  have hps : ∀ p ∈ pths (r0 :: (l ++ [rl])) 0 [], p.length ≤ 24 ∧ ∃ q, rows (r0 :: (l ++ [rl])) p = some q := fun p hp => by
    obtain ⟨p', e, hl', q⟩ := pths_ok (r0 :: (l ++ [rl])) (r0 :: (l ++ [rl])) 0 [] rfl p hp
    rw [List.nil_append] at e
    subst e
    exact ⟨by omega, q⟩
  have hcnt := pths_len (r0 :: (l ++ [rl])) 0 []
  have hpos : 1 ≤ cnts (r0 :: (l ++ [rl])) := by have := len_cnts (r0 :: (l ++ [rl])); rw [List.length_cons] at this; omega
  have elast : ∀ st, itemOf st (.lst (psT (pths (r0 :: (l ++ [rl])) 0 []))) (.int (-1)) = some (.tup [.int ((l.length + 1 : Nat) : Int)]) := fun st => by
    have hrl : ∀ q, rl.pth q = [q] := fun q => by
      cases rl with
      | ite _ _ _ => exact hl.elim
      | alt _ _ _ => exact hl.elim
      | _ => rfl
    have e : pths (r0 :: (l ++ [rl])) 0 [] = pths (r0 :: l) 0 [] ++ [[l.length + 1]] := by
      have := pths_app (r0 :: l) [rl] 0 []
      rw [List.cons_append] at this
      rw [this]
      show _ ++ (rl.pth ([] ++ [0 + (r0 :: l).length]) ++ []) = _
      rw [hrl, List.append_nil, List.length_cons, Nat.zero_add]; rfl
    rw [e]
    generalize pths (r0 :: l) 0 [] = X
    have el : (psT (X ++ [[l.length + 1]])).length = X.length + 1 := by unfold psT; simp
    have ei : ixOf (psT (X ++ [[l.length + 1]])).length (-1) = some X.length := by
      rw [el]
      unfold ixOf
      rw [if_neg (by decide), if_pos (by omega)]
      exact congrArg some (by omega)
    rw [item_l, ei]
    show (psT (X ++ [[l.length + 1]]))[X.length]? = _
    unfold psT
    rw [List.map_append, List.getElem?_append_right (by rw [List.length_map]; exact Nat.le_refl _), List.length_map, Nat.sub_self]; rfl
  have hb := bads_bad h0 hl hlen3
  have hbL : (r0 :: (l ++ [rl])).length = l.length + 2 := by simp
  have t1 := fun p (hp : p ∈ pths (r0 :: (l ++ [rl])) 0 []) => (fun q (hq : rows (r0 :: (l ++ [rl])) p = some q) => t1_turn hm hDn hq (hps p hp).1 (d + 9) (by omega))
  have t2 := t2_turn hm hDn (pths (r0 :: (l ++ [rl])) 0 []) hps (by omega) (by omega) (d + 9) (by omega)
  generalize hB : r0 :: (l ++ [rl]) = B at *
  generalize pths B 0 [] = ps at *
  have b1 := fun t (ht : t ∈ bads (l.length + 1) (l.length + 2)) st => bad_word (hb t ht) m (d + 9) st (by omega)
  have b2 := fun t (ht : t ∈ bads (l.length + 1) (l.length + 2)) st => bad_sure (hb t ht) m (d + 9) st (by omega)
  rw [call_ir (show P 58 = Df.ir _ from rfl)]
  have e4 : C (d + 9) 54 [.tup (bT B), .tup []] st2 = _ := e4
  have e1 : C (d + 9) 27 [.ref 0, .int 6] _ = _ := e1
  generalize C (d + 9) = cc at e0 e1 e2 e3 e4 t1 t2 b1 b2 ⊢
  simp -implicitDefEqProofs [d_law, e0, e1, em, e2, e3, e4]
  refine forL_pk (fun z => ∃ st', fin (kSt cc 200 _ (F.lk (.seq (.v 5)) z)) = .ok (false, .bl true, st')) pT ps (fun p Γ => ∃ j6, Γ = [some (false, .lst (itsL sc)), some (false, .ref 0), some (false, .int (m : Int)), some (false, .tup (bT B)), some (false, pgT m B), some (false, .lst (psT ps)), j6, none, none, none, none, none]) _ ⟨none, rfl⟩ (fun p q post Γ e i => ?_) fun Γ' i => ?_
  · obtain ⟨j6, rfl⟩ := i
    have hq : q ∈ ps := by rw [e]; simp
    obtain ⟨_, l', hl'⟩ := hps q hq
    exact ⟨_, fB_eq.trans (t1 q hq l' hl' st2 _ _ none _ _ _ _ _ _ _), some (false, pT q), rfl⟩
  · obtain ⟨j6, rfl⟩ := i
    have h3 : kR1 (.ok (false, .int 3, st2)) = .ok (rangeT 0 3, st2) := kR1_n (n := 3) (by decide)
    simp -implicitDefEqProofs [h3]
    refine forL_gk (fun z => ∃ st', fin (kSt cc 200 _ (F.lk (.rng1 (.c (.int 3))) z)) = .ok (false, .bl true, st')) (fun ts Γ st => Dr st ∧ ∃ j6 j7 j8 j9, Γ = [some (false, .lst (itsL sc)), some (false, .ref 0), some (false, .int (m : Int)), some (false, .tup (bT B)), some (false, pgT m B), some (false, .lst (psT ps)), j6, j7, j8, j9, none, none]) (rangeT 0 3) _ _ ⟨hd2, j6, none, none, none, rfl⟩ (fun t ts Γ st i => ?_) fun Γ' st' i => ?_
    · obtain ⟨hd, j6, j7, j8, j9, rfl⟩ := i
      obtain ⟨k6, k8, k9, st', hd', e⟩ := t2 st hd j6 (some (false, t)) j8 j9 none none (some (false, .lst (itsL sc)))
      exact ⟨_, st', fB_eq.trans e, hd', k6, some (false, t), k8, k9, rfl⟩
    · obtain ⟨hd, j6, j7, j8, j9, rfl⟩ := i
      refine ⟨st', ?_⟩
      have el := elast st'
      have hc := fun j6 => compL_map (f := cB cc [6] (.n 6) (.c (.bl true)) (.and (.b .eq (.call 56 [.v 4, .v 6]) (.c (.sym 16))) (.b .eq (.call 57 [.v 4, .v 6]) (.c (.sym 16)))) [some (false, .lst (itsL sc)), some (false, .ref 0), some (false, .int (m : Int)), some (false, .tup (bT B)), some (false, pgT m B), some (false, .lst (psT ps)), j6, j7, j8, j9, some (false, .tup [.int ((l.length + 1 : Nat) : Int)]), some (true, .lst (bads (l.length + 1) (l.length + 2)))]) (st := st') (fun _ => T.bl true) id (bads (l.length + 1) (l.length + 2)) fun t ht => by
        have h1 := b1 t ht st'
        have h2 := b2 t ht st'
        simp -implicitDefEqProofs [h1, h2]
      simp only [List.map_id] at hc
      have em1 : bdOf 1 (-1) = 0 := rfl
      unfold bads at hc
      have eL : ((B.length : Nat) : Int) = ((l.length + 2 : Nat) : Int) := by rw [hbL]
      rcases j6 with _ | ⟨o6, t6⟩
      · simp -implicitDefEqProofs [el, em1, -item_l, -Int.natCast_add, eL, hc, -compL_s]
      · simp -implicitDefEqProofs [el, em1, -item_l, -Int.natCast_add, eL, hc, -compL_s]
end K82
end

section
set_option autoImplicit false
set_option linter.all false
set_option maxRecDepth 100000
/-! EvB: how trees stand for values of the hand layer's heap; steps of the heap. -/
namespace Ev
open PySem L2

/-- a key of the layer -/
def kyKey (tab : List Str) : Ky → Key → Prop
  | .i n, k => k = .inl n
  | .s n, k => ∃ x, tab[n]? = some x ∧ k = .inr x
def kysR (tab : List Str) : List Ky → List Key → Prop
  | [], ks => ks = []
  | y :: ys, ks => ∃ k kr, ks = k :: kr ∧ kyKey tab y k ∧ kysR tab ys kr
def kyssR (tab : List Str) : List (List Ky) → List (List Key) → Prop
  | [], ks => ks = []
  | y :: ys, ks => ∃ k kr, ks = k :: kr ∧ kysR tab y k ∧ kyssR tab ys kr

/-- what is fixed: the written part, the table of symbols -/
structure Fx where
  K : PySem.W.Frag
  tab : List Str

section
variable (X : Fx) (F : Addr → Prop) (μ : List Addr) (H : Hp)
mutual
def Rep : T → V → Prop
  | .non, v => v = .non
  | .bl b, v => v = .bl b
  | .int i, v => v = .int i
  | .sym n, v => ∃ x, X.tab[n]? = some x ∧ v = .str x
  | .tup ts, v => ∃ a vs, v = .ref a ∧ H a = some (.tup vs) ∧ Reps ts vs
  | .lst ts, v => ∃ a vs, v = .ref a ∧ F a ∧ Rd H a (.lst vs) ∧ Reps ts vs
  | .dK ks ts, v => ∃ a ws, v = .ref a ∧ F a ∧ Rd H a (.dK ws) ∧ kysR X.tab ks (ws.map (·.1)) ∧ Reps ts (ws.map (·.2))
  | .dT ks ts, v => ∃ a ws, v = .ref a ∧ F a ∧ Rd H a (.dT ws) ∧ kyssR X.tab ks (ws.map (·.1)) ∧ Reps ts (ws.map (·.2))
  | .ref k, v => ∃ a, μ[k]? = some a ∧ v = .ref a
  | .xt ts, v => ∃ a o vs, v = .ref a ∧ H a = some (.frz o (.tup vs)) ∧ o.dict = none ∧ Reps ts vs
def Reps : List T → List V → Prop
  | [], vs => vs = []
  | t :: ts, vs => ∃ v vr, vs = v :: vr ∧ Rep t v ∧ Reps ts vr
end
/-- a list or dict that is not yet among the known ones -/
def ORep : T → V → Prop
  | .lst ts, v => ∃ a vs, v = .ref a ∧ ¬ F a ∧ a ∉ μ ∧ H a = some (.lst vs) ∧ Reps X F μ H ts vs
  | .dK ks ts, v => ∃ a ws, v = .ref a ∧ ¬ F a ∧ a ∉ μ ∧ H a = some (.dK ws) ∧ kysR X.tab ks (ws.map (·.1)) ∧ Reps X F μ H ts (ws.map (·.2))
  | .dT ks ts, v => ∃ a ws, v = .ref a ∧ ¬ F a ∧ a ∉ μ ∧ H a = some (.dT ws) ∧ kyssR X.tab ks (ws.map (·.1)) ∧ Reps X F μ H ts (ws.map (·.2))
  | _, _ => False
/-- a value that is looked at -/
def BRep : T → V → Prop
  | .lst ts, v => ∃ a vs, v = .ref a ∧ a ∉ μ ∧ Rd H a (.lst vs) ∧ Reps X F μ H ts vs
  | .dK ks ts, v => ∃ a ws, v = .ref a ∧ a ∉ μ ∧ Rd H a (.dK ws) ∧ kysR X.tab ks (ws.map (·.1)) ∧ Reps X F μ H ts (ws.map (·.2))
  | .dT ks ts, v => ∃ a ws, v = .ref a ∧ a ∉ μ ∧ Rd H a (.dT ws) ∧ kyssR X.tab ks (ws.map (·.1)) ∧ Reps X F μ H ts (ws.map (·.2))
  | t, v => Rep X F μ H t v
/-- the cells -/
structure Wd (st : St) : Prop where
  len : st.length = μ.length
  nd : μ.Nodup
  nf : ∀ a ∈ μ, ¬ F a
  ft : ∀ a, F a → H a ≠ none
  at_ : ∀ (k : Nat) a c, μ[k]? = some a → st[k]? = some c → ∃ vs, H a = some (.lst vs) ∧ Reps X F μ H c vs
end

/-- from one state of the heap to a later one: what is no cell stays; new known things were free -/
structure Step (F : Addr → Prop) (μ : List Addr) (H : Hp) (F' : Addr → Prop) (μ' : List Addr) (H' : Hp) : Prop where
  fr : ∀ b o, H b = some o → b ∉ μ → H' b = some o
  sub : ∀ a, F a → F' a
  new : ∀ a, F' a → F a ∨ H a = none
  cells : ∃ ν, μ' = μ ++ ν ∧ ∀ a ∈ ν, H a = none
  live : ∀ b, H' b = none → H b = none
/-- a list or a dict -/
def Dt (u : HO) : Prop := (∃ xs, u = .lst xs) ∨ (∃ w, u = .dK w) ∨ ∃ w, u = .dT w
theorem Dt.l {xs : List V} : Dt (.lst xs) := .inl ⟨xs, rfl⟩
theorem Dt.k {xs : List (Key × V)} : Dt (.dK xs) := .inr (.inl ⟨xs, rfl⟩)
theorem Dt.t {xs : List (List Key × V)} : Dt (.dT xs) := .inr (.inr ⟨xs, rfl⟩)
/-- what representations lean on -/
structure Kp (F : Addr → Prop) (μ : List Addr) (H : Hp) (F' : Addr → Prop) (μ' : List Addr) (H' : Hp) : Prop where
  sub : ∀ a, F a → F' a
  pre : ∃ ν, μ' = μ ++ ν
  tup : ∀ b xs, H b = some (.tup xs) → H' b = some (.tup xs)
  xt : ∀ b o xs, H b = some (.frz o (.tup xs)) → H' b = some (.frz o (.tup xs))
  lst : ∀ b u, Dt u → F b → Rd H b u → Rd H' b u

section
variable {X : Fx} {F F1 F2 F' : Addr → Prop} {μ μ1 μ2 μ' : List Addr} {H H1 H2 H' : Hp} {st : St}
theorem Step.refl (F : Addr → Prop) (μ : List Addr) (H : Hp) : Step F μ H F μ H := ⟨fun _ _ h _ => h, fun _ h => h, fun _ h => .inl h, ⟨[], (List.append_nil μ).symm, fun _ h => nomatch h⟩, fun _ h => h⟩
theorem Step.trans (a : Step F μ H F1 μ1 H1) (b : Step F1 μ1 H1 F2 μ2 H2) : Step F μ H F2 μ2 H2 where
  fr := fun c o h n => by
    obtain ⟨ν, e, hn⟩ := a.cells
    refine b.fr c o (a.fr c o h n) ?_
    rw [e]
    intro m
    rcases List.mem_append.mp m with m | m
    · exact n m
    · rw [hn c m] at h; cases h
  sub := fun c h => b.sub c (a.sub c h)
  new := fun c h => by
    rcases b.new c h with h | h
    · exact a.new c h
    · exact .inr (a.live c h)
  cells := by
    obtain ⟨ν, e, hn⟩ := a.cells
    obtain ⟨ν2, e2, hn2⟩ := b.cells
    refine ⟨ν ++ ν2, by rw [e2, e, List.append_assoc], fun c m => ?_⟩
    rcases List.mem_append.mp m with m | m
    · exact hn c m
    · exact a.live c (hn2 c m)
  live := fun c h => a.live c (b.live c h)
theorem Kp.refl (F : Addr → Prop) (μ : List Addr) (H : Hp) : Kp F μ H F μ H := ⟨fun _ h => h, ⟨[], (List.append_nil μ).symm⟩, fun _ _ h => h, fun _ _ _ h => h, fun _ _ _ _ h => h⟩
theorem Kp.trans (a : Kp F μ H F1 μ1 H1) (b : Kp F1 μ1 H1 F2 μ2 H2) : Kp F μ H F2 μ2 H2 where
  sub := fun c h => b.sub c (a.sub c h)
  pre := by
    obtain ⟨ν, e⟩ := a.pre
    obtain ⟨ν2, e2⟩ := b.pre
    exact ⟨ν ++ ν2, by rw [e2, e, List.append_assoc]⟩
  tup := fun c xs h => b.tup c xs (a.tup c xs h)
  xt := fun c o xs h => b.xt c o xs (a.xt c o xs h)
  lst := fun c u d f h => b.lst c u d (a.sub c f) (a.lst c u d f h)
theorem Wd.tup (w : Wd X F μ H st) {b : Addr} {xs : List V} (h : H b = some (.tup xs)) : b ∉ μ := fun m => by
  obtain ⟨k, hk⟩ := List.getElem?_of_mem m
  have hl : k < μ.length := (List.getElem?_eq_some_iff.mp hk).1
  obtain ⟨vs, e, _⟩ := w.at_ k b _ hk (List.getElem?_eq_getElem (show k < st.length by rw [w.len]; exact hl))
  rw [h] at e; cases e
theorem Wd.ntc (w : Wd X F μ H st) {b : Addr} {u : HO} (h : H b = some u) (hu : ∀ vs, u ≠ .lst vs) : b ∉ μ := fun m => by
  obtain ⟨k, hk⟩ := List.getElem?_of_mem m
  have hl : k < μ.length := (List.getElem?_eq_some_iff.mp hk).1
  obtain ⟨vs, e, _⟩ := w.at_ k b _ hk (List.getElem?_eq_getElem (show k < st.length by rw [w.len]; exact hl))
  rw [h] at e; cases e
  exact hu vs rfl
theorem Step.kp (s : Step F μ H F' μ' H') (w : Wd X F μ H st) : Kp F μ H F' μ' H' where
  sub := s.sub
  pre := let ⟨ν, e, _⟩ := s.cells; ⟨ν, e⟩
  tup := fun b xs h => s.fr b _ h (w.tup h)
  xt := fun b o xs h => s.fr b _ h (w.ntc h fun _ z => nomatch z)
  lst := fun b u _ f h => by
    have n : b ∉ μ := fun m => w.nf b m f
    rcases h with h | ⟨o, h⟩
    · exact .inl (s.fr b _ h n)
    · exact .inr ⟨o, s.fr b _ h n⟩
mutual
theorem Rep.kp (k : Kp F μ H F' μ' H') : ∀ (t : T) (v : V), Rep X F μ H t v → Rep X F' μ' H' t v
  | .non, _, h => h
  | .bl _, _, h => h
  | .int _, _, h => h
  | .sym _, _, h => h
  | .tup ts, v, h => by
    unfold Rep at h ⊢
    obtain ⟨a, vs, e, ha, r⟩ := h
    exact ⟨a, vs, e, k.tup a vs ha, Reps.kp k ts vs r⟩
  | .lst ts, v, h => by
    unfold Rep at h ⊢
    obtain ⟨a, vs, e, f, ha, r⟩ := h
    exact ⟨a, vs, e, k.sub a f, k.lst a _ .l f ha, Reps.kp k ts vs r⟩
  | .dK ks ts, v, h => by
    unfold Rep at h ⊢
    obtain ⟨a, ws, e, f, ha, r1, r⟩ := h
    exact ⟨a, ws, e, k.sub a f, k.lst a _ .k f ha, r1, Reps.kp k ts _ r⟩
  | .dT ks ts, v, h => by
    unfold Rep at h ⊢
    obtain ⟨a, ws, e, f, ha, r1, r⟩ := h
    exact ⟨a, ws, e, k.sub a f, k.lst a _ .t f ha, r1, Reps.kp k ts _ r⟩
  | .ref n, v, h => by
    unfold Rep at h ⊢
    obtain ⟨a, ha, e⟩ := h
    obtain ⟨ν, q⟩ := k.pre
    refine ⟨a, ?_, e⟩
    rw [q, List.getElem?_append_left (List.getElem?_eq_some_iff.mp ha).1]
    exact ha
  | .xt ts, v, h => by
    unfold Rep at h ⊢
    obtain ⟨a, o, vs, e, ha, hd, r⟩ := h
    exact ⟨a, o, vs, e, k.xt a o vs ha, hd, Reps.kp k ts vs r⟩
theorem Reps.kp (k : Kp F μ H F' μ' H') : ∀ (ts : List T) (vs : List V), Reps X F μ H ts vs → Reps X F' μ' H' ts vs
  | [], _, h => h
  | t :: ts, vs, h => by
    unfold Reps at h ⊢
    obtain ⟨v, vr, e, r1, r2⟩ := h
    exact ⟨v, vr, e, Rep.kp k t v r1, Reps.kp k ts vr r2⟩
end
theorem Reps.len : ∀ {ts : List T} {vs : List V}, Reps X F μ H ts vs → vs.length = ts.length
  | [], _, h => by unfold Reps at h; rw [h]; rfl
  | t :: ts, vs, h => by
    unfold Reps at h
    obtain ⟨v, vr, e, _, r2⟩ := h
    rw [e, List.length_cons, List.length_cons, r2.len]
theorem Reps.get : ∀ {ts : List T} {vs : List V} {i : Nat} {t : T}, Reps X F μ H ts vs → ts[i]? = some t → ∃ v, vs[i]? = some v ∧ Rep X F μ H t v
  | [], _, i, t, _, e => by simp at e
  | t0 :: ts, vs, 0, t, h, e => by
    unfold Reps at h
    obtain ⟨v, vr, e1, r1, _⟩ := h
    simp at e; subst e
    exact ⟨v, by rw [e1]; rfl, r1⟩
  | t0 :: ts, vs, i + 1, t, h, e => by
    unfold Reps at h
    obtain ⟨v, vr, e1, _, r2⟩ := h
    obtain ⟨w, h1, h2⟩ := r2.get (i := i) (t := t) (by simpa using e)
    exact ⟨w, by rw [e1]; simpa using h1, h2⟩
theorem Reps.nil : Reps X F μ H [] [] := by unfold Reps; rfl
theorem Reps.cons {t : T} {v : V} {ts : List T} {vs : List V} (r : Rep X F μ H t v) (rs : Reps X F μ H ts vs) : Reps X F μ H (t :: ts) (v :: vs) := by
  unfold Reps; exact ⟨v, vs, rfl, r, rs⟩
theorem Reps.app : ∀ {ts us : List T} {vs ws : List V}, Reps X F μ H ts vs → Reps X F μ H us ws → Reps X F μ H (ts ++ us) (vs ++ ws)
  | [], _, vs, _, h, r => by unfold Reps at h; rw [h]; exact r
  | t :: ts, us, vs, ws, h, r => by
    unfold Reps at h
    obtain ⟨v, vr, e, r1, r2⟩ := h
    rw [e]
    exact Reps.cons r1 (r2.app r)
theorem Reps.take : ∀ {ts : List T} {vs : List V} (n : Nat), Reps X F μ H ts vs → Reps X F μ H (ts.take n) (vs.take n)
  | [], vs, n, h => by unfold Reps at h; rw [h]; simp; exact Reps.nil
  | t :: ts, vs, 0, h => by simp; exact Reps.nil
  | t :: ts, vs, n + 1, h => by
    unfold Reps at h
    obtain ⟨v, vr, e, r1, r2⟩ := h
    rw [e]
    exact Reps.cons r1 (r2.take n)
theorem Reps.drop : ∀ {ts : List T} {vs : List V} (n : Nat), Reps X F μ H ts vs → Reps X F μ H (ts.drop n) (vs.drop n)
  | [], vs, n, h => by unfold Reps at h; rw [h]; simp; exact Reps.nil
  | t :: ts, vs, 0, h => h
  | t :: ts, vs, n + 1, h => by
    unfold Reps at h
    obtain ⟨v, vr, e, r1, r2⟩ := h
    rw [e]
    exact r2.drop n
theorem Reps.set : ∀ {ts : List T} {vs : List V} (n : Nat) {t : T} {v : V}, Reps X F μ H ts vs → Rep X F μ H t v → Reps X F μ H (ts.set n t) (vs.set n v)
  | [], vs, n, t, v, h, r => by unfold Reps at h; rw [h]; simp; exact Reps.nil
  | t0 :: ts, vs, 0, t, v, h, r => by
    unfold Reps at h
    obtain ⟨w, vr, e, r1, r2⟩ := h
    rw [e]
    exact Reps.cons r r2
  | t0 :: ts, vs, n + 1, t, v, h, r => by
    unfold Reps at h
    obtain ⟨w, vr, e, r1, r2⟩ := h
    rw [e]
    exact Reps.cons r1 (r2.set n r)
theorem Reps.rev : ∀ {ts : List T} {vs : List V}, Reps X F μ H ts vs → Reps X F μ H ts.reverse vs.reverse
  | [], vs, h => by unfold Reps at h; rw [h]; simp; exact Reps.nil
  | t :: ts, vs, h => by
    unfold Reps at h
    obtain ⟨w, vr, e, r1, r2⟩ := h
    rw [e, List.reverse_cons, List.reverse_cons]
    exact r2.rev.app (Reps.cons r1 Reps.nil)
/-- a known value may be looked at -/
theorem Rep.b (w : Wd X F μ H st) : ∀ {t : T} {v : V}, Rep X F μ H t v → BRep X F μ H t v
  | .non, _, h => h
  | .bl _, _, h => h
  | .int _, _, h => h
  | .sym _, _, h => h
  | .tup _, _, h => h
  | .ref _, _, h => h
  | .xt _, _, h => h
  | .lst ts, v, h => by
    unfold Rep at h
    obtain ⟨a, vs, e, f, ha, r⟩ := h
    exact ⟨a, vs, e, fun m => w.nf a m f, ha, r⟩
  | .dK ks ts, v, h => by
    unfold Rep at h
    obtain ⟨a, ws, e, f, ha, r1, r⟩ := h
    exact ⟨a, ws, e, fun m => w.nf a m f, ha, r1, r⟩
  | .dT ks ts, v, h => by
    unfold Rep at h
    obtain ⟨a, ws, e, f, ha, r1, r⟩ := h
    exact ⟨a, ws, e, fun m => w.nf a m f, ha, r1, r⟩
theorem ORep.b : ∀ {t : T} {v : V}, ORep X F μ H t v → BRep X F μ H t v
  | .lst ts, v, h => let ⟨a, vs, e, f, m, ha, r⟩ := h; ⟨a, vs, e, m, .inl ha, r⟩
  | .dK ks ts, v, h => let ⟨a, ws, e, f, m, ha, r1, r⟩ := h; ⟨a, ws, e, m, .inl ha, r1, r⟩
  | .dT ks ts, v, h => let ⟨a, ws, e, f, m, ha, r1, r⟩ := h; ⟨a, ws, e, m, .inl ha, r1, r⟩
theorem Step.rd (s : Step F μ H F' μ' H') {a : Addr} {u : HO} (m : a ∉ μ) (h : Rd H a u) : Rd H' a u ∧ a ∉ μ' := by
  obtain ⟨ν, q, hn⟩ := s.cells
  have nn : H a ≠ none := fun z => by
    rcases h with h | ⟨o, h⟩ <;> (rw [z] at h; cases h)
  refine ⟨?_, ?_⟩
  · rcases h with h | ⟨o, h⟩
    · exact .inl (s.fr a _ h m)
    · exact .inr ⟨o, s.fr a _ h m⟩
  · rw [q]
    intro z
    rcases List.mem_append.mp z with z | z
    · exact m z
    · exact nn (hn a z)
theorem BRep.step (s : Step F μ H F' μ' H') (w : Wd X F μ H st) : ∀ {t : T} {v : V}, BRep X F μ H t v → BRep X F' μ' H' t v
  | .non, _, h => h
  | .bl _, _, h => h
  | .int _, _, h => h
  | .sym _, _, h => h
  | .tup _, _, h => Rep.kp (s.kp w) _ _ h
  | .ref _, _, h => Rep.kp (s.kp w) _ _ h
  | .xt _, _, h => Rep.kp (s.kp w) _ _ h
  | .lst ts, v, h => by
    obtain ⟨a, vs, e, m, ha, r⟩ := h
    exact ⟨a, vs, e, (s.rd m ha).2, (s.rd m ha).1, Reps.kp (s.kp w) _ _ r⟩
  | .dK ks ts, v, h => by
    obtain ⟨a, ws, e, m, ha, r1, r⟩ := h
    exact ⟨a, ws, e, (s.rd m ha).2, (s.rd m ha).1, r1, Reps.kp (s.kp w) _ _ r⟩
  | .dT ks ts, v, h => by
    obtain ⟨a, ws, e, m, ha, r1, r⟩ := h
    exact ⟨a, ws, e, (s.rd m ha).2, (s.rd m ha).1, r1, Reps.kp (s.kp w) _ _ r⟩
/-- an own list stays own -/
theorem ORep.step (s : Step F μ H F' μ' H') (w : Wd X F μ H st) : ∀ {t : T} {v : V}, ORep X F μ H t v → ORep X F' μ' H' t v
  | .lst ts, v, h => by
    obtain ⟨a, vs, e, f, m, ha, r⟩ := h
    refine ⟨a, vs, e, fun z => ?_, (s.rd m (.inl ha)).2, s.fr a _ ha m, Reps.kp (s.kp w) _ _ r⟩
    rcases s.new a z with z | z
    · exact f z
    · rw [z] at ha; cases ha
  | .dK ks ts, v, h => by
    obtain ⟨a, ws, e, f, m, ha, r1, r⟩ := h
    refine ⟨a, ws, e, fun z => ?_, (s.rd m (.inl ha)).2, s.fr a _ ha m, r1, Reps.kp (s.kp w) _ _ r⟩
    rcases s.new a z with z | z
    · exact f z
    · rw [z] at ha; cases ha
  | .dT ks ts, v, h => by
    obtain ⟨a, ws, e, f, m, ha, r1, r⟩ := h
    refine ⟨a, ws, e, fun z => ?_, (s.rd m (.inl ha)).2, s.fr a _ ha m, r1, Reps.kp (s.kp w) _ _ r⟩
    rcases s.new a z with z | z
    · exact f z
    · rw [z] at ha; cases ha
/-- one more known address -/
def addF (F : Addr → Prop) (a : Addr) : Addr → Prop := fun b => F b ∨ b = a
theorem Kp.addF (a : Addr) : Kp F μ H (addF F a) μ H := ⟨fun _ h => .inl h, ⟨[], (List.append_nil μ).symm⟩, fun _ _ h => h, fun _ _ _ h => h, fun _ _ _ _ h => h⟩
theorem Wd.addF (w : Wd X F μ H st) {a : Addr} (m : a ∉ μ) (n : H a ≠ none) : Wd X (addF F a) μ H st :=
  ⟨w.len, w.nd, fun b hb z => z.elim (w.nf b hb) fun e => m (e ▸ hb), fun b z => z.elim (w.ft b) fun e => e ▸ n, fun k b c h1 h2 => let ⟨vs, e, r⟩ := w.at_ k b c h1 h2; ⟨vs, e, Reps.kp (Kp.addF a) _ _ r⟩⟩
/-- an own list becomes known -/
theorem ORep.known : ∀ {t : T} {v : V}, ORep X F μ H t v → ∃ a, v = .ref a ∧ ¬ F a ∧ a ∉ μ ∧ H a ≠ none ∧ Rep X (addF F a) μ H t v
  | .lst ts, v, h => by
    obtain ⟨a, vs, e, f, m, ha, r⟩ := h
    exact ⟨a, e, f, m, fun z => (by rw [z] at ha; cases ha), (by unfold Rep; exact ⟨a, vs, e, .inr rfl, .inl ha, Reps.kp (Kp.addF a) _ _ r⟩)⟩
  | .dK ks ts, v, h => by
    obtain ⟨a, ws, e, f, m, ha, r1, r⟩ := h
    exact ⟨a, e, f, m, fun z => (by rw [z] at ha; cases ha), (by unfold Rep; exact ⟨a, ws, e, .inr rfl, .inl ha, r1, Reps.kp (Kp.addF a) _ _ r⟩)⟩
  | .dT ks ts, v, h => by
    obtain ⟨a, ws, e, f, m, ha, r1, r⟩ := h
    exact ⟨a, e, f, m, fun z => (by rw [z] at ha; cases ha), (by unfold Rep; exact ⟨a, ws, e, .inr rfl, .inl ha, r1, Reps.kp (Kp.addF a) _ _ r⟩)⟩
/-- a result: own and new since H0, or known -/
def Res (X : Fx) (H0 : Hp) (F : Addr → Prop) (μ : List Addr) (H : Hp) (o : Bool) (t : T) (v : V) : Prop :=
  if o = true then ORep X F μ H t v ∧ ∃ a, v = .ref a ∧ H0 a = none else Rep X F μ H t v
theorem Res.own {H0 : Hp} {t : T} {v : V} (h : ORep X F μ H t v) (n : ∃ a, v = .ref a ∧ H0 a = none) : Res X H0 F μ H true t v := by
  unfold Res; rw [if_pos rfl]; exact ⟨h, n⟩
theorem Res.kn {H0 : Hp} {t : T} {v : V} (h : Rep X F μ H t v) : Res X H0 F μ H false t v := by
  unfold Res; rw [if_neg Bool.false_ne_true]; exact h
theorem Res.b {H0 : Hp} {o : Bool} {t : T} {v : V} (w : Wd X F μ H st) (h : Res X H0 F μ H o t v) : BRep X F μ H t v := by
  unfold Res at h
  cases o with
  | true => exact h.1.b
  | false => exact Rep.b w h
/-- a result, from here on known -/
theorem Res.known {H0 : Hp} {μ0 : List Addr} {F0 : Addr → Prop} {o : Bool} {t : T} {v : V} (s : Step F0 μ0 H0 F μ H) (w : Wd X F μ H st) (h : Res X H0 F μ H o t v) :
    ∃ G, Step F0 μ0 H0 G μ H ∧ Wd X G μ H st ∧ Kp F μ H G μ H ∧ Rep X G μ H t v := by
  unfold Res at h
  cases o with
  | false => exact ⟨F, s, w, Kp.refl F μ H, h⟩
  | true =>
    obtain ⟨h, a0, e0, n0⟩ := h
    obtain ⟨a, e, f, m, nn, r⟩ := h.known
    have ea : a0 = a := V.ref.inj (e0.symm.trans e)
    subst ea
    refine ⟨addF F a0, ⟨s.fr, fun b z => .inl (s.sub b z), fun b z => ?_, s.cells, s.live⟩, w.addF m nn, Kp.addF a0, r⟩
    rcases z with z | z
    · exact s.new b z
    · exact .inr (by rw [z]; exact n0)
end
end Ev
end

section
set_option autoImplicit false
set_option linter.all false
set_option maxRecDepth 100000
/-! EvC: the readings of the evaluator; expressions' operators over them. -/
namespace Ev
open PySem PySem.Spec PyProof.Rows L2

/-! ### a result and what is wanted of it -/
def R.post {α : Type} (r : R α) (k : α → Prop) (x : Nat → List T → St → Prop) : Prop :=
  match r with
  | .ok a => k a
  | .exc c fs st => x c fs st
  | .bad => False
theorem R.post_bind {α β : Type} (r : R α) (f : α → R β) (k : β → Prop) (x : Nat → List T → St → Prop) : (r.bind f).post k x = r.post (fun a => (f a).post k x) x := by cases r <;> rfl
theorem R.post_imp {α : Type} {r : R α} {k k' : α → Prop} {x x' : Nat → List T → St → Prop} (h : r.post k x) (hk : ∀ a, k a → k' a) (hx : ∀ c fs st, x c fs st → x' c fs st) : r.post k' x' := by
  cases r with
  | ok a => exact hk a h
  | exc c fs st => exact hx c fs st h
  | bad => exact h
theorem R.post_f {α : Type} (r : R α) (f : α → F) (P : F → Prop) (h : r.post (fun a => P (f a)) fun c fs st => P (.exc c fs st)) (hb : ¬ P .bad ∨ True) : r = .bad ∨ P (r.f f) := by
  cases r with
  | ok a => exact .inr h
  | exc c fs st => exact .inr h
  | bad => exact .inl rfl

/-! ### slots -/
structure Sl (fx : Fx) (H0 : Hp) (F : Addr → Prop) (μ : List Addr) (Γ : Env) (σ : L2.St) (H : Hp) : Prop where
  len : Γ.length = σ.length
  kn : ∀ (i : Nat) t, Γ[i]? = some (some (false, t)) → ∃ v, σ[i]? = some (some v) ∧ Rep fx F μ H t v
  ow : ∀ (i : Nat) t, Γ[i]? = some (some (true, t)) → ∃ v, σ[i]? = some (some v) ∧ ORep fx F μ H t v ∧ ∃ a, v = .ref a ∧ H0 a = none
  ap : ∀ (i j : Nat) t u v, i ≠ j → Γ[i]? = some (some (true, t)) → Γ[j]? = some (some (true, u)) → σ[i]? = some (some v) → σ[j]? = some (some v) → False
section
variable {fx : Fx} {H0 : Hp} {F F' : Addr → Prop} {μ μ' : List Addr} {Γ : Env} {σ : L2.St} {H H' : Hp} {st : St}
theorem Sl.step (s : Sl fx H0 F μ Γ σ H) (p : Step F μ H F' μ' H') (w : Wd fx F μ H st) : Sl fx H0 F' μ' Γ σ H' where
  len := s.len
  kn := fun i t h => let ⟨v, e, r⟩ := s.kn i t h; ⟨v, e, Rep.kp (p.kp w) t v r⟩
  ow := fun i t h => let ⟨v, e, r, n⟩ := s.ow i t h; ⟨v, e, r.step p w, n⟩
  ap := s.ap
theorem Sl.rdF (s : Sl fx H0 F μ Γ σ H) {i : Nat} {t : T} (h : rdF Γ i = some t) : ∃ v, σ[i]? = some (some v) ∧ Rep fx F μ H t v := by
  unfold Ev.rdF at h
  split at h
  · rename_i t' e
    cases h
    exact s.kn i t e
  · cases h
theorem Sl.rd (s : Sl fx H0 F μ Γ σ H) (w : Wd fx F μ H st) {i : Nat} {t : T} (h : rd Γ i = some t) : ∃ v, σ[i]? = some (some v) ∧ BRep fx F μ H t v := by
  unfold Ev.rd at h
  split at h
  · rename_i o t' e
    cases h
    cases o with
    | false => let ⟨v, e, r⟩ := s.kn i t e; exact ⟨v, e, Rep.b w r⟩
    | true => let ⟨v, e, r, _⟩ := s.ow i t e; exact ⟨v, e, r.b⟩
  · cases h
end

/-- an exception as the layer has it: its class, its own dict -/
def XRep (fx : Fx) (ex : Nat → Option (Addr × List Str)) (F : Addr → Prop) (μ : List Addr) (H : Hp) (c : Nat) (fs : List T) (cls : Value) (d : Option Addr) : Prop :=
  ∃ C ns, ex c = some (C, ns) ∧ cls = .ref C ∧ ((ns = [] ∧ fs = [] ∧ d = none) ∨ ∃ dd vs, d = some dd ∧ H dd = some (.xd (ns.zip vs)) ∧ vs.length = ns.length ∧ Reps fx F μ H fs vs)

/-- all that is fixed: the written part, symbols; exceptions' classes; what calls do -/
structure Ax where
  fx : Fx
  ex : Nat → Option (Addr × List Str)
  C : Cal

section
variable (ax : Ax) (Wx : WX)
def exk (F : Addr → Prop) (μ : List Addr) (H : Hp) (σ : L2.St) : Nat → List T → St → Prop := fun c fs st => ∀ cls d H' F' μ', Step F μ H F' μ' H' → Wd ax.fx F' μ' H' st → XRep ax.fx ax.ex F' μ' H' c fs cls d → Wx cls d σ H'
/-- the operand's value as the mode wants it: true: to be looked at -/
def ModeR (m : Bool) (fx : Fx) (H0 : Hp) (F : Addr → Prop) (μ : List Addr) (H : Hp) (o : Bool) (t : T) (v : V) : Prop := if m = true then BRep fx F μ H t v else Res fx H0 F μ H o t v
def PostR (m : Bool) (F : Addr → Prop) (μ : List Addr) (H : Hp) (σ : L2.St) (r : X3) (Q : VK) : Prop :=
  r.post (fun x => ∀ v H' F' μ', Step F μ H F' μ' H' → Wd ax.fx F' μ' H' x.2.2 → ModeR m ax.fx H F' μ' H' x.1 x.2.1 v → Q v H') (exk ax Wx F μ H σ)
def evM (m : Bool) (e : E) (Γ : Env) (st : St) : X3 := if m = true then bor Γ st (evE ax.C e Γ st) e else evE ax.C e Γ st
/-- the reading of an expression -/
def tM (m : Bool) (e : E) : TE := fun σ H Q => ∃ H0 F μ Γ st, Sl ax.fx H0 F μ Γ σ H ∧ Wd ax.fx F μ H st ∧ PostR ax Wx m F μ H σ (evM ax m e Γ st) Q
/-- of an argument list -/
def tAs (es : List E) : TA := fun σ H Q => ∃ H0 F μ Γ st, Sl ax.fx H0 F μ Γ σ H ∧ Wd ax.fx F μ H st ∧
  (evEs ax.C es Γ st).post (fun x => ∀ vs H' F' μ', Step F μ H F' μ' H' → Wd ax.fx F' μ' H' x.2 → Reps ax.fx F' μ' H' x.1 vs → Q vs H') (exk ax Wx F μ H σ)
/-- of a test -/
def tT (e : E) : TT := fun σ H Q => ∃ H0 F μ Γ st, Sl ax.fx H0 F μ Γ σ H ∧ Wd ax.fx F μ H st ∧
  (boolR (evE ax.C e Γ st)).post (fun x => ∀ H' F' μ', Step F μ H F' μ' H' → Wd ax.fx F' μ' H' x.2 → Q x.1 H') (exk ax Wx F μ H σ)
/-- of an operator on values -/
def rO1 (f : St → T → O) : V → Hp → VK → Prop := fun x H Q => ∃ F μ st t, Wd ax.fx F μ H st ∧ BRep ax.fx F μ H t x ∧
  (f st t).post (fun r => ∀ v H' F' μ', Step F μ H F' μ' H' → Wd ax.fx F' μ' H' st → Res ax.fx H F' μ' H' r.1 r.2 v → Q v H') fun _ _ _ => True
def rO2 (f : St → T → T → O) : R2 := fun x y H Q => ∃ F μ st t u, Wd ax.fx F μ H st ∧ BRep ax.fx F μ H t x ∧ BRep ax.fx F μ H u y ∧
  (f st t u).post (fun r => ∀ v H' F' μ', Step F μ H F' μ' H' → Wd ax.fx F' μ' H' st → Res ax.fx H F' μ' H' r.1 r.2 v → Q v H') fun _ _ _ => True
/-- what a def does, as a promise -/
def spC (f : Nat) (np : Nat) : Sp := fun vs H Q E => ∃ F μ st ts, Wd ax.fx F μ H st ∧ Reps ax.fx F μ H ts vs ∧ ts.length = np ∧
  (ax.C f ts st).post (fun x => ∀ v H' F' μ', Step F μ H F' μ' H' → Wd ax.fx F' μ' H' x.2.2 → Res ax.fx H F' μ' H' x.1 x.2.1 v → Q v H')
    fun c fs st' => ∀ cls d H' F' μ', Step F μ H F' μ' H' → Wd ax.fx F' μ' H' st' → XRep ax.fx ax.ex F' μ' H' c fs cls d → E cls d H'
end

section
variable {ax : Ax} {Wx : WX} {F F1 F' : Addr → Prop} {μ μ1 μ' : List Addr} {H H1 H' : Hp} {σ : L2.St}
theorem exk.step (s : Step F μ H F1 μ1 H1) {c : Nat} {fs : List T} {st : St} (h : exk ax Wx F μ H σ c fs st) : exk ax Wx F1 μ1 H1 σ c fs st :=
  fun cls d H' F' μ' s' w x => h cls d H' F' μ' (s.trans s') w x
end

/-! ### weaker readings -/
theorem _root_.L2.PE.weak {X : Cx} {e : Expr} {t t' : TE} (h : PE X e t) (w : ∀ σ H Q, t' σ H Q → t σ H Q) : PE X e t' := ⟨fun pins s σ H Q I q => h.run pins s σ H Q I (w σ H Q q)⟩
theorem _root_.L2.PT.weak {X : Cx} {e : Expr} {t t' : TT} (h : PT X e t) (w : ∀ σ H Q, t' σ H Q → t σ H Q) : PT X e t' := ⟨fun pins s σ H Q I q => h.run pins s σ H Q I (w σ H Q q)⟩
theorem _root_.L2.PA.weak {X : Cx} {e : List Expr} {t t' : TA} (h : PA X e t) (w : ∀ σ H Q, t' σ H Q → t σ H Q) : PA X e t' := ⟨fun pos pins s σ H Q I q => h.run pos pins s σ H Q I (w σ H Q q)⟩
theorem _root_.L2.PS.weak {X : Cx} {e : Stmt} {t t' : TS} (h : PS X e t) (w : ∀ D σ H, t' D σ H → t D σ H) : PS X e t' := ⟨fun pins s σ H D I q => h.run pins s σ H D I (w D σ H q)⟩
theorem _root_.L2.PSs.weak {X : Cx} {e : List Stmt} {t t' : TS} (h : PSs X e t) (w : ∀ D σ H, t' D σ H → t D σ H) : PSs X e t' := ⟨fun pins s σ H D I q => h.run pins s σ H D I (w D σ H q)⟩
theorem _root_.L2.PS.or {X : Cx} {e : Stmt} {t t' : TS} (h : PS X e t) (h' : PS X e t') : PS X e (fun D σ H => t D σ H ∨ t' D σ H) := ⟨fun pins s σ H D I q => q.elim (h.run pins s σ H D I) (h'.run pins s σ H D I)⟩
theorem _root_.L2.PE.or {X : Cx} {e : Expr} {t t' : TE} (h : PE X e t) (h' : PE X e t') : PE X e (fun D σ H => t D σ H ∨ t' D σ H) := ⟨fun pins s σ H D I q => q.elim (h.run pins s σ H D I) (h'.run pins s σ H D I)⟩

/-! ### operators -/
section
variable {ax : Ax} {X : Cx}
/-- the end of an operator whose value is no new object -/
theorem fin0 {F : Addr → Prop} {μ : List Addr} {H : Hp} {st : St} {Q : VK} {t : T} {v : V} (w : Wd ax.fx F μ H st) (h : ∀ v H' F' μ', Step F μ H F' μ' H' → Wd ax.fx F' μ' H' st → Res ax.fx H F' μ' H' false t v → Q v H') (r : Rep ax.fx F μ H t v) : Q v H :=
  h v H F μ (Step.refl F μ H) w (Res.kn r)
/-- a new object is laid -/
theorem Step.lay {F : Addr → Prop} {μ : List Addr} {H : Hp} {p : Addr} {o : HO} (n : H p = none) : Step F μ H F μ (upd H p o) where
  fr := fun b u h _ => by rw [upd_ne (ne_of_none h n)]; exact h
  sub := fun _ h => h
  new := fun _ h => .inl h
  cells := ⟨[], (List.append_nil μ).symm, fun _ h => nomatch h⟩
  live := fun b h => by
    by_cases e : b = p
    · rw [e, upd_same] at h; cases h
    · rw [upd_ne e] at h; exact h
theorem Wd.kp {fx : Fx} {F F' : Addr → Prop} {μ : List Addr} {H H' : Hp} {st : St} (w : Wd fx F μ H st) (k : Kp F μ H F' μ H') (nf : ∀ a ∈ μ, ¬ F' a) (ft : ∀ a, F' a → H' a ≠ none) (c : ∀ a ∈ μ, ∀ o, H a = some o → H' a = some o) : Wd fx F' μ H' st :=
  ⟨w.len, w.nd, nf, ft, fun i a d h1 h2 => let ⟨vs, e, r⟩ := w.at_ i a d h1 h2; ⟨vs, c a (List.mem_of_getElem? h1) _ e, Reps.kp k _ _ r⟩⟩
theorem upd_live {H : Hp} {p b : Addr} {o : HO} (h : H b ≠ none) : upd H p o b ≠ none := by
  by_cases e : b = p
  · rw [e, upd_same]; exact fun z => nomatch z
  · rw [upd_ne e]; exact h
theorem Wd.lay {fx : Fx} {F : Addr → Prop} {μ : List Addr} {H : Hp} {st : St} {p : Addr} {o : HO} (w : Wd fx F μ H st) (n : H p = none) : Wd fx F μ (upd H p o) st :=
  w.kp ((Step.lay n).kp w) w.nf (fun a f => upd_live (w.ft a f)) fun a _ u h => by rw [upd_ne (ne_of_none h n)]; exact h
theorem Wd.fresh {fx : Fx} {F : Addr → Prop} {μ : List Addr} {H : Hp} {st : St} {p : Addr} (w : Wd fx F μ H st) (n : H p = none) : p ∉ μ := fun m => by
  obtain ⟨k, hk⟩ := List.getElem?_of_mem m
  have hl : k < μ.length := (List.getElem?_eq_some_iff.mp hk).1
  obtain ⟨vs, e, _⟩ := w.at_ k p _ hk (List.getElem?_eq_getElem (show k < st.length by rw [w.len]; exact hl))
  rw [n] at e; cases e
section
variable {F : Addr → Prop} {μ : List Addr} {H : Hp} {st : St} {Q : VK} {p : Addr}
abbrev Want (ax : Ax) (F : Addr → Prop) (μ : List Addr) (H : Hp) (st : St) (o : Bool) (t : T) (Q : VK) : Prop :=
  ∀ v H' F' μ', Step F μ H F' μ' H' → Wd ax.fx F' μ' H' st → Res ax.fx H F' μ' H' o t v → Q v H'
/-- a new tuple -/
theorem finTup {ts : List T} {vs : List V} (w : Wd ax.fx F μ H st) (h : Want ax F μ H st false (.tup ts) Q) (r : Reps ax.fx F μ H ts vs) (n : H p = none) : Q (.ref p) (upd H p (.tup vs)) :=
  h _ _ F μ (Step.lay n) (w.lay n) (Res.kn (by unfold Rep; exact ⟨p, vs, rfl, upd_same, Reps.kp ((Step.lay n).kp w) _ _ r⟩))
/-- a new list -/
theorem finLst {ts : List T} {vs : List V} (w : Wd ax.fx F μ H st) (h : Want ax F μ H st true (.lst ts) Q) (r : Reps ax.fx F μ H ts vs) (n : H p = none) : Q (.ref p) (upd H p (.lst vs)) :=
  h _ _ F μ (Step.lay n) (w.lay n) (Res.own ⟨p, vs, rfl, fun f => w.ft p f n, w.fresh n, upd_same, Reps.kp ((Step.lay n).kp w) _ _ r⟩ ⟨p, rfl, n⟩)
end

section
variable {F : Addr → Prop} {μ : List Addr} {H : Hp} {st : St} {fx : Fx} {v : V}
theorem rep_non : Rep fx F μ H .non v = (v = .non) := by unfold Rep; rfl
theorem rep_bl {b : Bool} : Rep fx F μ H (.bl b) v = (v = .bl b) := by unfold Rep; rfl
theorem rep_int {i : Int} : Rep fx F μ H (.int i) v = (v = .int i) := by unfold Rep; rfl
theorem rep_sym {n : Nat} : Rep fx F μ H (.sym n) v = ∃ x, fx.tab[n]? = some x ∧ v = .str x := by unfold Rep; rfl
theorem rep_tup {ts : List T} : Rep fx F μ H (.tup ts) v = ∃ a vs, v = .ref a ∧ H a = some (.tup vs) ∧ Reps fx F μ H ts vs := by unfold Rep; rfl
theorem rep_ref {k : Nat} : Rep fx F μ H (.ref k) v = ∃ a, μ[k]? = some a ∧ v = .ref a := by unfold Rep; rfl
theorem rep_xt {ts : List T} : Rep fx F μ H (.xt ts) v = ∃ a o vs, v = .ref a ∧ H a = some (.frz o (.tup vs)) ∧ o.dict = none ∧ Reps fx F μ H ts vs := by unfold Rep; rfl
theorem brep_xt {ts : List T} : BRep fx F μ H (.xt ts) v = ∃ a o vs, v = .ref a ∧ H a = some (.frz o (.tup vs)) ∧ o.dict = none ∧ Reps fx F μ H ts vs := rep_xt
theorem brep_int {i : Int} : BRep fx F μ H (.int i) v = (v = .int i) := rep_int (fx := fx) (F := F) (μ := μ) (H := H)
theorem brep_bl {b : Bool} : BRep fx F μ H (.bl b) v = (v = .bl b) := rep_bl (fx := fx) (F := F) (μ := μ) (H := H)
theorem brep_tup {ts : List T} : BRep fx F μ H (.tup ts) v = ∃ a vs, v = .ref a ∧ H a = some (.tup vs) ∧ Reps fx F μ H ts vs := rep_tup
theorem brep_sym {n : Nat} : BRep fx F μ H (.sym n) v = ∃ x, fx.tab[n]? = some x ∧ v = .str x := rep_sym (fx := fx) (F := F) (μ := μ) (H := H)
theorem reps_nil {vs : List V} : Reps fx F μ H [] vs = (vs = []) := by unfold Reps; rfl
theorem reps_cons {t : T} {ts : List T} {vs : List V} : Reps fx F μ H (t :: ts) vs = ∃ v vr, vs = v :: vr ∧ Rep fx F μ H t v ∧ Reps fx F μ H ts vr := by rw [Reps]
theorem reps_ints : ∀ {ns : List Int} {ts : List T} {vs : List V}, intsOf ts = some ns → Reps fx F μ H ts vs → vs = ns.map V.int
  | ns, [], vs, h, r => by
    rw [reps_nil] at r
    cases h
    exact r
  | ns, t :: ts, vs, h, r => by
    rw [reps_cons] at r
    obtain ⟨v, vr, e, r1, r2⟩ := r
    unfold intsOf at h
    cases t <;> simp only [intOf, Option.bind_none, Option.bind_some] at h <;> try cases h
    rename_i i
    cases q : intsOf ts with
    | none => rw [q] at h; cases h
    | some ms =>
      rw [q] at h
      cases h
      rw [rep_int] at r1
      rw [e, r1, reps_ints q r2]
      rfl
theorem ints_reps : ∀ (ns : List Int), Reps fx F μ H (ns.map T.int) (ns.map V.int)
  | [] => by rw [List.map_nil, List.map_nil, reps_nil]
  | n :: ns => by rw [List.map_cons, List.map_cons, reps_cons]; exact ⟨_, _, rfl, by rw [rep_int], ints_reps ns⟩
end

/-- an int operation -/
theorem o2_int {f : Value → Value → Sem Value} {o : St → T → T → O} {C : Int → Int → Prop} {g : Int → Int → Int} (h0 : OpR X f (rI C fun i j => .int (g i j)))
    (ho : ∀ st t u k x, (o st t u).post k x → (∃ i j, t = .int i ∧ u = .int j ∧ C i j ∧ k (false, .int (g i j))) ∨ False) : OpR X f (rO2 ax o) := by
  intro pins s σ H x y v u Q I rx ry h
  obtain ⟨F, μ, st, t, u', w, hx, hy, hp⟩ := h
  rcases ho st t u' _ _ hp with ⟨i, j, rfl, rfl, c, q⟩ | z
  · rw [brep_int] at hx hy
    exact h0 pins s σ H x y v u Q I rx ry ⟨i, j, hx, hy, c, fin0 w q (by rw [rep_int])⟩
  · exact z.elim
theorem o2_bool {f : Value → Value → Sem Value} {o : St → T → T → O} {g : Int → Int → Bool} (h0 : OpR X f (rI0 fun i j => .bl (g i j)))
    (ho : ∀ st t u k x, (o st t u).post k x → ∃ i j, t = .int i ∧ u = .int j ∧ k (false, .bl (g i j))) : OpR X f (rO2 ax o) := by
  intro pins s σ H x y v u Q I rx ry h
  obtain ⟨F, μ, st, t, u', w, hx, hy, hp⟩ := h
  obtain ⟨i, j, rfl, rfl, q⟩ := ho st t u' _ _ hp
  rw [brep_int] at hx hy
  exact h0 pins s σ H x y v u Q I rx ry ⟨i, j, hx, hy, fin0 w q (by rw [rep_bl])⟩
end
end Ev
end

section
set_option autoImplicit false
set_option linter.all false
set_option maxRecDepth 100000
set_option maxHeartbeats 1000000
/-! EvD: each operator of the evaluator is what the model's operator does. -/
namespace Ev
open PySem PySem.Spec PyProof.Rows L2

/-- the symbols are told apart -/
structure TabOk (tab : List Str) : Prop where
  nd : tab.Nodup
  ok : ∀ x ∈ tab, PyData.canLay0 (.str x) = true
theorem TabOk.inj {tab : List Str} (h : TabOk tab) {i j : Nat} {x : Str} (a : tab[i]? = some x) (b : tab[j]? = some x) : i = j := nodup_ix h.nd a b

mutual
inductive DRep (tab : List Str) : T → PyData → Prop
  | non : DRep tab .non .none
  | bl (b : Bool) : DRep tab (.bl b) (.bool b)
  | int (i : Int) : DRep tab (.int i) (.int i)
  | sym {n : Nat} {x : Str} : tab[n]? = some x → DRep tab (.sym n) (.str x)
  | tup {ts : List T} {ds : List PyData} : DReps tab ts ds → DRep tab (.tup ts) (.tuple ds)
  | lst {ts : List T} {ds : List PyData} : DReps tab ts ds → DRep tab (.lst ts) (.list ds)
inductive DReps (tab : List Str) : List T → List PyData → Prop
  | nil : DReps tab [] []
  | cons {t : T} {d : PyData} {ts : List T} {ds : List PyData} : DRep tab t d → DReps tab ts ds → DReps tab (t :: ts) (d :: ds)
end
section
variable {fx : Fx} {F : Addr → Prop} {μ : List Addr} {H : Hp}
mutual
theorem rep_data : ∀ (t : T) (v : V), T.plain t = true → Rep fx F μ H t v → ∃ d, DRep fx.tab t d ∧ Dp fx.K H v d
  | .non, v, _, r => by
    rw [rep_non] at r; subst r
    exact ⟨.none, .non, .non⟩
  | .bl b, v, _, r => by
    rw [rep_bl] at r; subst r
    exact ⟨.bool b, .bl b, .bl b⟩
  | .int i, v, _, r => by
    rw [rep_int] at r; subst r
    exact ⟨.int i, .int i, .int i⟩
  | .sym n, v, _, r => by
    rw [rep_sym] at r
    obtain ⟨x, hx, e⟩ := r
    subst e
    exact ⟨.str x, .sym hx, .str x⟩
  | .tup ts, v, p, r => by
    rw [rep_tup] at r
    obtain ⟨a, vs, e, ha, rs⟩ := r
    subst e
    obtain ⟨ds, h1, h2⟩ := reps_data ts vs (by unfold T.plain at p; exact p) rs
    exact ⟨.tuple ds, .tup h1, .tup (SqT.of ha) h2⟩
  | .lst ts, v, p, r => by
    unfold Rep at r
    obtain ⟨a, vs, e, _, ha, rs⟩ := r
    subst e
    obtain ⟨ds, h1, h2⟩ := reps_data ts vs (by unfold T.plain at p; exact p) rs
    exact ⟨.list ds, .lst h1, .lst (.inl ha) h2⟩
  | .dK ks ts, v, p, r => by unfold T.plain at p; cases p
  | .dT ks ts, v, p, r => by unfold T.plain at p; cases p
  | .ref k, v, p, r => by unfold T.plain at p; cases p
  | .xt ts, v, p, r => by unfold T.plain at p; cases p
theorem reps_data : ∀ (ts : List T) (vs : List V), T.plains ts = true → Reps fx F μ H ts vs → ∃ ds, DReps fx.tab ts ds ∧ DpAll fx.K H vs ds
  | [], vs, _, r => by
    rw [reps_nil] at r; subst r
    exact ⟨[], .nil, .nil⟩
  | t :: ts, vs, p, r => by
    rw [reps_cons] at r
    obtain ⟨v, vr, e, r1, r2⟩ := r
    subst e
    unfold T.plains at p
    have p' := Bool.and_eq_true_iff.mp p
    obtain ⟨d, h1, h2⟩ := rep_data t v p'.1 r1
    obtain ⟨ds, h3, h4⟩ := reps_data ts vr p'.2 r2
    exact ⟨d :: ds, .cons h1 h3, .cons h2 h4⟩
end
theorem brep_data {t : T} {v : V} (p : T.plain t = true) (r : BRep fx F μ H t v) : ∃ d, DRep fx.tab t d ∧ Dp fx.K H v d := by
  cases t with
  | lst ts =>
    obtain ⟨a, vs, e, _, ha, rs⟩ := r
    subst e
    obtain ⟨ds, h1, h2⟩ := reps_data ts vs (by unfold T.plain at p; exact p) rs
    exact ⟨.list ds, .lst h1, .lst (.inl ha) h2⟩
  | dK ks ts => unfold T.plain at p; cases p
  | dT ks ts => unfold T.plain at p; cases p
  | _ => exact rep_data (F := F) (μ := μ) _ v p r
end
section
variable {tab : List Str}
mutual
theorem drep_lay (h : TabOk tab) : ∀ (t : T) (d : PyData), DRep tab t d → d.canLay0 = true ∧ d.depth = T.depth t
  | _, _, .non => ⟨rfl, rfl⟩
  | _, _, .bl b => ⟨rfl, rfl⟩
  | _, _, .int i => ⟨rfl, rfl⟩
  | _, _, .sym hx => ⟨h.ok _ (List.mem_of_getElem? hx), rfl⟩
  | _, _, .tup (ts := ts) (ds := ds) rs => by
    obtain ⟨h1, h2⟩ := dreps_lay h ts ds rs
    refine ⟨h1, ?_⟩
    show PyData.depthAll ds + 1 = T.depth (.tup ts)
    rw [h2, T.depth]
  | _, _, .lst (ts := ts) (ds := ds) rs => by
    obtain ⟨h1, h2⟩ := dreps_lay h ts ds rs
    refine ⟨h1, ?_⟩
    show PyData.depthAll ds + 1 = T.depth (.lst ts)
    rw [h2, T.depth]
theorem dreps_lay (h : TabOk tab) : ∀ (ts : List T) (ds : List PyData), DReps tab ts ds → PyData.canLayAll0 ds = true ∧ PyData.depthAll ds = T.depths ts
  | _, _, .nil => ⟨rfl, rfl⟩
  | _, _, .cons (t := t) (d := d) (ts := ts) (ds := dr) r1 r2 => by
    obtain ⟨h1, h2⟩ := drep_lay h t d r1
    obtain ⟨h3, h4⟩ := dreps_lay h ts dr r2
    refine ⟨?_, ?_⟩
    · show (d.canLay0 && PyData.canLayAll0 dr) = true
      rw [h1, h3]; rfl
    · show max d.depth (PyData.depthAll dr) = T.depths (t :: ts)
      rw [h2, h4, T.depths]
end
mutual
theorem drep_eqv (h : TabOk tab) : ∀ (t : T) (d : PyData) (u : T) (e : PyData), DRep tab t d → DRep tab u e → PyData.eqv d e = T.eqv t u
  | _, _, u, e, .non, q => by cases q <;> simp only [PyData.eqv, T.eqv]
  | _, _, u, e, .bl b, q => by cases q <;> simp only [PyData.eqv, T.eqv]
  | _, _, u, e, .int i, q => by cases q <;> simp only [PyData.eqv, T.eqv]
  | _, _, u, e, .sym (n := n) (x := x) hx, q => by
    cases q <;> simp only [PyData.eqv, T.eqv]
    rename_i m y hy
    by_cases e : n = m
    · subst e
      rw [hx] at hy; cases hy
      simp
    · have ne : x ≠ y := fun z => e (h.inj hx (z ▸ hy))
      rw [beq_eq_false_iff_ne.mpr ne, beq_eq_false_iff_ne.mpr e]
  | _, _, u, e, .tup (ts := ts) (ds := ds) rs, q => by
    cases q <;> simp only [PyData.eqv, T.eqv]
    exact dreps_eqv h _ _ _ _ rs (by assumption)
  | _, _, u, e, .lst (ts := ts) (ds := ds) rs, q => by
    cases q <;> simp only [PyData.eqv, T.eqv]
    exact dreps_eqv h _ _ _ _ rs (by assumption)
theorem dreps_eqv (h : TabOk tab) : ∀ (ts : List T) (ds : List PyData) (us : List T) (es : List PyData), DReps tab ts ds → DReps tab us es → PyData.eqvAll ds es = T.eqvs ts us
  | _, _, us, es, .nil, q => by cases q <;> simp only [PyData.eqvAll, T.eqvs]
  | _, _, us, es, .cons r1 r2, q => by
    cases q with
    | nil => simp only [PyData.eqvAll, T.eqvs]
    | cons q1 q2 =>
      simp only [PyData.eqvAll, T.eqvs]
      rw [drep_eqv h _ _ _ _ r1 q1, dreps_eqv h _ _ _ _ r2 q2]
end
end
end Ev
end

section
set_option autoImplicit false
set_option linter.all false
set_option maxRecDepth 100000
set_option maxHeartbeats 1000000
/-! EvE: the binary operators. -/
namespace Ev
open PySem PySem.Spec PyProof.Rows L2

/-- what operators lean on -/
structure Bx (ax : Ax) (X : Cx) : Prop where
  calm : X.calm = true
  hK : X.K = ax.fx.K
  tab : TabOk ax.fx.tab
  un : X.A.units + 64 < cLine
theorem Bx.u1 {ax : Ax} {X : Cx} (b : Bx ax X) : X.A.units + 1 < cLine := by have := b.un; omega

section
variable {ax : Ax} {X : Cx} (b : Bx ax X)
include b
omit b in
theorem szL {n : Nat} (h : n ≤ SZ) : n ≤ sizeLine := h
theorem o_add : OpR X (binaryOp .Add) (rO2 ax fun st => op2 st .add) := by
  intro pins s σ H x y v u Q I rx ry h
  obtain ⟨F, μ, st, t, u', w, hx, hy, hp⟩ := h
  cases t <;> cases u' <;> first
    | exact hp.elim
    | skip
  · rw [brep_int] at hx hy
    exact op_add pins s σ H x y v u Q I rx ry ⟨_, _, hx, hy, fin0 w hp (by rw [rep_int])⟩
  · rename_i ts us
    rw [brep_tup] at hx hy
    obtain ⟨a, vs, ex, ha, ra⟩ := hx
    obtain ⟨c, ws, ey, hc, rc⟩ := hy
    dsimp only [op2] at hp
    split at hp
    · rename_i hz
      refine op_catA pins s σ H x y v u Q I rx ry ⟨a, c, vs, ws, ex, ey, .inl (.inl ha), .inl (.inl hc), szL (by rw [ra.len, rc.len]; exact hz), fun e => ?_, fun _ e => ?_, fun _ _ p n => ?_⟩
      · refine fin0 w hp ?_
        have et : ts = [] := List.eq_nil_of_length_eq_zero (by rw [← ra.len, e]; rfl)
        rw [rep_tup, et]
        exact ⟨c, ws, rfl, hc, rc⟩
      · refine fin0 w hp ?_
        have et : us = [] := List.eq_nil_of_length_eq_zero (by rw [← rc.len, e]; rfl)
        rw [rep_tup, et, List.append_nil]
        exact ⟨a, vs, rfl, ha, ra⟩
      · exact finTup w hp (ra.app rc) n
    · exact hp.elim
  · rename_i ts us
    obtain ⟨a, vs, ex, ma, ha, ra⟩ := hx
    obtain ⟨c, ws, ey, mc, hc, rc⟩ := hy
    dsimp only [op2] at hp
    split at hp
    · rename_i hz
      rw [← ra.len, ← rc.len] at hz
      cases (show x = .ref a from ex)
      cases (show y = .ref c from ey)
      cases rx
      cases ry
      obtain ⟨z, its, n, r, e⟩ := ha.ok I.hok
      obtain ⟨z2, its2, n2, r2, e2⟩ := hc.ok I.hok
      have l1 := r.length
      have l2 := r2.length
      refine PySem.P.add_list e e2 ?_ (szL (by rw [List.size_toArray, List.size_toArray, ← l1, ← l2]; exact hz))
      have ea : its.toArray ++ its2.toArray = (its ++ its2).toArray := by simp
      rw [ea]
      exact ⟨.ref _, _, I.lnew (t' := s.toks) (r.append r2) (szL (by rw [List.length_append]; exact hz)), rfl, finLst w hp (ra.app rc) I.fresh⟩
    · exact hp.elim
theorem o_sub : OpR X (binaryOp .Sub) (rO2 ax fun st => op2 st .sub) := by
  intro pins s σ H x y v u Q I rx ry h
  obtain ⟨F, μ, st, t, u', w, hx, hy, hp⟩ := h
  cases t <;> cases u' <;> first
    | exact hp.elim
    | skip
  rw [brep_int] at hx hy
  exact op_sub pins s σ H x y v u Q I rx ry ⟨_, _, hx, hy, fin0 w hp (by rw [rep_int])⟩
omit b in
theorem w64 {a : Int} (h : a.natAbs < W64) : -(2 ^ 64) < a ∧ a < 2 ^ 64 := by
  unfold W64 at h
  omega
theorem o_mul : OpR X (binaryOp .Mult) (rO2 ax fun st => op2 st .mul) := by
  intro pins s σ H x y v u Q I rx ry h
  obtain ⟨F, μ, st, t, u', w, hx, hy, hp⟩ := h
  cases t <;> cases u' <;> first
    | exact hp.elim
    | skip
  rw [brep_int] at hx hy
  dsimp only [op2] at hp
  split at hp
  · rename_i hz
    exact op_mul pins s σ H x y v u Q I rx ry ⟨_, _, hx, hy, hz.imp w64 w64, fin0 w hp (by rw [rep_int])⟩
  · exact hp.elim
theorem o_fdiv : OpR X (binaryOp .FloorDiv) (rO2 ax fun st => op2 st .fdiv) := by
  intro pins s σ H x y v u Q I rx ry h
  obtain ⟨F, μ, st, t, u', w, hx, hy, hp⟩ := h
  cases t <;> cases u' <;> first
    | exact hp.elim
    | skip
  rw [brep_int] at hx hy
  dsimp only [op2] at hp
  split at hp
  · rename_i hz
    exact op_fdiv pins s σ H x y v u Q I rx ry ⟨_, _, hx, hy, hz, fin0 w hp (by rw [rep_int])⟩
  · exact hp.elim
theorem o_mod : OpR X (binaryOp .Mod) (rO2 ax fun st => op2 st .mod) := by
  intro pins s σ H x y v u Q I rx ry h
  obtain ⟨F, μ, st, t, u', w, hx, hy, hp⟩ := h
  cases t <;> cases u' <;> first
    | exact hp.elim
    | skip
  rw [brep_int] at hx hy
  dsimp only [op2] at hp
  split at hp
  · rename_i hz
    exact op_mod pins s σ H x y v u Q I rx ry ⟨_, _, hx, hy, hz, fin0 w hp (by rw [rep_int])⟩
  · exact hp.elim
theorem o_pow : OpR X (binaryOp .Pow) (rO2 ax fun st => op2 st .pow) := by
  intro pins s σ H x y v u Q I rx ry h
  obtain ⟨F, μ, st, t, u', w, hx, hy, hp⟩ := h
  cases t <;> cases u' <;> first
    | exact hp.elim
    | skip
  rw [brep_int] at hx hy
  dsimp only [op2] at hp
  split at hp
  · rename_i hz
    exact op_pow pins s σ H x y v u Q I rx ry ⟨_, _, hx, hy, ⟨hz.1, hz.2.1, hz.2.2⟩, fin0 w hp (by rw [rep_int])⟩
  · exact hp.elim
theorem o_lt : OpR X (compareOp .Lt) (rO2 ax fun st => op2 st .lt) := by
  intro pins s σ H x y v u Q I rx ry h
  obtain ⟨F, μ, st, t, u', w, hx, hy, hp⟩ := h
  cases t <;> cases u' <;> first
    | exact hp.elim
    | skip
  rw [brep_int] at hx hy
  exact op_lt pins s σ H x y v u Q I rx ry ⟨_, _, hx, hy, fin0 w hp (by rw [rep_bl])⟩
theorem o_le : OpR X (compareOp .LtE) (rO2 ax fun st => op2 st .le) := by
  intro pins s σ H x y v u Q I rx ry h
  obtain ⟨F, μ, st, t, u', w, hx, hy, hp⟩ := h
  cases t <;> cases u' <;> first
    | exact hp.elim
    | skip
  rw [brep_int] at hx hy
  exact op_le pins s σ H x y v u Q I rx ry ⟨_, _, hx, hy, fin0 w hp (by rw [rep_bl])⟩
theorem o_gt : OpR X (compareOp .Gt) (rO2 ax fun st => op2 st .gt) := by
  intro pins s σ H x y v u Q I rx ry h
  obtain ⟨F, μ, st, t, u', w, hx, hy, hp⟩ := h
  cases t <;> cases u' <;> first
    | exact hp.elim
    | skip
  rw [brep_int] at hx hy
  exact op_gt pins s σ H x y v u Q I rx ry ⟨_, _, hx, hy, fin0 w hp (by rw [rep_bl])⟩
theorem o_ge : OpR X (compareOp .GtE) (rO2 ax fun st => op2 st .ge) := by
  intro pins s σ H x y v u Q I rx ry h
  obtain ⟨F, μ, st, t, u', w, hx, hy, hp⟩ := h
  cases t <;> cases u' <;> first
    | exact hp.elim
    | skip
  rw [brep_int] at hx hy
  exact op_ge pins s σ H x y v u Q I rx ry ⟨_, _, hx, hy, fin0 w hp (by rw [rep_bl])⟩
/-- == of data: what both are, and what the answer is -/
theorem eq_dataR {F : Addr → Prop} {μ : List Addr} {H : Hp} {t u : T} {x y : V} {k : Bool} {pins : List (Addr × Obj)} {s : Shared} {σ : L2.St} {v v' : Value} (I : Inv X pins σ H s) (rx : RelV x v) (ry : RelV y v')
    (e : eqOf t u = some k) (hx : BRep ax.fx F μ H t x) (hy : BRep ax.fx F μ H u y) :
    ∃ d d' as bs, Reads s.heap v d as ∧ Reads s.heap v' d' bs ∧ d.canLay0 = true ∧ d'.canLay0 = true ∧ X.A.units + min d.depth d'.depth < cLine ∧ PyData.eqv d d' = k := by
  unfold eqOf at e
  split at e
  · rename_i hz
    cases e
    obtain ⟨p1, p2, p3⟩ := hz
    obtain ⟨d, r1, q1⟩ := brep_data p1 hx
    obtain ⟨d', r2, q2⟩ := brep_data p2 hy
    rw [← b.hK] at q1 q2
    obtain ⟨as, e1⟩ := Dp.reads I d x v q1 rx
    obtain ⟨bs, e2⟩ := Dp.reads I d' y v' q2 ry
    obtain ⟨l1, l2⟩ := drep_lay b.tab t d r1
    obtain ⟨l3, l4⟩ := drep_lay b.tab u d' r2
    refine ⟨d, d', as, bs, e1, e2, l1, l3, ?_, drep_eqv b.tab t d u d' r1 r2⟩
    rw [l2, l4]
    have := b.un
    omega
  · cases e
theorem o_eq : OpR X (compareOp .Eq) (rO2 ax fun st => op2 st .eq) := by
  intro pins s σ H x y v u Q I rx ry h
  obtain ⟨F, μ, st, t, u', w, hx, hy, hp⟩ := h
  cases e : eqOf t u' with
  | none => simp only [op2, e] at hp; exact hp.elim
  | some k =>
    simp only [op2, e] at hp
    obtain ⟨d, d', as, bs, r1, r2, l1, l2, l3, ek⟩ := eq_dataR b I rx ry e hx hy
    refine SeqAt.compareEq_reads r1 r2 l1 l2 l3 ⟨.bl _, H, I, rfl, ?_⟩
    rw [ek]
    exact fin0 w hp (by rw [rep_bl])
theorem o_ne : OpR X (compareOp .NotEq) (rO2 ax fun st => op2 st .ne) := by
  intro pins s σ H x y v u Q I rx ry h
  obtain ⟨F, μ, st, t, u', w, hx, hy, hp⟩ := h
  cases e : eqOf t u' with
  | none => simp only [op2, e] at hp; exact hp.elim
  | some k =>
    simp only [op2, e] at hp
    obtain ⟨d, d', as, bs, r1, r2, l1, l2, l3, ek⟩ := eq_dataR b I rx ry e hx hy
    refine SeqAt.compareNe_reads r1 r2 l1 l2 l3 ⟨.bl _, H, I, rfl, ?_⟩
    rw [ek]
    exact fin0 w hp (by rw [rep_bl])

/-! ### x in c -/
omit b in
theorem rep_flat {F : Addr → Prop} {μ : List Addr} {H : Hp} {t : T} {v : V} (f : t.flat = true) (r : Rep ax.fx F μ H t v) : flatV v = true := by
  cases t with
  | non => rw [rep_non] at r; subst r; rfl
  | bl _ => rw [rep_bl] at r; subst r; rfl
  | int _ => rw [rep_int] at r; subst r; rfl
  | sym _ => rw [rep_sym] at r; obtain ⟨x, _, r⟩ := r; subst r; rfl
  | _ => exact absurd (show false = true from f) Bool.false_ne_true
theorem rep_eqV {F : Addr → Prop} {μ : List Addr} {H : Hp} {t u : T} {x y : V} (f1 : t.flat = true) (f2 : u.flat = true) (r1 : Rep ax.fx F μ H t x) (r2 : Rep ax.fx F μ H u y) : eqV x y = T.eqv t u := by
  have tb := b.tab
  cases t <;> (first | exact absurd (show false = true from f1) Bool.false_ne_true | skip) <;> cases u <;> (first | exact absurd (show false = true from f2) Bool.false_ne_true | skip) <;>
    simp only [rep_non, rep_bl, rep_int, rep_sym] at r1 r2 <;> first
    | (subst r1; subst r2; simp only [eqV, T.eqv]; done)
    | (obtain ⟨z, _, r1⟩ := r1; subst r1; subst r2; simp only [eqV, T.eqv]; done)
    | (obtain ⟨z, _, r2⟩ := r2; subst r1; subst r2; simp only [eqV, T.eqv]; done)
    | skip
  obtain ⟨z, hz, r1⟩ := r1
  obtain ⟨z', hz', r2⟩ := r2
  subst r1; subst r2
  simp only [eqV, T.eqv]
  rename_i n m
  by_cases e : n = m
  · subst e
    rw [hz] at hz'; cases hz'
    simp
  · have ne : z ≠ z' := fun q => e (tb.inj hz (q ▸ hz'))
    rw [beq_eq_false_iff_ne.mpr ne, beq_eq_false_iff_ne.mpr e]
theorem rep_inV {F : Addr → Prop} {μ : List Addr} {H : Hp} {t : T} {x : V} (f1 : t.flat = true) (r1 : Rep ax.fx F μ H t x) : ∀ {ts : List T} {vs : List V}, ts.all T.flat = true → Reps ax.fx F μ H ts vs → vs.all flatV = true ∧ inV x vs = inL t ts
  | [], vs, _, r => by rw [reps_nil] at r; subst r; exact ⟨rfl, rfl⟩
  | u :: us, vs, f, r => by
    rw [reps_cons] at r
    obtain ⟨v, vr, e, r2, r3⟩ := r
    subst e
    rw [List.all_cons, Bool.and_eq_true] at f
    obtain ⟨h1, h2⟩ := rep_inV f1 r1 f.2 r3
    refine ⟨?_, ?_⟩
    · rw [List.all_cons, rep_flat f.1 r2, h1]; rfl
    · show (eqV v x || inV x vr) = (T.eqv u t || inL t us)
      rw [rep_eqV b f.1 f1 r2 r1, h2]
omit b in
theorem brep_flat {F : Addr → Prop} {μ : List Addr} {H : Hp} {t : T} {v : V} (f : t.flat = true) (r : BRep ax.fx F μ H t v) : Rep ax.fx F μ H t v := by
  cases t <;> first
    | exact r
    | exact absurd (show false = true from f) Bool.false_ne_true

/-! keys -/
omit b in
theorem kyKey_inj {tab : List Str} (h : TabOk tab) {y y' : Ky} {k k' : Key} (a : kyKey tab y k) (c : kyKey tab y' k') : (k = k') = (y = y') := by
  cases y with
  | i n =>
    cases y' with
    | i m => unfold kyKey at a c; subst a; subst c; simp
    | s m => unfold kyKey at a c; obtain ⟨x, _, c⟩ := c; subst a; subst c; simp
  | s n =>
    cases y' with
    | i m => unfold kyKey at a c; obtain ⟨x, _, a⟩ := a; subst a; subst c; simp
    | s m =>
      unfold kyKey at a c
      obtain ⟨x, hx, a⟩ := a
      obtain ⟨z, hz, c⟩ := c
      subst a; subst c
      simp only [Sum.inr.injEq, Ky.s.injEq]
      refine propext ⟨fun e => h.inj hx (e ▸ hz), fun e => ?_⟩
      subst e
      rw [hx] at hz
      exact Option.some.inj hz
omit b in
theorem kysR_inj {tab : List Str} (h : TabOk tab) : ∀ {ys ys' : List Ky} {ks ks' : List Key}, kysR tab ys ks → kysR tab ys' ks' → (ks = ks') = (ys = ys')
  | [], [], _, _, a, c => by unfold kysR at a c; subst a; subst c; simp
  | [], _ :: _, _, _, a, c => by unfold kysR at a c; obtain ⟨k, kr, c, _⟩ := c; subst a; subst c; simp
  | _ :: _, [], _, _, a, c => by unfold kysR at a c; obtain ⟨k, kr, a, _⟩ := a; subst a; subst c; simp
  | y :: ys, y' :: ys', _, _, a, c => by
    unfold kysR at a c
    obtain ⟨k, kr, a, a1, a2⟩ := a
    obtain ⟨k', kr', c, c1, c2⟩ := c
    subst a; subst c
    rw [List.cons.injEq, List.cons.injEq, kyKey_inj h a1 c1, kysR_inj h a2 c2]
/-- a list of keys, pairwise -/
def KsR {κ κ' : Type} (R : κ → κ' → Prop) : List κ → List κ' → Prop
  | [], ks => ks = []
  | y :: ys, ks => ∃ k kr, ks = k :: kr ∧ R y k ∧ KsR R ys kr
omit b in
theorem kysR_iff {tab : List Str} : ∀ {ys : List Ky} {ks : List Key}, kysR tab ys ks = KsR (kyKey tab) ys ks
  | [], _ => rfl
  | y :: ys, ks => by unfold kysR KsR; simp only [kysR_iff]
omit b in
theorem kyssR_iff {tab : List Str} : ∀ {ys : List (List Ky)} {ks : List (List Key)}, kyssR tab ys ks = KsR (kysR tab) ys ks
  | [], _ => rfl
  | y :: ys, ks => by unfold kyssR KsR; simp only [kyssR_iff]
omit b in
theorem ks_val {κ κ' : Type} [DecidableEq κ] [DecidableEq κ'] {R : κ → κ' → Prop} {F : Addr → Prop} {μ : List Addr} {H : Hp} (inj : ∀ y y' k k', R y k → R y' k' → (k = k') = (y = y')) {y : κ} {k : κ'} (r : R y k) :
    ∀ {ys : List κ} {ts : List T} {ws : List (κ' × V)}, KsR R ys (ws.map (·.1)) → Reps ax.fx F μ H ts (ws.map (·.2)) →
      match dGet ys ts y with
      | some t => ∃ v, valV ws k = some v ∧ Rep ax.fx F μ H t v
      | none => valV ws k = none
  | [], ts, ws, h1, h2 => by
    unfold KsR at h1
    have e : ws = [] := List.map_eq_nil_iff.mp h1
    subst e
    rfl
  | y' :: ys, [], ws, h1, h2 => by
    rw [reps_nil] at h2
    have e : ws = [] := List.map_eq_nil_iff.mp h2
    subst e
    rfl
  | y' :: ys, t :: ts, ws, h1, h2 => by
    unfold KsR at h1
    obtain ⟨k', kr, e1, r1, h1⟩ := h1
    rw [reps_cons] at h2
    obtain ⟨v, vr, e2, r2, h2⟩ := h2
    cases ws with
    | nil => cases e1
    | cons w wr =>
      rw [List.map_cons, List.cons.injEq] at e1 e2
      obtain ⟨e1, e1'⟩ := e1
      obtain ⟨e2, e2'⟩ := e2
      subst e1' e2'
      have q := inj y' y w.1 k (e1 ▸ r1) r
      unfold dGet
      by_cases c : y' = y
      · rw [if_pos c]
        exact ⟨w.2, valV_pos (q.mpr c), e2 ▸ r2⟩
      · rw [if_neg c, valV_neg (fun z => c (q.mp z))]
        exact ks_val inj r h1 h2
omit b in
theorem kyOf_rep {F : Addr → Prop} {μ : List Addr} {H : Hp} {t : T} {y : Ky} {v : V} (e : kyOf t = some y) (r : Rep ax.fx F μ H t v) : ∃ k, kyKey ax.fx.tab y k ∧ v = kV k := by
  cases t <;> first
    | cases e
    | skip
  · rw [rep_int] at r
    exact ⟨.inl _, rfl, r⟩
  · rw [rep_sym] at r
    obtain ⟨x, hx, r⟩ := r
    exact ⟨.inr x, ⟨x, hx, rfl⟩, r⟩
omit b in
theorem kysOf_reps {F : Addr → Prop} {μ : List Addr} {H : Hp} : ∀ {ts : List T} {ys : List Ky} {vs : List V}, kysOf ts = some ys → Reps ax.fx F μ H ts vs → ∃ ks : List Key, kysR ax.fx.tab ys ks ∧ vs = ks.map kV
  | [], ys, vs, e, r => by
    cases e
    rw [reps_nil] at r
    exact ⟨[], rfl, r⟩
  | t :: ts, ys, vs, e, r => by
    rw [reps_cons] at r
    obtain ⟨v, vr, rfl, r1, r2⟩ := r
    unfold kysOf at e
    cases q : kyOf t with
    | none => rw [q] at e; cases e
    | some y =>
      cases q2 : kysOf ts with
      | none => rw [q, q2] at e; cases e
      | some ys' =>
        rw [q, q2] at e
        cases e
        obtain ⟨k, h1, h2⟩ := kyOf_rep q r1
        obtain ⟨ks, h3, h4⟩ := kysOf_reps q2 r2
        exact ⟨k :: ks, ⟨k, ks, rfl, h1, h3⟩, by rw [h2, h4]; rfl⟩
omit b in
theorem brep_ky {F : Addr → Prop} {μ : List Addr} {H : Hp} {t : T} {y : Ky} {v : V} (e : kyOf t = some y) (r : BRep ax.fx F μ H t v) : Rep ax.fx F μ H t v := by
  cases t <;> first
    | exact r
    | cases e
/-- looking a key up in a dict of ints and texts -/
theorem dget_K {F : Addr → Prop} {μ : List Addr} {H : Hp} {ks : List Ky} {ts : List T} {x : T} {y : Ky} {d c : V} (e : kyOf x = some y) (hx : Rep ax.fx F μ H x c) (hd : BRep ax.fx F μ H (.dK ks ts) d) :
    ∃ a o, d = .ref a ∧ DGet H a c o ∧ match dGet ks ts y with
      | some t => ∃ v, o = some v ∧ Rep ax.fx F μ H t v
      | none => o = none := by
  obtain ⟨a, ws, ed, _, hr, h1, h2⟩ := hd
  obtain ⟨k, rk, ek⟩ := kyOf_rep e hx
  rw [kysR_iff] at h1
  have q := ks_val (ax := ax) (fun _ _ _ _ a c => kyKey_inj b.tab a c) rk h1 h2
  exact ⟨a, valV ws k, ed, .inl ⟨ws, k, hr, ek, rfl⟩, q⟩
theorem dget_T {F : Addr → Prop} {μ : List Addr} {H : Hp} {ks : List (List Ky)} {ts us : List T} {y : List Ky} {d c : V} (e : kysOf us = some y) (hx : Rep ax.fx F μ H (.tup us) c) (hd : BRep ax.fx F μ H (.dT ks ts) d) :
    ∃ a o, d = .ref a ∧ DGet H a c o ∧ match dGet ks ts y with
      | some t => ∃ v, o = some v ∧ Rep ax.fx F μ H t v
      | none => o = none := by
  obtain ⟨a, ws, ed, _, hr, h1, h2⟩ := hd
  rw [rep_tup] at hx
  obtain ⟨c0, vs, ec, hc, rs⟩ := hx
  obtain ⟨k, rk, ek⟩ := kysOf_reps e rs
  rw [kyssR_iff] at h1
  have q := ks_val (ax := ax) (fun _ _ _ _ a c => kysR_inj b.tab a c) rk h1 h2
  exact ⟨a, valV ws k, ed, .inr ⟨ws, k, c0, hr, ec, by rw [hc, ek], rfl⟩, q⟩
/-- memberships -/
theorem mem_R {neg : Bool} {F : Addr → Prop} {μ : List Addr} {H : Hp} {t u : T} {x y : V} {k : Bool} {pins : List (Addr × Obj)} {s : Shared} {σ : L2.St} {v v' : Value} {Q : VK} (I : Inv X pins σ H s) (rx : RelV x v) (ry : RelV y v')
    (e : memOf t u = some k) (w0 : ∃ st, Wd ax.fx F μ H st) (hx : BRep ax.fx F μ H t x) (hy : BRep ax.fx F μ H u y) (q : Q (.bl (if neg then !k else k)) H) :
    wpAny (model X.prog X.w) X.A (compareOp (if neg then .NotIn else .In) v v') (EP X pins σ Q) X.xe s := by
  obtain ⟨st, w⟩ := w0
  have seq : ∀ {p : Addr} {ts : List T} {vs : List V}, t.flat = true ∧ ts.all T.flat = true → inL t ts = k → y = .ref p → (SqL X.K H p vs ∨ SqT X.K H p vs) → Reps ax.fx F μ H ts vs →
      wpAny (model X.prog X.w) X.A (compareOp (if neg then .NotIn else .In) v v') (EP X pins σ Q) X.xe s := fun {p ts vs} f ek ey hq rs => by
    obtain ⟨h1, h2⟩ := rep_inV b f.1 (brep_flat f.1 hx) f.2 rs
    cases neg with
    | false => exact op_in_seq pins s σ H x y v v' Q I rx ry ⟨p, vs, ey, hq, rep_flat f.1 (brep_flat f.1 hx), h1, by rw [h2, ek]; exact q⟩
    | true => exact op_notIn_seq pins s σ H x y v v' Q I rx ry ⟨p, vs, ey, hq, rep_flat f.1 (brep_flat f.1 hx), h1, by rw [h2, ek]; exact q⟩
  have dict : ∀ {a : Addr} {o : Option V}, y = .ref a → DGet H a x o → o.isSome = k → wpAny (model X.prog X.w) X.A (compareOp (if neg then .NotIn else .In) v v') (EP X pins σ Q) X.xe s := fun {a o} ey g eo => by
    subst ey
    cases ry
    cases neg with
    | false => exact d_in b.u1 I g rx fun s3 I3 => ⟨.bl _, H, I3, rfl, by rw [eo]; exact q⟩
    | true => exact d_notIn b.u1 I g rx fun s3 I3 => ⟨.bl _, H, I3, rfl, by rw [eo]; exact q⟩
  cases u <;> first
    | cases e
    | skip
  · rename_i ts
    dsimp only [memOf] at e
    split at e
    · rename_i f
      cases e
      rw [brep_tup] at hy
      obtain ⟨p, vs, ey, hp, rs⟩ := hy
      exact seq f rfl ey (.inr (.inl (.inl hp))) rs
    · cases e
  · rename_i ts
    dsimp only [memOf] at e
    split at e
    · rename_i f
      cases e
      obtain ⟨p, vs, ey, _, hp, rs⟩ := hy
      exact seq f rfl ey (.inl (.inl hp)) rs
    · cases e
  · rename_i ks ts
    dsimp only [memOf] at e
    cases ek : kyOf t with
    | none => rw [ek] at e; cases e
    | some ky =>
      rw [ek] at e
      cases e
      obtain ⟨a, o, ey, g, m⟩ := dget_K b ek (brep_ky ek hx) hy
      refine dict ey g ?_
      cases hd : dGet ks ts ky with
      | none => rw [hd] at m; rw [show o = none from m]; show false = (dGet ks ts ky).isSome; rw [hd]; rfl
      | some t' => rw [hd] at m; obtain ⟨v', m, _⟩ := m; rw [m]; show true = (dGet ks ts ky).isSome; rw [hd]; rfl
  · rename_i ks ts
    cases t <;> first
      | cases e
      | skip
    rename_i us
    dsimp only [memOf] at e
    cases ek : kysOf us with
    | none => rw [ek] at e; cases e
    | some ky =>
      rw [ek] at e
      cases e
      obtain ⟨a, o, ey, g, m⟩ := dget_T b ek hx hy
      refine dict ey g ?_
      cases hd : dGet ks ts ky with
      | none => rw [hd] at m; rw [show o = none from m]; show false = (dGet ks ts ky).isSome; rw [hd]; rfl
      | some t' => rw [hd] at m; obtain ⟨v', m, _⟩ := m; rw [m]; show true = (dGet ks ts ky).isSome; rw [hd]; rfl
theorem o_in : OpR X (compareOp .In) (rO2 ax fun st => op2 st .isIn) := by
  intro pins s σ H x y v u Q I rx ry h
  obtain ⟨F, μ, st, t, u', w, hx, hy, hp⟩ := h
  cases e : memOf t u' with
  | none => simp only [op2, e] at hp; exact hp.elim
  | some k =>
    simp only [op2, e] at hp
    exact mem_R b (neg := false) I rx ry e ⟨st, w⟩ hx hy (fin0 w hp (by rw [rep_bl]; rfl))
theorem o_notIn : OpR X (compareOp .NotIn) (rO2 ax fun st => op2 st .notIn) := by
  intro pins s σ H x y v u Q I rx ry h
  obtain ⟨F, μ, st, t, u', w, hx, hy, hp⟩ := h
  cases e : memOf t u' with
  | none => simp only [op2, e] at hp; exact hp.elim
  | some k =>
    simp only [op2, e] at hp
    exact mem_R b (neg := true) I rx ry e ⟨st, w⟩ hx hy (fin0 w hp (by rw [rep_bl]; rfl))
/-! ### a[i] -/
omit b in
theorem ix_eq {n : Nat} {i : Int} : ixOf n i = ixN n i := rfl
theorem ix_dict : IxR X (fun x y H Q => ∃ a v, x = .ref a ∧ DGet H a y (some v) ∧ Q v H) := by
  intro value slice pins s σ H x y v u Q I rx ry h hs
  obtain ⟨a, z, ex, g, q⟩ := h
  subst ex
  cases rx
  unfold subscriptTail
  refine wpAny_bind ?_
  rw [getitemInPython_of_ne (dict_typeIs I g).not_modules]
  refine wpAny_bind (wpAny_specialOf (dict_typeIs I g) PySem.F.slot_dict_getitem.lookup ?_)
  have fin : wpAny (model X.prog X.w) X.A (subscripted slice false (.ref a) u) (fun r s₃ => wpAny (model X.prog X.w) X.A (letTemporaryGo value (.ref a) r >>= fun _ => pure r) (EP X pins σ Q) X.xe s₃) X.xe s := by
    rw [hs]
    exact wpAny_operating (d_getItem b.u1 I g ry fun w' s3 I3 rw' => wpAny_bind (wpAny_letTemporaryGo (wpAny_pure ⟨z, H, I3, rw', q⟩)))
  first
    | exact wpAny_pure (wpAny_bind fin)
    | exact wpAny_bind (wpAny_pure (wpAny_bind fin))
    | exact wpAny_bind fin
theorem o_item : IxR X (rO2 ax fun st => op2 st .item) := by
  intro value slice pins s σ H x y v u Q I rx ry h hs
  obtain ⟨F, μ, st, t, u', w, hx, hy, hp⟩ := h
  cases e : itemOf st t u' with
  | none => simp only [op2, e] at hp; exact hp.elim
  | some z =>
    simp only [op2, e] at hp
    have seq : ∀ {ts : List T} {vs : List V} {i : Int}, u' = .int i → ((ixOf ts.length i).bind fun j => ts[j]?) = some z → Reps ax.fx F μ H ts vs → ∃ zv, y = .int i ∧ atI vs i = some zv ∧ Q zv H := fun {ts vs i} eu ei rs => by
      subst eu
      rw [brep_int] at hy
      cases ej : ixOf ts.length i with
      | none => rw [ej] at ei; cases ei
      | some j =>
        rw [ej] at ei
        obtain ⟨zv, h1, h2⟩ := rs.get (show ts[j]? = some z from ei)
        refine ⟨zv, hy, ?_, fin0 w hp h2⟩
        unfold atI
        rw [rs.len, ← ix_eq, ej]
        exact h1
    cases t <;> first
      | cases e
      | skip
    · cases u' <;> first
        | cases e
        | skip
      rw [brep_tup] at hx
      obtain ⟨p, vs, ex, hp', rs⟩ := hx
      obtain ⟨zv, h1, h2, h3⟩ := seq rfl e rs
      exact ix_tup value slice pins s σ H x y v u Q I rx ry ⟨p, vs, _, zv, ex, h1, .inl (.inl hp'), h2, h3⟩ hs
    · cases u' <;> first
        | cases e
        | skip
      obtain ⟨p, vs, ex, _, hp', rs⟩ := hx
      obtain ⟨zv, h1, h2, h3⟩ := seq rfl e rs
      exact ix_list value slice pins s σ H x y v u Q I rx ry ⟨p, vs, _, zv, ex, h1, .inl hp', h2, h3⟩ hs
    · rename_i ks ts
      dsimp only [itemOf] at e
      cases ek : kyOf u' with
      | none => rw [ek] at e; cases e
      | some ky =>
        rw [ek] at e
        obtain ⟨a, o, ed, g, m⟩ := dget_K b ek (brep_ky ek hy) hx
        rw [show dGet ks ts ky = some z from e] at m
        obtain ⟨zv, m1, m2⟩ := m
        subst m1
        exact ix_dict b value slice pins s σ H x y v u Q I rx ry ⟨a, zv, ed, g, fin0 w hp m2⟩ hs
    · rename_i ks ts
      cases u' <;> first
        | cases e
        | skip
      rename_i us
      dsimp only [itemOf] at e
      cases ek : kysOf us with
      | none => rw [ek] at e; cases e
      | some ky =>
        rw [ek] at e
        obtain ⟨a, o, ed, g, m⟩ := dget_T b ek hy hx
        rw [show dGet ks ts ky = some z from e] at m
        obtain ⟨zv, m1, m2⟩ := m
        subst m1
        exact ix_dict b value slice pins s σ H x y v u Q I rx ry ⟨a, zv, ed, g, fin0 w hp m2⟩ hs
    · rename_i k
      cases u' <;> first
        | cases e
        | skip
      rename_i i
      dsimp only [itemOf] at e
      cases ek : st[k]? with
      | none => rw [ek] at e; cases e
      | some ts =>
        rw [ek] at e
        have hx' : ∃ a, μ[k]? = some a ∧ x = .ref a := by
          have := hx
          rw [show BRep ax.fx F μ H (.ref k) x = ∃ a, μ[k]? = some a ∧ x = .ref a from rep_ref (fx := ax.fx) (F := F) (H := H)] at this
          exact this
        obtain ⟨a, ha, ex⟩ := hx'
        obtain ⟨vs, hl, rs⟩ := w.at_ k a ts ha ek
        obtain ⟨zv, h1, h2, h3⟩ := seq rfl e rs
        exact ix_list value slice pins s σ H x y v u Q I rx ry ⟨a, vs, _, zv, ex, h1, .inl (.inl hl), h2, h3⟩ hs
end
end Ev
end

section
set_option autoImplicit false
set_option linter.all false
set_option maxRecDepth 100000
set_option maxHeartbeats 1000000
/-! EvF: the built-in functions of one argument. -/
namespace Ev
open PySem PySem.Spec PyProof.Rows L2

section
variable {ax : Ax} {X : Cx} (b : Bx ax X)
/-- a call of one argument -/
def rC1 (ax : Ax) (f : St → T → O) : List V → Hp → VK → Prop := fun vs H Q => ∃ x, vs = [x] ∧ rO1 ax f x H Q
def rC2 (ax : Ax) (f : St → T → T → O) : List V → Hp → VK → Prop := fun vs H Q => ∃ x y, vs = [x, y] ∧ rO2 ax f x y H Q
theorem insI_perm (x : Int) : ∀ ys : List Int, (insI x ys).Perm (x :: ys)
  | [] => .refl _
  | y :: ys => by
    unfold insI
    split
    · exact .refl _
    · exact ((insI_perm x ys).cons y).trans (.swap x y ys)
theorem sortI_perm : ∀ ns : List Int, (sortI ns).Perm ns
  | [] => .refl _
  | x :: xs => (insI_perm x _).trans ((sortI_perm xs).cons x)
theorem insI_mem {x y : Int} : ∀ {ys : List Int}, y ∈ insI x ys → y = x ∨ y ∈ ys := fun {ys} h => by
  have := (insI_perm x ys).mem_iff.mp h
  simpa using this
theorem insI_sorted (x : Int) : ∀ {ys : List Int}, ys.Pairwise (· ≤ ·) → (insI x ys).Pairwise (· ≤ ·)
  | [], _ => by simp [insI]
  | y :: ys, h => by
    obtain ⟨h1, h2⟩ := List.pairwise_cons.mp h
    unfold insI
    split
    · rename_i c
      refine List.pairwise_cons.mpr ⟨fun z hz => ?_, h⟩
      rcases List.mem_cons.mp hz with e | hz
      · rw [e]; exact c
      · exact Int.le_trans c (h1 z hz)
    · rename_i c
      refine List.pairwise_cons.mpr ⟨fun z hz => ?_, insI_sorted x h2⟩
      rcases insI_mem hz with e | hz
      · rw [e]; omega
      · exact h1 z hz
theorem sortI_sorted : ∀ ns : List Int, (sortI ns).Pairwise (· ≤ ·)
  | [] => .nil
  | x :: xs => insI_sorted x (sortI_sorted xs)
theorem sorted_one : ∀ {as bs : List Int}, as.Perm bs → as.Pairwise (· ≤ ·) → bs.Pairwise (· ≤ ·) → as = bs := fun {as bs} p h1 h2 =>
  p.eq_of_pairwise (fun a c _ _ x y => Int.le_antisymm x y) h1 h2
theorem maxI_ok : ∀ (ms : List Int) (m : Int), maxI m ms ∈ m :: ms ∧ ∀ y ∈ m :: ms, y ≤ maxI m ms
  | [], m => ⟨List.mem_cons_self, fun y h => by simp at h; rw [h]; exact Int.le_refl _⟩
  | x :: xs, m => by
    obtain ⟨h1, h2⟩ := maxI_ok xs (if m < x then x else m)
    show maxI (if m < x then x else m) xs ∈ m :: x :: xs ∧ ∀ y ∈ m :: x :: xs, y ≤ maxI (if m < x then x else m) xs
    refine ⟨?_, fun y hy => ?_⟩
    · rcases List.mem_cons.mp h1 with e | h
      · rw [e]
        split <;> simp
      · simp [h]
    · have hm := h2 _ List.mem_cons_self
      rcases List.mem_cons.mp hy with e | hy
      · rw [e]
        clear h1 h2
        generalize maxI (if m < x then x else m) xs = z at hm ⊢
        split at hm <;> omega
      · rcases List.mem_cons.mp hy with e | hy
        · rw [e]
          clear h1 h2
          generalize maxI (if m < x then x else m) xs = z at hm ⊢
          split at hm <;> omega
        · exact h2 y (List.mem_cons_of_mem _ hy)
theorem minI_ok : ∀ (ms : List Int) (m : Int), minI m ms ∈ m :: ms ∧ ∀ y ∈ m :: ms, minI m ms ≤ y
  | [], m => ⟨List.mem_cons_self, fun y h => by simp at h; rw [h]; exact Int.le_refl _⟩
  | x :: xs, m => by
    obtain ⟨h1, h2⟩ := minI_ok xs (if x < m then x else m)
    show minI (if x < m then x else m) xs ∈ m :: x :: xs ∧ ∀ y ∈ m :: x :: xs, minI (if x < m then x else m) xs ≤ y
    refine ⟨?_, fun y hy => ?_⟩
    · rcases List.mem_cons.mp h1 with e | h
      · rw [e]
        split <;> simp
      · simp [h]
    · have hm := h2 _ List.mem_cons_self
      rcases List.mem_cons.mp hy with e | hy
      · rw [e]
        clear h1 h2
        generalize minI (if x < m then x else m) xs = z at hm ⊢
        split at hm <;> omega
      · rcases List.mem_cons.mp hy with e | hy
        · rw [e]
          clear h1 h2
          generalize minI (if x < m then x else m) xs = z at hm ⊢
          split at hm <;> omega
        · exact h2 y (List.mem_cons_of_mem _ hy)
theorem sumI_eq : ∀ ns : List Int, sumI ns = ns.sum
  | [] => rfl
  | x :: xs => by rw [List.sum_cons, ← sumI_eq xs]; rfl
theorem reps_bls {fx : Fx} {F : Addr → Prop} {μ : List Addr} {H : Hp} : ∀ {bs : List Bool} {ts : List T} {vs : List V}, blsOf ts = some bs → Reps fx F μ H ts vs → vs = bs.map V.bl
  | bs, [], vs, h, r => by
    rw [reps_nil] at r
    cases h
    exact r
  | bs, t :: ts, vs, h, r => by
    rw [reps_cons] at r
    obtain ⟨v, vr, e, r1, r2⟩ := r
    cases t <;> try cases h
    rename_i c
    unfold blsOf at h
    cases q : blsOf ts with
    | none => rw [q] at h; cases h
    | some ms =>
      rw [q] at h
      cases h
      rw [rep_bl] at r1
      rw [e, r1, reps_bls q r2]
      rfl
include b
theorem c_toInt : CallR X (.type "int") (rC1 ax fun st => op1 st .toInt) := by
  intro pins s σ H xs us Q I r h
  obtain ⟨x, rfl, F, μ, st, t, w, hx, hp⟩ := h
  cases t <;> first
    | exact hp.elim
    | skip
  · rw [brep_bl] at hx
    exact call_int1 pins s σ H [x] us Q I r (.inr ⟨_, by rw [hx], fin0 w hp (by rw [rep_int])⟩)
  · rw [brep_int] at hx
    exact call_int1 pins s σ H [x] us Q I r (.inl ⟨_, by rw [hx], fin0 w hp (by rw [rep_int])⟩)
theorem c_abs : CallR X (.builtin "abs") (rC1 ax fun st => op1 st .abs) := by
  intro pins s σ H xs us Q I r h
  obtain ⟨x, rfl, F, μ, st, t, w, hx, hp⟩ := h
  cases t <;> first
    | exact hp.elim
    | skip
  rw [brep_int] at hx
  exact call_abs pins s σ H [x] us Q I r ⟨_, by rw [hx], fin0 w hp (by rw [rep_int])⟩
omit b in
theorem len_dT {pins : List (Addr × Obj)} {s : Shared} {σ : L2.St} {H : Hp} {p : Addr} {kvs : List (List Key × V)} {Q : VK} (I : Inv X pins σ H s) (hp : Rd H p (.dT kvs)) (q : Q (.int kvs.length) H) :
    wpAny (model X.prog X.w) X.A (call (.builtin "len") [.ref p]) (EP X pins σ Q) X.xe s := by
  obtain ⟨z, hd, ys, rel, dd⟩ := dt_rd I.hok hp
  have hl : kvs.length = ys.length := Paired.length rel
  refine call_len_dictH hd dd (by rw [← hl]; rw [sizeLine_eq] at z; omega) ?_
  rw [← hl]
  exact ⟨.int ((kvs.length : Nat) : Int), H, I.tok _, ⟨_, rfl⟩, q⟩
omit b in
theorem kys_len {tab : List Str} : ∀ {ks : List Ky} {ws : List Key}, kysR tab ks ws → ws.length = ks.length
  | [], _, h => by unfold kysR at h; rw [h]; rfl
  | _ :: _, _, h => by unfold kysR at h; obtain ⟨k, kr, e, _, h⟩ := h; rw [e, List.length_cons, List.length_cons, kys_len h]
omit b in
theorem kyss_len {tab : List Str} : ∀ {ks : List (List Ky)} {ws : List (List Key)}, kyssR tab ks ws → ws.length = ks.length
  | [], _, h => by unfold kyssR at h; rw [h]; rfl
  | _ :: _, _, h => by unfold kyssR at h; obtain ⟨k, kr, e, _, h⟩ := h; rw [e, List.length_cons, List.length_cons, kyss_len h]
theorem c_len : CallR X (.builtin "len") (rC1 ax fun st => op1 st .len) := by
  intro pins s σ H xs us Q I r h
  obtain ⟨x, rfl, F, μ, st, t, w, hx, hp⟩ := h
  cases t <;> first
    | exact hp.elim
    | skip
  · rw [brep_tup] at hx
    obtain ⟨a, vs, ex, ha, rs⟩ := hx
    refine call_len_seq pins s σ H [x] us Q I r ⟨a, vs, by rw [ex], .inr (.inl (.inl ha)), ?_⟩
    rw [rs.len]
    exact fin0 w hp (by rw [rep_int])
  · obtain ⟨a, vs, ex, _, ha, rs⟩ := hx
    refine call_len_seq pins s σ H [x] us Q I r ⟨a, vs, by rw [ex], .inl (.inl ha), ?_⟩
    rw [rs.len]
    exact fin0 w hp (by rw [rep_int])
  · obtain ⟨a, ws, ex, _, ha, rk, rs⟩ := hx
    subst ex
    rw [Vals.ref1 r]
    refine d_len I ha fun t' s' I' => ⟨.int _, H, I', ⟨_, rfl⟩, ?_⟩
    have e := kys_len rk
    rw [List.length_map] at e
    rw [e]
    exact fin0 w hp (by rw [rep_int])
  · obtain ⟨a, ws, ex, _, ha, rk, rs⟩ := hx
    subst ex
    rw [Vals.ref1 r]
    refine len_dT I ha ?_
    have e := kyss_len rk
    rw [List.length_map] at e
    rw [e]
    exact fin0 w hp (by rw [rep_int])
  · rename_i k
    dsimp only [op1, lenOf] at hp
    cases ek : st[k]? with
    | none => rw [ek] at hp; exact hp.elim
    | some ts =>
      rw [ek] at hp
      have hx' : ∃ a, μ[k]? = some a ∧ x = .ref a := by
        rw [show BRep ax.fx F μ H (.ref k) x = ∃ a, μ[k]? = some a ∧ x = .ref a from rep_ref (fx := ax.fx) (F := F) (H := H)] at hx
        exact hx
      obtain ⟨a, ha, ex⟩ := hx'
      obtain ⟨vs, hl, rs⟩ := w.at_ k a ts ha ek
      refine call_len_seq pins s σ H [x] us Q I r ⟨a, vs, by rw [ex], .inl (.inl (.inl hl)), ?_⟩
      rw [rs.len]
      exact fin0 w hp (by rw [rep_int])
  · rw [brep_xt] at hx
    obtain ⟨a, o, vs, ex, ha, _, rs⟩ := hx
    refine call_len_seq pins s σ H [x] us Q I r ⟨a, vs, by rw [ex], .inr (.inl (.inr ⟨o, ha⟩)), ?_⟩
    rw [rs.len]
    exact fin0 w hp (by rw [rep_int])
theorem c_dict : CallR X (.type "dict") (rC1 ax fun st => op1 st .dictOf) := by
  intro pins s σ H xs us Q I r h
  obtain ⟨x, rfl, F, μ, st, t, w, hx, hp⟩ := h
  cases t <;> first
    | exact hp.elim
    | skip
  rename_i ts
  cases ts with
  | cons t ts => exact hp.elim
  | nil =>
    rw [brep_xt] at hx
    obtain ⟨a, ob, vs, ex, ha, hd, rs⟩ := hx
    rw [reps_nil] at rs
    subst ex rs
    obtain ⟨u, eu, rx⟩ := r.one
    subst eu
    cases rx
    obtain ⟨ho, _, its, rv, o', ho', hc, n, hdat⟩ := (show ObjOk X.prog X.w H s.heap a (.frz ob (.tup [])) from I.hok a _ ha)
    rw [ho] at ho'
    cases ho'
    cases rv
    refine PySem.call_dict_pairs (knd := mixKind X.prog X.w) (kvs := []) (PySem.PairArg.tuple a #[] (fun _ => 0) []) (I.ok.hd b.calm) ⟨⟨ob, n, ho, hc, hd, hdat⟩, rfl, fun j k v hj => absurd (show (none : Option (Value × Value)) = some (k, v) from hj) (fun z => nomatch z)⟩ ⟨rfl, fun i k v hp => absurd (show (none : Option (Value × Value)) = some (k, v) from hp) (fun z => nomatch z)⟩ (Nat.zero_le _) fun h' tk hd' k => ?_
    have hm : (s.heap.objs.size == sysModules) = false := beq_eq_false_iff_ne.mpr (Nat.ne_of_gt I.big)
    have n0 : H s.heap.objs.size = none := I.hok.fresh (Nat.le_refl _)
    refine ⟨.ref s.heap.objs.size, upd H s.heap.objs.size (.dK []), I.laid (t' := tk) (fun c o e => k c o (by simp) e) (Nat.le_refl _) (show ObjOk X.prog X.w _ _ _ (.dK []) from ⟨Nat.zero_le _, hm, [], .nil, hd'⟩), rfl, ?_⟩
    exact hp _ _ F μ (Step.lay n0) (w.lay n0) (Res.own ⟨_, [], rfl, fun f => w.ft _ f n0, w.fresh n0, upd_same, by unfold kysR; rfl, Reps.nil⟩ ⟨_, rfl, n0⟩)
theorem c_tuple : CallR X (.type "tuple") (rC1 ax fun st => op1 st .tupleOf) := by
  intro pins s σ H xs us Q I r h
  obtain ⟨x, rfl, F, μ, st, t, w, hx, hp⟩ := h
  cases t <;> first
    | exact hp.elim
    | skip
  · have hx' := hx
    rw [brep_tup] at hx
    obtain ⟨a, vs, ex, ha, rs⟩ := hx
    exact call_tuple_of pins s σ H [x] us Q I r ⟨a, vs, by rw [ex], .inr ⟨.inl (.inl ha), by rw [← ex]; exact fin0 w hp hx'⟩⟩
  · obtain ⟨a, vs, ex, _, ha, rs⟩ := hx
    exact call_tuple_of pins s σ H [x] us Q I r ⟨a, vs, by rw [ex], .inl ⟨.inl ha, fun l n => finTup w hp rs n⟩⟩
omit b in
theorem reps_kys {fx : Fx} {F : Addr → Prop} {μ : List Addr} {H : Hp} : ∀ {ks : List Ky} {ws : List Key}, kysR fx.tab ks ws → Reps fx F μ H (ks.map Ky.t) (ws.map kV)
  | [], ws, h => by unfold kysR at h; rw [h]; exact Reps.nil
  | k :: ks, ws, h => by
    unfold kysR at h
    obtain ⟨w, wr, e, h1, h2⟩ := h
    rw [e, List.map_cons, List.map_cons]
    refine Reps.cons ?_ (reps_kys h2)
    cases k with
    | i n => unfold kyKey at h1; subst h1; show Rep fx F μ H (.int n) _; rw [rep_int]; rfl
    | s n => unfold kyKey at h1; obtain ⟨y, hy, h1⟩ := h1; subst h1; show Rep fx F μ H (.sym n) _; rw [rep_sym]; exact ⟨y, hy, rfl⟩
omit b in
theorem reps_kyss {fx : Fx} {F : Addr → Prop} {μ : List Addr} {H : Hp} : ∀ {ks : List (List Ky)} {ws : List (List Key × V)} {bs : List Addr}, kyssR fx.tab ks (ws.map (·.1)) → IsKeys H ws bs → Reps fx F μ H (ks.map kTup) (bs.map V.ref)
  | [], ws, bs, h, q => by
    unfold kyssR at h
    have e : ws = [] := List.map_eq_nil_iff.mp h
    subst e
    cases q
    exact Reps.nil
  | k :: ks, ws, bs, h, q => by
    unfold kyssR at h
    obtain ⟨w, wr, e, h1, h2⟩ := h
    cases q with
    | nil => cases e
    | cons q1 q2 =>
      rw [List.map_cons, List.cons.injEq] at e
      obtain ⟨e1, e2⟩ := e
      subst e2
      rw [List.map_cons, List.map_cons]
      refine Reps.cons ?_ (reps_kyss h2 q2)
      unfold kTup
      rw [rep_tup]
      exact ⟨_, _, rfl, q1, by rw [e1]; exact reps_kys h1⟩
theorem c_list : CallR X (.type "list") (rC1 ax fun st => op1 st .listOf) := by
  intro pins s σ H xs us Q I r h
  obtain ⟨x, rfl, F, μ, st, t, w, hx, hp⟩ := h
  cases t <;> first
    | exact hp.elim
    | skip
  · rw [brep_tup] at hx
    obtain ⟨a, vs, ex, ha, rs⟩ := hx
    exact call_list_of pins s σ H [x] us Q I r ⟨a, vs, by rw [ex], .inr (.inl (.inl ha)), fun l n => finLst w hp rs n⟩
  · obtain ⟨a, vs, ex, _, ha, rs⟩ := hx
    exact call_list_of pins s σ H [x] us Q I r ⟨a, vs, by rw [ex], .inl (.inl ha), fun l n => finLst w hp rs n⟩
  · obtain ⟨a, ws, ex, _, ha, rk, rs⟩ := hx
    refine call_listD b.calm pins s σ H [x] us Q I r ⟨a, ws, by rw [ex], ha, fun p n => ?_⟩
    have e : (ws.map fun kv => kV kv.1) = (ws.map (·.1)).map kV := by rw [List.map_map]; rfl
    rw [e]
    exact finLst w hp (reps_kys rk) n
  · obtain ⟨a, ws, ex, _, ha, rk, rs⟩ := hx
    exact call_list_dT b.calm pins s σ H [x] us Q I r ⟨a, ws, by rw [ex], ha, fun p bs n k => finLst w hp (reps_kyss rk k) n⟩
omit b in
theorem ints_list {F : Addr → Prop} {μ : List Addr} {H : Hp} {ts : List T} {x : V} {ns : List Int} (e : intsOf ts = some ns) (hx : BRep ax.fx F μ H (.lst ts) x) : ∃ a, x = .ref a ∧ Rd H a (.lst (ns.map V.int)) := by
  obtain ⟨a, vs, ex, _, ha, rs⟩ := hx
  rw [reps_ints e rs] at ha
  exact ⟨a, ex, ha⟩
theorem c_max : CallR X (.builtin "max") (rC1 ax fun st => op1 st .maxL) := by
  intro pins s σ H xs us Q I r h
  obtain ⟨x, rfl, F, μ, st, t, w, hx, hp⟩ := h
  cases t <;> first
    | exact hp.elim
    | skip
  rename_i ts
  dsimp only [op1] at hp
  cases e : intsOf ts with
  | none => rw [e] at hp; exact hp.elim
  | some ns =>
    cases ns with
    | nil => rw [e] at hp; exact hp.elim
    | cons n ns =>
      rw [e] at hp
      obtain ⟨a, ex, ha⟩ := ints_list e hx
      refine cr_max b.calm pins s σ H [x] us Q I r ⟨a, n :: ns, by rw [ex], .inl ha, Nat.succ_pos _, fun m h1 h2 => ?_⟩
      obtain ⟨k1, k2⟩ := maxI_ok ns n
      have em : m = maxI n ns := Int.le_antisymm (k2 m h1) (h2 _ k1)
      rw [em]
      exact fin0 w hp (by rw [rep_int])
theorem c_min : CallR X (.builtin "min") (rC1 ax fun st => op1 st .minL) := by
  intro pins s σ H xs us Q I r h
  obtain ⟨x, rfl, F, μ, st, t, w, hx, hp⟩ := h
  cases t <;> first
    | exact hp.elim
    | skip
  rename_i ts
  dsimp only [op1] at hp
  cases e : intsOf ts with
  | none => rw [e] at hp; exact hp.elim
  | some ns =>
    cases ns with
    | nil => rw [e] at hp; exact hp.elim
    | cons n ns =>
      rw [e] at hp
      obtain ⟨a, ex, ha⟩ := ints_list e hx
      refine cr_min b.calm pins s σ H [x] us Q I r ⟨a, n :: ns, by rw [ex], .inl ha, Nat.succ_pos _, fun m h1 h2 => ?_⟩
      obtain ⟨k1, k2⟩ := minI_ok ns n
      have em : m = minI n ns := Int.le_antisymm (h2 _ k1) (k2 m h1)
      rw [em]
      exact fin0 w hp (by rw [rep_int])
theorem c_sum : CallR X (.builtin "sum") (rC1 ax fun st => op1 st .sumL) := by
  intro pins s σ H xs us Q I r h
  obtain ⟨x, rfl, F, μ, st, t, w, hx, hp⟩ := h
  cases t <;> first
    | exact hp.elim
    | skip
  rename_i ts
  dsimp only [op1] at hp
  cases e : intsOf ts with
  | none => rw [e] at hp; exact hp.elim
  | some ns =>
    rw [e] at hp
    obtain ⟨a, ex, ha⟩ := ints_list e hx
    refine cr_sum b.calm pins s σ H [x] us Q I r ⟨a, ns, by rw [ex], .inl ha, ?_⟩
    rw [← sumI_eq]
    exact fin0 w hp (by rw [rep_int])
theorem c_any : CallR X (.builtin "any") (rC1 ax fun st => op1 st .anyL) := by
  intro pins s σ H xs us Q I r h
  obtain ⟨x, rfl, F, μ, st, t, w, hx, hp⟩ := h
  cases t <;> first
    | exact hp.elim
    | skip
  rename_i ts
  dsimp only [op1] at hp
  cases e : blsOf ts with
  | none => rw [e] at hp; exact hp.elim
  | some ns =>
    rw [e] at hp
    obtain ⟨a, vs, ex, _, ha, rs⟩ := hx
    rw [reps_bls e rs] at ha
    exact cr_any b.calm pins s σ H [x] us Q I r ⟨a, ns, by rw [ex], .inl ha, fin0 w hp (by rw [rep_bl])⟩
theorem c_all : CallR X (.builtin "all") (rC1 ax fun st => op1 st .allL) := by
  intro pins s σ H xs us Q I r h
  obtain ⟨x, rfl, F, μ, st, t, w, hx, hp⟩ := h
  cases t <;> first
    | exact hp.elim
    | skip
  rename_i ts
  dsimp only [op1] at hp
  cases e : blsOf ts with
  | none => rw [e] at hp; exact hp.elim
  | some ns =>
    rw [e] at hp
    obtain ⟨a, vs, ex, _, ha, rs⟩ := hx
    rw [reps_bls e rs] at ha
    exact cr_all b.calm pins s σ H [x] us Q I r ⟨a, ns, by rw [ex], .inl ha, fin0 w hp (by rw [rep_bl])⟩
omit b in
theorem kyInts_keys {tab : List Str} : ∀ {ks : List Ky} {ws : List Key} {ns : List Int}, kyInts ks = some ns → kysR tab ks ws → ws = ns.map Sum.inl
  | [], ws, ns, e, h => by unfold kysR at h; cases e; exact h
  | k :: ks, ws, ns, e, h => by
    unfold kysR at h
    obtain ⟨w, wr, ew, h1, h2⟩ := h
    cases k with
    | s n => cases e
    | i n =>
      unfold kyInts at e
      cases q : kyInts ks with
      | none => rw [q] at e; cases e
      | some ms =>
        rw [q] at e
        cases e
        unfold kyKey at h1
        rw [ew, h1, kyInts_keys q h2]
        rfl
theorem c_sorted : CallR X (.builtin "sorted") (rC1 ax fun st => op1 st .sortI) := by
  intro pins s σ H xs us Q I r h
  obtain ⟨x, rfl, F, μ, st, t, w, hx, hp⟩ := h
  cases t <;> first
    | exact hp.elim
    | skip
  · rename_i ts
    dsimp only [op1] at hp
    cases e : intsOf ts with
    | none => rw [e] at hp; exact hp.elim
    | some ns =>
      rw [e] at hp
      obtain ⟨a, ex, ha⟩ := ints_list e hx
      refine cr_sortedI pins s σ H [x] us Q I r ⟨a, ns, by rw [ex], .inl ha, fun ns' p pm ps n => ?_⟩
      rw [sorted_one (pm.trans (sortI_perm ns).symm) ps (sortI_sorted ns)]
      exact finLst w hp (ints_reps _) n
  · rename_i ks ts
    dsimp only [op1] at hp
    cases e : kyInts ks with
    | none => rw [e] at hp; exact hp.elim
    | some ns =>
      rw [e] at hp
      dsimp only at hp
      split at hp
      · rename_i h64
        obtain ⟨a, ws, ex, _, ha, rk, rs⟩ := hx
        refine call_sortedDI b.calm pins s σ H [x] us Q I r ⟨a, ws, ns, by rw [ex], ha, kyInts_keys e rk, h64, fun ys p pm ps n => ?_⟩
        rw [sorted_one (pm.trans (sortI_perm ns).symm) ps (sortI_sorted ns)]
        exact finLst w hp (ints_reps _) n
      · exact hp.elim
theorem c_max2 : CallR X (.builtin "max") (rC2 ax fun st => op2 st .max2) := by
  intro pins s σ H xs us Q I r h
  obtain ⟨x, y, rfl, F, μ, st, t, u, w, hx, hy, hp⟩ := h
  cases t <;> cases u <;> first
    | exact hp.elim
    | skip
  rw [brep_int] at hx hy
  exact call_max2 b.calm pins s σ H [x, y] us Q I r ⟨_, _, by rw [hx, hy], fin0 w hp (by rw [rep_int])⟩
theorem c_min2 : CallR X (.builtin "min") (rC2 ax fun st => op2 st .min2) := by
  intro pins s σ H xs us Q I r h
  obtain ⟨x, y, rfl, F, μ, st, t, u, w, hx, hy, hp⟩ := h
  cases t <;> cases u <;> first
    | exact hp.elim
    | skip
  rw [brep_int] at hx hy
  exact call_min2 b.calm pins s σ H [x, y] us Q I r ⟨_, _, by rw [hx, hy], fin0 w hp (by rw [rep_int])⟩
/-- isinstance(x, T) -/
def rIs (ax : Ax) (T0 : String) (f : St → T → O) : List V → Hp → VK → Prop := fun vs H Q => ∃ x, vs = [x, .ty T0] ∧ rO1 ax f x H Q
/-- the answers, by the kinds: none, bool, int, text, tuple -/
theorem c_is {T0 : String} {o : U1} (kn kb ki ks kt : Bool) (h1 : kitB "NoneType" T0 = some kn) (h2 : kitB "bool" T0 = some kb) (h3 : kitB "int" T0 = some ki) (h4 : kitB "str" T0 = some ks) (h5 : kitB "tuple" T0 = some kt)
    (ho : ∀ st t k x, (op1 st o t).post k x → (t = .non ∧ k (false, .bl kn)) ∨ (∃ c, t = .bl c ∧ k (false, .bl kb)) ∨ (∃ c, t = .int c ∧ k (false, .bl ki)) ∨ (∃ c, t = .sym c ∧ k (false, .bl ks)) ∨ (∃ c, t = .tup c ∧ k (false, .bl kt)) ∨ (∃ c, t = .xt c ∧ k (false, .bl kt))) :
    CallR X (.builtin "isinstance") (rIs ax T0 fun st => op1 st o) := by
  intro pins s σ H xs us Q I r h
  obtain ⟨x, rfl, F, μ, st, t, w, hx, hp⟩ := h
  have go : ∀ {k : Bool} {ty : String}, TyOf X.K H x (.type ty) → kitB ty T0 = some k → Q (.bl k) H → wpAny (model X.prog X.w) X.A (call (.builtin "isinstance") us) (EP X pins σ Q) X.xe s := fun {k ty} t0 e q =>
    call_isi pins s σ H _ us Q I r ⟨x, .ty T0, .type ty, .type T0, k, rfl, .ty T0, .base t0, kit_ty e, q⟩
  rcases ho st t _ _ hp with ⟨e, q⟩ | ⟨c, e, q⟩ | ⟨c, e, q⟩ | ⟨c, e, q⟩ | ⟨c, e, q⟩ | ⟨c, e, q⟩ <;> subst e
  · have hx : x = .non := by rw [show BRep ax.fx F μ H .non x = (x = .non) from rep_non (fx := ax.fx) (F := F) (μ := μ) (H := H)] at hx; exact hx
    subst hx
    exact go .non h1 (fin0 w q (by rw [rep_bl]))
  · rw [brep_bl] at hx
    subst hx
    exact go (.bl c) h2 (fin0 w q (by rw [rep_bl]))
  · rw [brep_int] at hx
    subst hx
    exact go (.int c) h3 (fin0 w q (by rw [rep_bl]))
  · rw [brep_sym] at hx
    obtain ⟨z, _, hx⟩ := hx
    subst hx
    exact go (.str z) h4 (fin0 w q (by rw [rep_bl]))
  · rw [brep_tup] at hx
    obtain ⟨a, vs, hx, ha, _⟩ := hx
    subst hx
    exact go (.tup ha) h5 (fin0 w q (by rw [rep_bl]))
  · rw [brep_xt] at hx
    obtain ⟨a, ob, vs, hx, ha, _, _⟩ := hx
    subst hx
    obtain ⟨u, u2, rfl, r1, r2⟩ := r.two
    cases (show u = Value.ref a from r1)
    cases (show u2 = Value.type T0 from r2)
    obtain ⟨_, _, its, _, o', ho', hc, _⟩ := (show ObjOk X.prog X.w H s.heap a (.frz ob (.tup vs)) from I.hok a _ ha)
    exact PySem.W.kia_one PySem.W.kitx_tuple I.kIn ⟨_, ho', hc⟩ (kit_ty h5) (fun z => nomatch z) fun tk => ⟨.bl kt, H, I.tok tk, rfl, fin0 w q (by rw [rep_bl])⟩
theorem c_isInt : CallR X (.builtin "isinstance") (rIs ax "int" fun st => op1 st .isInt) :=
  c_is b false true true false false (by decide +kernel) (by decide +kernel) (by decide +kernel) (by decide +kernel) (by decide +kernel) fun st t k x h => by
    cases t <;> first
      | exact h.elim
      | (dsimp only [op1] at h; simp; exact h)
theorem c_isBool : CallR X (.builtin "isinstance") (rIs ax "bool" fun st => op1 st .isBool) :=
  c_is b false true false false false (by decide +kernel) (by decide +kernel) (by decide +kernel) (by decide +kernel) (by decide +kernel) fun st t k x h => by
    cases t <;> first
      | exact h.elim
      | (dsimp only [op1] at h; simp; exact h)
theorem c_isTup : CallR X (.builtin "isinstance") (rIs ax "tuple" fun st => op1 st .isTup) :=
  c_is b false false false false true (by decide +kernel) (by decide +kernel) (by decide +kernel) (by decide +kernel) (by decide +kernel) fun st t k x h => by
    cases t <;> first
      | exact h.elim
      | (dsimp only [op1] at h; simp; exact h)
theorem c_isStr : CallR X (.builtin "isinstance") (rIs ax "str" fun st => op1 st .isStr) :=
  c_is b false false false true false (by decide +kernel) (by decide +kernel) (by decide +kernel) (by decide +kernel) (by decide +kernel) fun st t k x h => by
    cases t <;> first
      | exact h.elim
      | (dsimp only [op1] at h; simp; exact h)
end
end Ev
end

section
set_option autoImplicit false
set_option linter.all false
set_option maxRecDepth 100000
set_option maxHeartbeats 1000000
/-! EvG: the check of a term of the small language against the program's text. -/
namespace Ev
open PySem PySem.Spec PyProof.Rows L2

/-- the names of a def: by slot; its scope; the program's defs, its int constants, the symbols; which names' cells were made at the entry -/
structure Cc where
  N : List Str
  sc : Scope
  fns : List Str
  cons : List (Str × Int)
  tab : List Str
  rz : List Str
  fn : Str → Bool

def Cc.vis (cc : Cc) (i : Nat) (x : Str) : Bool := decide (cc.N[i]? = some x) && (match cc.sc.names.lookup x with
  | some .local => true
  | some .cell => true
  | some .free => true
  | _ => false) && !(x == ("__debug__" : Str)) && !(x == ("__classdict__" : Str))
def Cc.loc (cc : Cc) (i : Nat) (x : Str) : Bool := decide (cc.N[i]? = some x) && (match cc.sc.names.lookup x with
  | some .local => true
  | some .cell => cc.fn x
  | _ => false)
def Cc.gl (cc : Cc) (x : Str) : Bool := decide (cc.sc.names.lookup x = some .globalImplicit) && !(x == ("__debug__" : Str)) && decide (x ≠ "__name__")
/-- where a comprehension's block stands -/
def Cc.blk (cc : Cc) (scope : Scope) : Cc := { cc with sc := relS scope cc.sc, fn := fun x => scope.names.lookup x == some .cell }
def Cc.own (cc : Cc) (own : List Nat) : List (Str × Nat) := own.filterMap fun i => (cc.N[i]?).map fun x => (x, i)
def Cc.blkOk (cc : Cc) (scope : Scope) (own : List Nat) : Bool := blkC cc.N cc.sc scope (cc.own own) && decide ((cc.own own).map (·.2) = own)

def U1.nm : U1 → Option Str
  | .toInt => some "int"
  | .abs => some "abs"
  | .len => some "len"
  | .tupleOf => some "tuple"
  | .listOf => some "list"
  | .maxL => some "max"
  | .minL => some "min"
  | .sumL => some "sum"
  | .anyL => some "any"
  | .allL => some "all"
  | .sortI => some "sorted"
  | .dictOf => some "dict"
  | _ => none
def U1.ty : U1 → Option Str
  | .isInt => some "int"
  | .isBool => some "bool"
  | .isTup => some "tuple"
  | .isStr => some "str"
  | _ => none
def U2.bin : U2 → Option Operator
  | .add => some .Add
  | .sub => some .Sub
  | .mul => some .Mult
  | .fdiv => some .FloorDiv
  | .mod => some .Mod
  | .pow => some .Pow
  | _ => none
def U2.cmp : U2 → Option CmpOp
  | .eq => some .Eq
  | .ne => some .NotEq
  | .lt => some .Lt
  | .le => some .LtE
  | .gt => some .Gt
  | .ge => some .GtE
  | .isIn => some .In
  | .notIn => some .NotIn
  | _ => none
def U2.nm : U2 → Option Str
  | .max2 => some "max"
  | .min2 => some "min"
  | _ => none

def chkC (cc : Cc) (t : T) (py : Expr) : Bool :=
  match py with
  | .Constant (.int n) _ _ => match t with
    | .int m => n == m
    | _ => false
  | .Constant (.bool b) _ _ => match t with
    | .bl c => b == c
    | _ => false
  | .Constant .none _ _ => match t with
    | .non => true
    | _ => false
  | .Constant (.str x) _ _ => match t with
    | .sym k => decide (cc.tab[k]? = some x)
    | _ => false
  | .Name x _ => match t with
    | .int m => cc.gl x && decide ((x, m) ∈ cc.cons)
    | _ => false
  | _ => false
def chkG (cc : Cc) (g : G) (py : Expr) : Bool :=
  match g with
  | .n i => match py with
    | .Name x _ => cc.loc i x
    | _ => false
  | .t is => match py with
    | .Tuple ps _ _ => go is ps
    | _ => false
where
  go : List Nat → List Expr → Bool
  | [], [] => true
  | i :: is, .Name x _ :: ps => cc.loc i x && go is ps
  | _, _ => false
def G.sl : G → List Nat
  | .n i => [i]
  | .t is => is
def I.noKeys : I → Bool
  | .keys _ => false
  | _ => true
def isNm : Expr → Bool
  | .Name _ _ => true
  | _ => false
def isTupE : Expr → Bool
  | .Tuple _ _ _ => true
  | _ => false

/-- the forms that pass: none with an own road in the model where it stands as an argument, an index, a value -/
def okForm : Expr → Bool
  | .BoolOp _ _ _ => true
  | .BinOp _ _ _ _ => true
  | .UnaryOp _ _ _ => true
  | .IfExp _ _ _ _ => true
  | .Dict _ _ _ => true
  | .ListComp _ _ _ _ => true
  | .Compare _ _ _ _ => true
  | .Call _ _ _ _ => true
  | .Constant _ _ _ => true
  | .Subscript _ _ _ => true
  | .Name _ _ => true
  | .List _ _ => true
  | .Tuple _ _ _ => true
  | _ => false
mutual
def chkE (cc : Cc) : E → Expr → Bool
  | .c t, py => chkC cc t py
  | .v i, py => match py with
    | .Name x _ => cc.vis i x
    | _ => false
  | .tup es, py => match py with
    | .Tuple ps _ _ => chkEs cc es ps
    | _ => false
  | .xt es, py => match py with
    | .Tuple ps _ _ => chkEs cc es ps
    | _ => false
  | .lst es, py => match py with
    | .List ps _ => chkEs cc es ps
    | _ => false
  | .cell es, py => match py with
    | .List ps _ => chkEs cc es ps
    | _ => false
  | .u o a, py => match py with
    | .UnaryOp op p _ => (match o, op with
      | .not, .Not => true
      | .neg, .USub => true
      | _, _ => false) && chkE cc a p
    | .Call (.Name f _) [q] [] _ => (match o with
      | .setI => (match q with
        | .Call (.Name g _) [p] [] _ => decide (f = "sorted") && cc.gl f && decide (g = "set") && cc.gl g && chkE cc a p
        | _ => false)
      | .setT => (match q with
        | .Call (.Name g _) [p] [] _ => decide (f = "sorted") && cc.gl f && decide (g = "set") && cc.gl g && chkE cc a p
        | _ => false)
      | o => decide (o.nm = some f) && cc.gl f && chkE cc a q)
    | .Call (.Name f _) [p, .Name g _] [] _ => decide (f = "isinstance") && cc.gl f && decide (o.ty = some g) && cc.gl g && chkE cc a p
    | _ => false
  | .b o a b, py => match py with
    | .BinOp p op q _ => decide (o.bin = some op) && chkE cc a p && chkE cc b q
    | .Compare p [op] [q] _ => decide (o.cmp = some op) && chkE cc a p && chkE cc b q
    | .Subscript p q _ => (match o with
      | .item => true
      | _ => false) && chkE cc a p && chkE cc b q
    | .Call (.Name f _) [p, q] [] _ => decide (o.nm = some f) && cc.gl f && chkE cc a p && chkE cc b q
    | _ => false
  | .and a b, py => match py with
    | .BoolOp .And (p :: q :: rest) pos => chkE cc a p && chkE cc b (if rest.isEmpty = true then q else .BoolOp .And (q :: rest) pos)
    | _ => false
  | .or a b, py => match py with
    | .BoolOp .Or (p :: q :: rest) pos => chkE cc a p && chkE cc b (if rest.isEmpty = true then q else .BoolOp .Or (q :: rest) pos)
    | _ => false
  | .ite c a b, py => match py with
    | .IfExp pc pa pb _ => chkE cc c pc && chkE cc a pa && chkE cc b pb
    | _ => false
  | .chain o o' a b c, py => match py with
    | .Compare p [op, op'] [q, r] _ => decide (o.cmp = some op) && decide (o'.cmp = some op') && chkE cc a p && chkE cc b q && chkE cc c r
    | _ => false
  | .slTo a hi, py => match py with
    | .Subscript p (.Slice none (some q) none _) _ => chkE cc a p && chkE cc hi q
    | _ => false
  | .slFrom a lo, py => match py with
    | .Subscript p (.Slice (some q) none none _) _ => chkE cc a p && chkE cc lo q
    | _ => false
  | .max3 a b c, py => match py with
    | .Call (.Name f _) [p, q, r] [] _ => decide (f = "max") && cc.gl f && chkE cc a p && chkE cc b q && chkE cc c r
    | _ => false
  | .call f es, py => match py with
    | .Call (.Name x _) (p :: ps) [] _ => decide (cc.fns[f]? = some x) && cc.gl x && chkEs cc es (p :: ps)
    | _ => false
  | .comp own g it c e, py => match py with
    | .ListComp elt [⟨tg, iter, ifs, 0⟩] scope _ => cc.blkOk scope own && chkI cc it iter tg && chkG (cc.blk scope) g tg && g.sl.all (fun i => own.contains i) && (match ifs with
      | [] => (match c with
        | .c (.bl true) => true
        | _ => false)
      | [p] => chkE (cc.blk scope) c p
      | _ => false) && chkE (cc.blk scope) e elt
    | _ => false
  | .comp2 own g it own2 g2 it2 e, py => match py with
    | .ListComp elt [⟨tg, iter, [], 0⟩, ⟨tg2, iter2, [], 0⟩] scope _ => cc.blkOk scope own && chkI cc it iter tg && chkG (cc.blk scope) g tg && g.sl.all (fun i => own.contains i) && own2.all (fun i => own.contains i) &&
        it2.noKeys && chkI (cc.blk scope) it2 iter2 tg2 && chkG (cc.blk scope) g2 tg2 && g2.sl.all (fun i => own2.contains i) && chkE (cc.blk scope) e elt
    | _ => false
  | .get d k z, py => match py with
    | .Call (.Attribute o at_ apos) [p, q] [] cpos => decide (at_ = "get") && isNm o && (apos.endLine == cpos.line) && chkE cc d o && chkE cc k p && chkE cc z q
    | _ => false
  | .dK0, py => match py with
    | .Dict [] [] _ => true
    | _ => false
  | .dT0, py => match py with
    | .Dict [] [] _ => true
    | _ => false
  | .dK1 k e, py => match py with
    | .Dict [some p] [q] _ => chkE cc k p && chkE cc e q
    | _ => false
  | .dT1 _ _, _ => false
  | .never, py => okForm py
  | .rng a, py => match py with
    | .Call (.Name f _) [.Call (.Name g _) [p] [] _] [] _ => decide (f = "list") && cc.gl f && decide (g = "range") && cc.gl g && chkE cc a p
    | _ => false
def chkEs (cc : Cc) : List E → List Expr → Bool
  | [], ps => ps.isEmpty
  | e :: es, ps => match ps with
    | p :: ps => chkE cc e p && chkEs cc es ps
    | [] => false
/-- what is walked, and the target -/
def chkI (cc : Cc) : I → Expr → Expr → Bool
  | .seq e, py, _ => chkE cc e py
  | .rng1 a, py, _ => match py with
    | .Call (.Name f _) [p] [] _ => decide (f = "range") && cc.gl f && chkE cc a p
    | _ => false
  | .rng2 a b, py, _ => match py with
    | .Call (.Name f _) [p, q] [] _ => decide (f = "range") && cc.gl f && chkE cc a p && chkE cc b q
    | _ => false
  | .rev e, py, _ => match py with
    | .Call (.Name f _) [p] [] _ => decide (f = "reversed") && cc.gl f && chkE cc e p
    | _ => false
  | .enum e, py, tg => match py with
    | .Call (.Name f _) [p] [] _ => decide (f = "enumerate") && cc.gl f && chkE cc e p && isTupE tg
    | _ => false
  | .keys i, py, _ => match py with
    | .Name x _ => cc.vis i x
    | _ => false
end

theorem chk_form {cc : Cc} {e : E} {py : Expr} (h : chkE cc e py = true) : okForm py = true := by
  cases e <;> (unfold chkE at h) <;> (try unfold chkC at h) <;> (cases py <;> first
    | rfl
    | (exfalso; revert h; simp [okForm]))
theorem form_star {py : Expr} (h : okForm py = true) (es : List Expr) (env : PySem.Env) : starEach (py :: es) env = (false, eval py env) :: starEach es env := by
  cases py <;> first
    | rfl
    | cases h
theorem chks_star {cc : Cc} {env : PySem.Env} : ∀ {es : List E} {ps : List Expr}, chkEs cc es ps = true → ∀ pos : Pos, (backTo pos (starEach ps env)).any (·.1) = false
  | [], ps, h, pos => by
    unfold chkEs at h
    cases ps with
    | nil => rfl
    | cons p ps => cases h
  | e :: es, ps, h, pos => by
    unfold chkEs at h
    cases ps with
    | nil => cases h
    | cons p ps =>
      have h' := Bool.and_eq_true_iff.mp h
      rw [form_star (chk_form h'.1)]
      exact chks_star h'.2 pos
theorem form_ix {py : Expr} (h : okForm py = true) : PlainIx py := by
  cases py <;> first
    | exact fun _ _ => rfl
    | cases h
theorem form_sub {py : Expr} (h : okForm py = true) : ∀ ov iv new, augStore py ov iv new = (do holding [new, ov, iv] (setItem ov iv new); release [new, ov, iv] []; pure .next) := by
  cases py <;> first
    | exact fun _ _ _ => rfl
    | cases h
theorem form_beh {py : Expr} (h : okForm py = true) (op : CmpOp) : behindInMarks op py = false := by
  cases py <;> first
    | rfl
    | cases h
theorem form_fold {py : Expr} (h : okForm py = true) (env : PySem.Env) (x : Value) : foldedSetIterable py env x = pure x := by
  cases py <;> first
    | rfl
    | cases h
end Ev
end

section
set_option autoImplicit false
set_option linter.all false
set_option maxRecDepth 100000
set_option maxHeartbeats 1000000
/-! EvH: expressions: what the evaluator answers, the model does. -/
namespace Ev
open PySem PySem.Spec PyProof.Rows L2

def blt : List Str := ["len", "tuple", "list", "max", "min", "sum", "any", "all", "sorted", "int", "abs", "set", "isinstance", "range", "reversed", "enumerate", "str", "bool", "dict"]
/-- what is known where an expression stands -/
structure Gx (ax : Ax) (X : Cx) (cc : Cc) (Wx : WX) : Prop where
  bx : Bx ax X
  hN : X.N = cc.N
  hs : X.env.scope = cc.sc
  hf : X.fn = cc.fn
  nd : X.N.Nodup
  ht : cc.tab = ax.fx.tab
  free : ∀ x ∈ blt, X.mg x = none
  cons : ∀ x n, (x, n) ∈ cc.cons → ∃ t, X.mg x = some (.int n t)
  fns : ∀ (f : Nat) x, cc.fns[f]? = some x → ∃ a fd ps k, X.mg x = some (.ref a) ∧ PySem.W.keepIn X.K (.ref a) = true ∧ Binds X.K fd ps [] ∧ Room k X.A ∧ FnOk X.prog X.w X.K X.mg X.base (L2.CX X.prog X.w) k a fd ps (spC ax f ps.length) ∧ ∀ ts st, ts.length ≠ ps.length → ax.C f ts st = .bad
  tk : Takes X Wx

section
variable {ax : Ax} {X : Cx} {cc : Cc} {Wx : WX}
theorem Gx.vis (g : Gx ax X cc Wx) {i : Nat} {x : Str} (h : cc.vis i x = true) : X.N[i]? = some x ∧ Vis X.env.scope x ∧ (x == ("__debug__" : Str)) = false ∧ (x == ("__classdict__" : Str)) = false := by
  unfold Cc.vis at h
  simp only [Bool.and_eq_true, decide_eq_true_eq, Bool.not_eq_true'] at h
  obtain ⟨⟨⟨h1, h2⟩, h3⟩, h4⟩ := h
  refine ⟨by rw [g.hN]; exact h1, ?_, h3, h4⟩
  rw [g.hs]
  unfold Vis
  revert h2
  split <;> intro h2
  · exact .inl (by assumption)
  · exact .inr (.inl (by assumption))
  · exact .inr (.inr (by assumption))
  · cases h2
theorem Gx.loc (g : Gx ax X cc Wx) {i : Nat} {x : Str} (h : cc.loc i x = true) : X.N[i]? = some x ∧ L2.Loc X.env.scope x ∧ (X.fn x = true ∨ X.env.scope.names.lookup x = some .local) := by
  unfold Cc.loc at h
  simp only [Bool.and_eq_true, decide_eq_true_eq] at h
  obtain ⟨h1, h2⟩ := h
  refine ⟨by rw [g.hN]; exact h1, ?_⟩
  rw [g.hs, g.hf]
  unfold L2.Loc
  revert h2
  split <;> intro h2
  · exact ⟨.inl (by assumption), .inr (by assumption)⟩
  · exact ⟨.inr (by assumption), .inl h2⟩
  · cases h2
theorem Gx.gl (g : Gx ax X cc Wx) {x : Str} (h : cc.gl x = true) : Gl X x ∧ (x == ("__debug__" : Str)) = false ∧ x ≠ "__name__" := by
  unfold Cc.gl at h
  simp only [Bool.and_eq_true, decide_eq_true_eq, Bool.not_eq_true'] at h
  obtain ⟨⟨h1, h2⟩, h3⟩ := h
  refine ⟨?_, h2, h3⟩
  show X.env.scope.names.lookup x = some .globalImplicit
  rw [g.hs]
  exact h1

section
variable {m : Bool} {e : E} {H0 : Hp} {F Fa : Addr → Prop} {μ μa : List Addr} {H Ha : Hp} {Γ : Env} {st : St} {σ : L2.St} {Q : VK}
theorem Res.back {fx : Fx} {F1 F' : Addr → Prop} {μ1 μ' : List Addr} {H1 H' : Hp} {o : Bool} {t : T} {v : V} (s : Step F μ H F1 μ1 H1) (r : Res fx H1 F' μ' H' o t v) : Res fx H F' μ' H' o t v := by
  unfold Res at r ⊢
  cases o with
  | false => exact r
  | true => obtain ⟨r, a, e, n⟩ := r; exact ⟨r, a, e, s.live a n⟩
theorem ModeR.kn {fx : Fx} {t : T} {v : V} (r : Rep fx F μ H t v) : ModeR false fx Ha F μ H false t v := Res.kn (H0 := Ha) r
/-- a part is evaluated -/
theorem seqE (sl : Sl ax.fx H0 F μ Γ σ H) (w : Wd ax.fx F μ H st) (s0 : Step Fa μa Ha F μ H) {K : (Bool × T × St) → Prop} (hp : (evM ax m e Γ st).post K (exk ax Wx Fa μa Ha σ))
    (hk : ∀ x v H1 F1 μ1, K x → Step F μ H F1 μ1 H1 → Wd ax.fx F1 μ1 H1 x.2.2 → ModeR m ax.fx H F1 μ1 H1 x.1 x.2.1 v → Sl ax.fx H0 F1 μ1 Γ σ H1 → Step Fa μa Ha F1 μ1 H1 → Q v H1) : tM ax Wx m e σ H Q :=
  ⟨H0, F, μ, Γ, st, sl, w, R.post_imp hp (fun x k v H1 F1 μ1 s1 w1 r1 => hk x v H1 F1 μ1 k s1 w1 r1 (sl.step s1 w) (s0.trans s1)) fun _ _ _ h => h.step s0⟩
theorem seqT {e : E} {Q : Bool → Hp → Prop} (sl : Sl ax.fx H0 F μ Γ σ H) (w : Wd ax.fx F μ H st) (s0 : Step Fa μa Ha F μ H) {K : (Bool × St) → Prop} (hp : (boolR (evE ax.C e Γ st)).post K (exk ax Wx Fa μa Ha σ))
    (hk : ∀ x H1 F1 μ1, K x → Step F μ H F1 μ1 H1 → Wd ax.fx F1 μ1 H1 x.2 → Sl ax.fx H0 F1 μ1 Γ σ H1 → Step Fa μa Ha F1 μ1 H1 → Q x.1 H1) : tT ax Wx e σ H Q :=
  ⟨H0, F, μ, Γ, st, sl, w, R.post_imp hp (fun x k H1 F1 μ1 s1 w1 => hk x H1 F1 μ1 k s1 w1 (sl.step s1 w) (s0.trans s1)) fun _ _ _ h => h.step s0⟩
theorem seqAs {es : List E} {Q : List V → Hp → Prop} (sl : Sl ax.fx H0 F μ Γ σ H) (w : Wd ax.fx F μ H st) (s0 : Step Fa μa Ha F μ H) {K : (List T × St) → Prop} (hp : (evEs ax.C es Γ st).post K (exk ax Wx Fa μa Ha σ))
    (hk : ∀ x vs H1 F1 μ1, K x → Step F μ H F1 μ1 H1 → Wd ax.fx F1 μ1 H1 x.2 → Reps ax.fx F1 μ1 H1 x.1 vs → Sl ax.fx H0 F1 μ1 Γ σ H1 → Step Fa μa Ha F1 μ1 H1 → Q vs H1) : tAs ax Wx es σ H Q :=
  ⟨H0, F, μ, Γ, st, sl, w, R.post_imp hp (fun x k vs H1 F1 μ1 s1 w1 r1 => hk x vs H1 F1 μ1 k s1 w1 r1 (sl.step s1 w) (s0.trans s1)) fun _ _ _ h => h.step s0⟩
theorem opR_post {r : O} {k : (Bool × T × St) → Prop} {x : Nat → List T → St → Prop} (h : (opR r st).post k x) : r.post (fun y => k (y.1, y.2, st)) fun _ _ _ => True := by
  cases r with
  | ok a => exact h
  | exc c fs st => exact True.intro
  | bad => exact h
/-- the end by an operator of two -/
theorem endO2 {f : St → T → T → O} {t u : T} {x y : V} {k : Nat → List T → St → Prop} (s0 : Step Fa μa Ha F μ H) (w : Wd ax.fx F μ H st) (r1 : BRep ax.fx F μ H t x) (r2 : BRep ax.fx F μ H u y)
    (hp : (opR (f st t u) st).post (fun x => ∀ v H' F' μ', Step Fa μa Ha F' μ' H' → Wd ax.fx F' μ' H' x.2.2 → ModeR false ax.fx Ha F' μ' H' x.1 x.2.1 v → Q v H') k) : rO2 ax f x y H Q :=
  ⟨F, μ, st, t, u, w, r1, r2, R.post_imp (opR_post hp) (fun y h v H' F' μ' s w' r => h v H' F' μ' (s0.trans s) w' (Res.back s0 r)) fun _ _ _ h => h⟩
theorem endO1 {f : St → T → O} {t : T} {x : V} {k : Nat → List T → St → Prop} (s0 : Step Fa μa Ha F μ H) (w : Wd ax.fx F μ H st) (r1 : BRep ax.fx F μ H t x)
    (hp : (opR (f st t) st).post (fun x => ∀ v H' F' μ', Step Fa μa Ha F' μ' H' → Wd ax.fx F' μ' H' x.2.2 → ModeR false ax.fx Ha F' μ' H' x.1 x.2.1 v → Q v H') k) : rO1 ax f x H Q :=
  ⟨F, μ, st, t, w, r1, R.post_imp (opR_post hp) (fun y h v H' F' μ' s w' r => h v H' F' μ' (s0.trans s) w' (Res.back s0 r)) fun _ _ _ h => h⟩
end

/-! ### names, constants -/
theorem snd_c (g : Gx ax X cc Wx) {t : T} {py : Expr} (h : chkC cc t py = true) : PE X py (tM ax Wx false (.c t)) := by
  have go : ∀ {py : Expr} {v : V}, PE X py (tC v) → (∀ F μ H, Rep ax.fx F μ H t v) → PE X py (tM ax Wx false (.c t)) := fun {py v} p r => p.weak fun σ H Q ⟨H0, F, μ, Γ, st, sl, w, q⟩ =>
    q v H F μ (Step.refl F μ H) w (ModeR.kn (r F μ H))
  unfold chkC at h
  cases py <;> first
    | (exfalso; revert h; simp; done)
    | skip
  · rename_i c k pos
    cases c <;> cases t <;> first
      | (exfalso; revert h; simp; done)
      | skip
    · exact go pe_non fun F μ H => by rw [rep_non]
    · simp only [beq_iff_eq] at h; subst h; exact go pe_bl fun F μ H => by rw [rep_bl]
    · simp only [beq_iff_eq] at h; subst h; exact go pe_int fun F μ H => by rw [rep_int]
    · rename_i n
      have h' : cc.tab[n]? = some _ := of_decide_eq_true h
      exact go pe_str fun F μ H => by rw [rep_sym]; exact ⟨_, by rw [← g.ht]; exact h', rfl⟩
  · rename_i x pos
    cases t <;> first
      | (exfalso; revert h; simp; done)
      | skip
    simp only [Bool.and_eq_true, decide_eq_true_eq] at h
    obtain ⟨u, hu⟩ := g.cons _ _ h.2
    obtain ⟨g1, g2, _⟩ := g.gl h.1
    exact go (pe_glob (v := .int _) g1 hu ⟨u, rfl⟩ g2) fun F μ H => by rw [rep_int]
theorem snd_v (g : Gx ax X cc Wx) {i : Nat} {x : Str} {pos : Pos} (h : cc.vis i x = true) (m : Bool) : PE X (.Name x pos) (tM ax Wx m (.v i)) := by
  obtain ⟨h1, h2, h3, h4⟩ := g.vis h
  refine (pe_var (i := i) h1 h2 h3 h4).weak fun σ H Q ⟨H0, F, μ, Γ, st, sl, w, q⟩ => ?_
  cases m with
  | false =>
    cases e : rdF Γ i with
    | none =>
      have q : R.post (match rdF Γ i with | some t => .ok (false, t, st) | none => .bad : X3) _ _ := q
      rw [e] at q; exact q.elim
    | some t =>
      have q : R.post (match rdF Γ i with | some t => .ok (false, t, st) | none => .bad : X3) _ _ := q
      rw [e] at q
      obtain ⟨v, hv, r⟩ := sl.rdF e
      exact ⟨v, hv, q v H F μ (Step.refl F μ H) w (ModeR.kn r)⟩
  | true =>
    cases e : rd Γ i with
    | none =>
      have q : R.post (match rd Γ i with | some t => .ok (false, t, st) | none => .bad : X3) _ _ := q
      rw [e] at q; exact q.elim
    | some t =>
      have q : R.post (match rd Γ i with | some t => .ok (false, t, st) | none => .bad : X3) _ _ := q
      rw [e] at q
      obtain ⟨v, hv, r⟩ := sl.rd w e
      exact ⟨v, hv, q v H F μ (Step.refl F μ H) w r⟩
/-- to be looked at, from to be kept -/
theorem snd_b (g : Gx ax X cc Wx) {e : E} {py : Expr} (h : chkE cc e py = true) (p : PE X py (tM ax Wx false e)) : PE X py (tM ax Wx true e) := by
  have go : (∀ Γ st, evM ax true e Γ st = evM ax false e Γ st) → PE X py (tM ax Wx true e) := fun ee => p.weak fun σ H Q ⟨H0, F, μ, Γ, st, sl, w, q⟩ =>
by
    unfold PostR at q
    rw [ee] at q
    exact ⟨H0, F, μ, Γ, st, sl, w, R.post_imp q (fun x k v H' F' μ' s' w' r => k v H' F' μ' s' w' (Res.b w' r)) fun _ _ _ h => h⟩
  cases e with
  | v i =>
    unfold chkE at h
    cases py <;> first
      | (exfalso; revert h; simp; done)
      | exact snd_v g h true
  | _ => exact go fun _ _ => rfl

/-! ### operators of two -/
def binOp (o : U2) : Option Operator := o.bin
theorem o2_bin (b : Bx ax X) {o : U2} {op : Operator} (h : o.bin = some op) : OpR X (binaryOp op) (rO2 ax fun st => op2 st o) := by
  cases o <;> (first | (cases h; done) | skip) <;> cases h
  · exact o_add b
  · exact o_sub b
  · exact o_mul b
  · exact o_fdiv b
  · exact o_mod b
  · exact o_pow b
theorem o2_cmp (b : Bx ax X) {o : U2} {op : CmpOp} (h : o.cmp = some op) : OpR X (compareOp op) (rO2 ax fun st => op2 st o) := by
  cases o <;> (first | (cases h; done) | skip) <;> cases h
  · exact o_eq b
  · exact o_ne b
  · exact o_lt b
  · exact o_le b
  · exact o_gt b
  · exact o_ge b
  · exact o_in b
  · exact o_notIn b
theorem post_b {o : U2} {a b : E} {Γ : Env} {st : St} {K : (Bool × T × St) → Prop} {x : Nat → List T → St → Prop} (h : (evM ax false (.b o a b) Γ st).post K x) :
    (evM ax true a Γ st).post (fun y => (evM ax true b Γ y.2.2).post (fun z => (opR (op2 z.2.2 o y.2.1 z.2.1) z.2.2).post K x) x) x := by
  have h : (((bor Γ st (evE ax.C a Γ st) a).bind fun x => (bor Γ x.2.2 (evE ax.C b Γ x.2.2) b).bind fun y => opR (op2 y.2.2 o x.2.1 y.2.1) y.2.2) : X3).post K x := h
  rw [R.post_bind] at h
  refine R.post_imp h (fun y k => ?_) fun _ _ _ h => h
  rw [R.post_bind] at k
  exact k
theorem snd_op2 {a b : E} {pa pb : Expr} {o : U2} (ha : PE X pa (tM ax Wx true a)) (hb : PE X pb (tM ax Wx true b)) {py : Expr} {r : R2} (hr : ∀ x y H Q, rO2 ax (fun st => op2 st o) x y H Q → r x y H Q)
    (p : PE X py (tOp r (tM ax Wx true a) (tM ax Wx true b))) : PE X py (tM ax Wx false (.b o a b)) := by
  refine p.weak fun σ H Q ⟨H0, F, μ, Γ, st, sl, w, q⟩ => ?_
  refine seqE sl w (Step.refl F μ H) (post_b q) fun x v H1 F1 μ1 k s1 w1 r1 sl1 s01 => ?_
  refine seqE sl1 w1 s01 k fun y u H2 F2 μ2 k s2 w2 r2 sl2 s02 => ?_
  exact hr _ _ _ _ (endO2 s02 w2 (r1.step s2 w1) r2 k)
/-! ### operators of one -/
theorem post_u {o : U1} {a : E} {Γ : Env} {st : St} {K : (Bool × T × St) → Prop} {x : Nat → List T → St → Prop} (h : (evM ax false (.u o a) Γ st).post K x) :
    (evM ax true a Γ st).post (fun y => (opR (op1 y.2.2 o y.2.1) y.2.2).post K x) x := by
  have h : (((bor Γ st (evE ax.C a Γ st) a).bind fun x => opR (op1 x.2.2 o x.2.1) x.2.2) : X3).post K x := h
  rw [R.post_bind] at h
  exact h
theorem snd_op1 {a : E} {pa : Expr} {o : U1} {py : Expr} {r : V → Hp → VK → Prop} (hr : ∀ x H Q, rO1 ax (fun st => op1 st o) x H Q → r x H Q)
    (p : PE X py (tUn r (tM ax Wx true a))) : PE X py (tM ax Wx false (.u o a)) := by
  refine p.weak fun σ H Q ⟨H0, F, μ, Γ, st, sl, w, q⟩ => ?_
  refine seqE sl w (Step.refl F μ H) (post_u q) fun x v H1 F1 μ1 k s1 w1 r1 sl1 s01 => ?_
  exact hr _ _ _ (endO1 s01 w1 r1 k)
theorem c1_of (b : Bx ax X) {o : U1} {f : Str} (h : o.nm = some f) : (∃ u, bootBuiltins f = some u ∧ ((∃ id, u = .builtin id ∧ CallR X (.builtin id) (rC1 ax fun st => op1 st o)) ∨ ∃ T, u = .type T ∧ CallR X (.type T) (rC1 ax fun st => op1 st o))) ∧ f ∈ blt := by
  cases o <;> (first | (cases h; done) | skip) <;> cases h
  · exact ⟨⟨_, by decide +kernel, .inr ⟨"int", rfl, c_toInt b⟩⟩, by decide +kernel⟩
  · exact ⟨⟨_, by decide +kernel, .inl ⟨"abs", rfl, c_abs b⟩⟩, by decide +kernel⟩
  · exact ⟨⟨_, by decide +kernel, .inl ⟨"len", rfl, c_len b⟩⟩, by decide +kernel⟩
  · exact ⟨⟨_, by decide +kernel, .inr ⟨"tuple", rfl, c_tuple b⟩⟩, by decide +kernel⟩
  · exact ⟨⟨_, by decide +kernel, .inr ⟨"list", rfl, c_list b⟩⟩, by decide +kernel⟩
  · exact ⟨⟨_, by decide +kernel, .inl ⟨"max", rfl, c_max b⟩⟩, by decide +kernel⟩
  · exact ⟨⟨_, by decide +kernel, .inl ⟨"min", rfl, c_min b⟩⟩, by decide +kernel⟩
  · exact ⟨⟨_, by decide +kernel, .inl ⟨"sum", rfl, c_sum b⟩⟩, by decide +kernel⟩
  · exact ⟨⟨_, by decide +kernel, .inl ⟨"any", rfl, c_any b⟩⟩, by decide +kernel⟩
  · exact ⟨⟨_, by decide +kernel, .inl ⟨"all", rfl, c_all b⟩⟩, by decide +kernel⟩
  · exact ⟨⟨_, by decide +kernel, .inl ⟨"sorted", rfl, c_sorted b⟩⟩, by decide +kernel⟩
  · exact ⟨⟨_, by decide +kernel, .inr ⟨"dict", rfl, c_dict b⟩⟩, by decide +kernel⟩
theorem snd_call1 (g : Gx ax X cc Wx) {o : U1} {f : Str} {a : E} {pa : Expr} {p pos : Pos} (hf : o.nm = some f) (hg : cc.gl f = true) (fm : okForm pa = true) (ha : PE X pa (tM ax Wx true a)) : PE X (.Call (.Name f p) [pa] [] pos) (tM ax Wx false (.u o a)) := by
  obtain ⟨⟨u, hv, hc⟩, hm⟩ := c1_of g.bx hf
  obtain ⟨g1, g2, g3⟩ := g.gl hg
  have pa1 : PA X [pa] (tCons (tM ax Wx true a) tNil) := pa_cons ha pa_nil (form_star fm [] _)
  have hpl : ∀ pos : Pos, (backTo pos (starEach [pa] X.env)).any (·.1) = false := fun pos => by rw [form_star fm]; rfl
  refine snd_op1 (pa := pa) (r := fun x H Q => rC1 ax (fun st => op1 st o) [x] H Q) (fun x H Q h => ⟨x, rfl, h⟩) ?_
  rcases hc with ⟨id, rfl, hc⟩ | ⟨T0, rfl, hc⟩
  · exact (pe_callB hc g1 (g.free f hm) hv pa1 g3 g2 (form_star fm [] _)).weak fun σ H Q h => h
  · exact (pe_callTy hc g1 (g.free f hm) hv pa1 g3 g2 (form_star fm [] _)).weak fun σ H Q h => h
end
end Ev
end

section
set_option autoImplicit false
set_option linter.all false
set_option maxRecDepth 100000
set_option maxHeartbeats 1000000
/-! EvI: expressions without comprehensions, part by part. -/
namespace Ev
open PySem PySem.Spec PyProof.Rows L2

theorem ORep.addr {fx : Fx} {F : Addr → Prop} {μ : List Addr} {H : Hp} {t : T} {v : V} (h : ORep fx F μ H t v) : ∃ a, v = .ref a ∧ H a ≠ none := by
  obtain ⟨a, e, _, _, n, _⟩ := h.known
  exact ⟨a, e, n⟩
theorem ORep.addF {fx : Fx} {F : Addr → Prop} {μ : List Addr} {H : Hp} {c : Addr} : ∀ {t : T} {v : V}, ORep fx F μ H t v → v ≠ .ref c → ORep fx (addF F c) μ H t v
  | .lst ts, v, h, n => by
    obtain ⟨a, vs, e, f, m, ha, r⟩ := h
    exact ⟨a, vs, e, fun z => z.elim f fun z => n (by rw [e, z]), m, ha, Reps.kp (Kp.addF c) _ _ r⟩
  | .dK ks ts, v, h, n => by
    obtain ⟨a, ws, e, f, m, ha, r1, r⟩ := h
    exact ⟨a, ws, e, fun z => z.elim f fun z => n (by rw [e, z]), m, ha, r1, Reps.kp (Kp.addF c) _ _ r⟩
  | .dT ks ts, v, h, n => by
    obtain ⟨a, ws, e, f, m, ha, r1, r⟩ := h
    exact ⟨a, ws, e, fun z => z.elim f fun z => n (by rw [e, z]), m, ha, r1, Reps.kp (Kp.addF c) _ _ r⟩
theorem Sl.addF {fx : Fx} {H0 : Hp} {F : Addr → Prop} {μ : List Addr} {Γ : Env} {σ : L2.St} {H : Hp} {c : Addr} (s : Sl fx H0 F μ Γ σ H) (n : ∀ (i : Nat) t v, Γ[i]? = some (some (true, t)) → σ[i]? = some (some v) → v ≠ .ref c) : Sl fx H0 (addF F c) μ Γ σ H where
  len := s.len
  kn := fun i t h => let ⟨v, e, r⟩ := s.kn i t h; ⟨v, e, Rep.kp (Kp.addF c) t v r⟩
  ow := fun i t h => let ⟨v, e, r, k⟩ := s.ow i t h; ⟨v, e, r.addF (n i t v h e), k⟩
  ap := s.ap

section
variable {ax : Ax} {X : Cx} {cc : Cc} {Wx : WX}
section
variable {H0 : Hp} {F Fa F1 : Addr → Prop} {μ μa μ1 : List Addr} {H Ha H1 : Hp} {Γ : Env} {st st1 : St} {σ : L2.St} {Q : VK} {fx : Fx}
/-- a part's value, from here on known -/
theorem known_sl {o : Bool} {t : T} {v : V} (sl : Sl fx H0 F μ Γ σ H) (w : Wd fx F μ H st) (s0 : Step Fa μa Ha F μ H) (s1 : Step F μ H F1 μ1 H1) (w1 : Wd fx F1 μ1 H1 st1) (r : Res fx H F1 μ1 H1 o t v) :
    ∃ G, Step Fa μa Ha G μ1 H1 ∧ Wd fx G μ1 H1 st1 ∧ Rep fx G μ1 H1 t v ∧ Sl fx H0 G μ1 Γ σ H1 ∧ Kp F1 μ1 H1 G μ1 H1 := by
  have sl1 := sl.step s1 w
  have s01 := s0.trans s1
  unfold Res at r
  cases o with
  | false => exact ⟨F1, s01, w1, r, sl1, Kp.refl F1 μ1 H1⟩
  | true =>
    obtain ⟨h, a0, e0, n0⟩ := r
    obtain ⟨a, e, f, m, nn, r⟩ := h.known
    have ea : a0 = a := V.ref.inj (e0.symm.trans e)
    subst ea
    refine ⟨addF F1 a0, ⟨s01.fr, fun b z => .inl (s01.sub b z), fun b z => ?_, s01.cells, s01.live⟩, w1.addF m nn, r, sl1.addF fun i t v h1 h2 z => ?_, Kp.addF a0⟩
    · rcases z with z | z
      · exact s01.new b z
      · exact .inr (by rw [z]; exact s0.live _ n0)
    · obtain ⟨v', e1, q, _⟩ := sl.ow i t h1
      rw [h2] at e1; cases e1
      obtain ⟨c, ec, nc⟩ := q.addr
      rw [z] at ec; cases ec
      exact nc n0
theorem snd_nil : PA X [] (tAs ax Wx []) := pa_nil.weak fun σ H Q ⟨H0, F, μ, Γ, st, sl, w, q⟩ => by
  have q : R.post (.ok ([], st) : R (List T × St)) _ _ := q
  exact q [] H F μ (Step.refl F μ H) w Reps.nil
theorem snd_cons {e : E} {es : List E} {p : Expr} {ps : List Expr} (he : PE X p (tM ax Wx false e)) (hs : PA X ps (tAs ax Wx es)) (fm : okForm p = true) : PA X (p :: ps) (tAs ax Wx (e :: es)) := by
  refine (pa_cons he hs (form_star fm ps _)).weak fun σ H Q ⟨H0, F, μ, Γ, st, sl, w, q⟩ => ?_
  have q : R.post (((evE ax.C e Γ st).bind fun x => (evEs ax.C es Γ x.2.2).bind fun y => .ok (x.2.1 :: y.1, y.2) : R (List T × St))) _ _ := q
  rw [R.post_bind] at q
  refine seqE (m := false) sl w (Step.refl F μ H) q fun x v H1 F1 μ1 k s1 w1 r1 sl1 s01 => ?_
  rw [R.post_bind] at k
  obtain ⟨G, sG, wG, rG, slG, _⟩ := known_sl sl w (Step.refl F μ H) s1 w1 r1
  refine seqAs slG wG sG k fun y vs H2 F2 μ2 k2 s2 w2 rs sl2 s02 => ?_
  exact k2 _ H2 F2 μ2 s02 w2 (Reps.cons (Rep.kp (s2.kp wG) _ _ rG) rs)
theorem snd_tup {es : List E} {ps : List Expr} {n : Nat} {pos : Pos} (h : PA X ps (tAs ax Wx es)) : PE X (.Tuple ps n pos) (tM ax Wx false (.tup es)) := by
  refine (pe_tup h).weak fun σ H Q ⟨H0, F, μ, Γ, st, sl, w, q⟩ => ?_
  have q : R.post (((evEs ax.C es Γ st).bind fun x => if x.1.length ≤ SZ then .ok (false, .tup x.1, x.2) else .bad : X3)) _ _ := q
  rw [R.post_bind] at q
  refine seqAs sl w (Step.refl F μ H) q fun x vs H1 F1 μ1 k s1 w1 rs sl1 s01 => ?_
  split at k
  · rename_i hz
    refine ⟨szL (by rw [rs.len]; exact hz), fun p n => ?_⟩
    exact k _ _ F1 μ1 (s01.trans (Step.lay n)) (w1.lay n) (ModeR.kn (by rw [rep_tup]; exact ⟨p, vs, rfl, upd_same, Reps.kp ((Step.lay n).kp w1) _ _ rs⟩))
  · exact k.elim
/-- a tuple's display, its object known whole -/
theorem pe_xtup {X : Cx} {es : List Expr} {t : TA} {n : Nat} {pos : Pos} (h : PA X es t) : PE X (.Tuple es n pos) (fun σ H Q => t σ H fun xs H1 => xs.length ≤ sizeLine ∧ ∀ p o, H1 p = none → o.dict = none → Q (.ref p) (upd H1 p (.frz o (.tup xs)))) := by
  refine ⟨fun pins s σ H Q I hq => ?_⟩
  refine wpAny_Tuple_spliced (thn (h.run pos pins s σ H _ I hq) fun us s1 ⟨xs, H1, I1, r, z, q⟩ => ⟨by rw [← r.length]; exact z, ?_⟩)
  have n0 : H1 s1.heap.objs.size = none := I1.hok.fresh (Nat.le_refl _)
  refine ⟨.ref s1.heap.objs.size, _, I1.laid (t' := s1.toks) (fun b u e => Heap.get?_push_of_some _ e) (Nat.le_refl _) ?_, rfl, q s1.heap.objs.size { cls := .type "tuple", data := .seq us.toArray } n0 rfl⟩
  exact ⟨Heap.get?_push_size _ rfl, z, us, r, ⟨_, Heap.get?_push_size _ rfl, rfl, _, rfl⟩⟩
theorem snd_xt {es : List E} {ps : List Expr} {n : Nat} {pos : Pos} (h : PA X ps (tAs ax Wx es)) : PE X (.Tuple ps n pos) (tM ax Wx false (.xt es)) := by
  refine (pe_xtup h).weak fun σ H Q ⟨H0, F, μ, Γ, st, sl, w, q⟩ => ?_
  have q : R.post (((evEs ax.C es Γ st).bind fun x => if x.1.length ≤ SZ then .ok (false, .xt x.1, x.2) else .bad : X3)) _ _ := q
  rw [R.post_bind] at q
  refine seqAs sl w (Step.refl F μ H) q fun x vs H1 F1 μ1 k s1 w1 rs sl1 s01 => ?_
  split at k
  · rename_i hz
    refine ⟨szL (by rw [rs.len]; exact hz), fun p o n hd => ?_⟩
    exact k _ _ F1 μ1 (s01.trans (Step.lay n)) (w1.lay n) (ModeR.kn (by rw [rep_xt]; exact ⟨p, o, vs, rfl, upd_same, hd, Reps.kp ((Step.lay n).kp w1) _ _ rs⟩))
  · exact k.elim
theorem snd_lst {es : List E} {ps : List Expr} {pos : Pos} (h : PA X ps (tAs ax Wx es)) : PE X (.List ps pos) (tM ax Wx false (.lst es)) := by
  refine (pe_lst h).weak fun σ H Q ⟨H0, F, μ, Γ, st, sl, w, q⟩ => ?_
  have q : R.post (((evEs ax.C es Γ st).bind fun x => if x.1.length ≤ SZ then .ok (true, .lst x.1, x.2) else .bad : X3)) _ _ := q
  rw [R.post_bind] at q
  refine seqAs sl w (Step.refl F μ H) q fun x vs H1 F1 μ1 k s1 w1 rs sl1 s01 => ?_
  split at k
  · rename_i hz
    refine ⟨szL (by rw [rs.len]; exact hz), fun p n => ?_⟩
    exact k _ _ F1 μ1 (s01.trans (Step.lay n)) (w1.lay n) (Res.own ⟨p, vs, rfl, fun f => w1.ft p f n, w1.fresh n, upd_same, Reps.kp ((Step.lay n).kp w1) _ _ rs⟩ ⟨p, rfl, s1.live p n⟩)
  · exact k.elim
theorem snd_cell {es : List E} {ps : List Expr} {pos : Pos} (h : PA X ps (tAs ax Wx es)) : PE X (.List ps pos) (tM ax Wx false (.cell es)) := by
  refine (pe_lst h).weak fun σ H Q ⟨H0, F, μ, Γ, st, sl, w, q⟩ => ?_
  have q : R.post (((evEs ax.C es Γ st).bind fun x => if x.1.length ≤ SZ then .ok (false, .ref x.2.length, x.2 ++ [x.1]) else .bad : X3)) _ _ := q
  rw [R.post_bind] at q
  refine seqAs sl w (Step.refl F μ H) q fun x vs H1 F1 μ1 k s1 w1 rs sl1 s01 => ?_
  split at k
  · rename_i hz
    refine ⟨szL (by rw [rs.len]; exact hz), fun p n => ?_⟩
    have sN : Step F1 μ1 H1 F1 (μ1 ++ [p]) (upd H1 p (.lst vs)) := ⟨fun b o h _ => by rw [upd_ne (ne_of_none h n)]; exact h, fun _ h => h, fun _ h => .inl h, ⟨[p], rfl, fun a m => by simp at m; rw [m]; exact n⟩, (Step.lay (F := F1) (μ := μ1) n).live⟩
    have kp := sN.kp w1
    refine k _ _ F1 (μ1 ++ [p]) (s01.trans sN) ⟨?_, ?_, ?_, fun a f => upd_live (w1.ft a f), fun i a c h1 h2 => ?_⟩ (ModeR.kn (by rw [rep_ref]; exact ⟨p, by rw [w1.len]; simp, rfl⟩))
    · rw [List.length_append, List.length_append, w1.len]; rfl
    · rw [List.nodup_append]
      exact ⟨w1.nd, by simp, fun a ha c hc z => by simp at hc; rw [z, hc] at ha; exact w1.fresh n ha⟩
    · intro a m f
      rcases List.mem_append.mp m with m | m
      · exact w1.nf a m f
      · simp at m; rw [m] at f; exact w1.ft p f n
    · by_cases hi : i < μ1.length
      · rw [List.getElem?_append_left hi] at h1
        rw [List.getElem?_append_left (by rw [w1.len]; exact hi)] at h2
        obtain ⟨ws, e, r⟩ := w1.at_ i a c h1 h2
        exact ⟨ws, by rw [upd_ne (ne_of_none e n)]; exact e, Reps.kp kp _ _ r⟩
      · have hi' : i = μ1.length := by
          have := (List.getElem?_eq_some_iff.mp h1).1
          rw [List.length_append] at this
          simp at this
          omega
        subst hi'
        simp at h1
        rw [← w1.len] at h2
        simp at h2
        subst h1 h2
        exact ⟨vs, upd_same, Reps.kp kp _ _ rs⟩
  · exact k.elim
/-! ### and, or, if -/
theorem snd_bool {e : E} {py : Expr} (p : PE X py (tM ax Wx false e)) : PE X py (fun σ H Q => tT ax Wx e σ H fun k H1 => Q (.bl k) H1) := p.weak fun σ H Q ⟨H0, F, μ, Γ, st, sl, w, q⟩ => by
  have q : R.post ((evE ax.C e Γ st).bind fun x => match x with | (_, .bl b, st) => .ok (b, st) | _ => .bad : R (Bool × St)) _ _ := q
  rw [R.post_bind] at q
  refine seqE (m := false) sl w (Step.refl F μ H) q fun x v H1 F1 μ1 k s1 w1 r1 sl1 s01 => ?_
  obtain ⟨o, t, s⟩ := x
  cases t <;> first
    | exact k.elim
    | skip
  rename_i b
  have r1 : BRep ax.fx F1 μ1 H1 (.bl b) v := Res.b w1 r1
  rw [brep_bl] at r1
  subst r1
  exact k H1 F1 μ1 s01 w1
theorem post_boolR {r : X3} {K : (Bool × St) → Prop} {x : Nat → List T → St → Prop} (h : (boolR r).post K x) : r.post (fun y => ∃ b, y.2.1 = .bl b ∧ K (b, y.2.2)) x := by
  unfold boolR at h
  rw [R.post_bind] at h
  refine R.post_imp h (fun y k => ?_) fun _ _ _ h => h
  obtain ⟨o, t, s⟩ := y
  cases t <;> first
    | exact k.elim
    | exact ⟨_, rfl, k⟩
/-- the value of a part that is a bool -/
theorem seqB {e : E} (sl : Sl ax.fx H0 F μ Γ σ H) (w : Wd ax.fx F μ H st) (s0 : Step Fa μa Ha F μ H) {K : (Bool × St) → Prop} (hp : (boolR (evE ax.C e Γ st)).post K (exk ax Wx Fa μa Ha σ))
    (hk : ∀ x H1 F1 μ1, K x → Step F μ H F1 μ1 H1 → Wd ax.fx F1 μ1 H1 x.2 → Sl ax.fx H0 F1 μ1 Γ σ H1 → Step Fa μa Ha F1 μ1 H1 → Q (.bl x.1) H1) : tM ax Wx false e σ H Q :=
  seqE (m := false) sl w s0 (post_boolR hp) fun x v H1 F1 μ1 k s1 w1 r1 sl1 s01 => by
    obtain ⟨b, e, k⟩ := k
    have r1 : BRep ax.fx F1 μ1 H1 x.2.1 v := Res.b w1 r1
    rw [e, brep_bl] at r1
    subst r1
    exact hk (b, x.2.2) H1 F1 μ1 k s1 w1 sl1 s01
theorem snd_and {a b : E} {p q : Expr} {rest : List Expr} {pos : Pos} (ha : PE X p (tM ax Wx false a)) (hb : PE X (.BoolOp .And (q :: rest) pos) (tM ax Wx false b)) : PE X (.BoolOp .And (p :: q :: rest) pos) (tM ax Wx false (.and a b)) := by
  refine (pe_and ha hb).weak fun σ H Q ⟨H0, F, μ, Γ, st, sl, w, q⟩ => ?_
  have q : R.post (((boolR (evE ax.C a Γ st)).bind fun x => if x.1 = true then (boolR (evE ax.C b Γ x.2)).bind fun y => .ok (false, .bl y.1, y.2) else .ok (false, .bl false, x.2) : X3)) _ _ := q
  rw [R.post_bind] at q
  refine seqB sl w (Step.refl F μ H) q fun x H1 F1 μ1 k s1 w1 sl1 s01 => ⟨x.1, rfl, ?_⟩
  split
  · rename_i c
    rw [if_pos c, R.post_bind] at k
    exact seqB sl1 w1 s01 k fun y H2 F2 μ2 k2 s2 w2 sl2 s02 => k2 _ H2 F2 μ2 s02 w2 (ModeR.kn (by rw [rep_bl]))
  · rename_i c
    rw [if_neg c] at k
    exact k _ H1 F1 μ1 s01 w1 (ModeR.kn (by rw [rep_bl]))
theorem snd_or {a b : E} {p q : Expr} {rest : List Expr} {pos : Pos} (ha : PE X p (tM ax Wx false a)) (hb : PE X (.BoolOp .Or (q :: rest) pos) (tM ax Wx false b)) : PE X (.BoolOp .Or (p :: q :: rest) pos) (tM ax Wx false (.or a b)) := by
  refine (pe_or ha hb).weak fun σ H Q ⟨H0, F, μ, Γ, st, sl, w, q⟩ => ?_
  have q : R.post (((boolR (evE ax.C a Γ st)).bind fun x => if x.1 = true then .ok (false, .bl true, x.2) else (boolR (evE ax.C b Γ x.2)).bind fun y => .ok (false, .bl y.1, y.2) : X3)) _ _ := q
  rw [R.post_bind] at q
  refine seqB sl w (Step.refl F μ H) q fun x H1 F1 μ1 k s1 w1 sl1 s01 => ⟨x.1, rfl, ?_⟩
  split
  · rename_i c
    rw [if_pos c] at k
    exact k _ H1 F1 μ1 s01 w1 (ModeR.kn (by rw [rep_bl]))
  · rename_i c
    rw [if_neg c, R.post_bind] at k
    exact seqB sl1 w1 s01 k fun y H2 F2 μ2 k2 s2 w2 sl2 s02 => k2 _ H2 F2 μ2 s02 w2 (ModeR.kn (by rw [rep_bl]))
theorem snd_ite {c a b : E} {pc pa pb : Expr} {pos : Pos} (hc : PT X pc (tT ax Wx c)) (ha : PE X pa (tM ax Wx false a)) (hb : PE X pb (tM ax Wx false b)) : PE X (.IfExp pc pa pb pos) (tM ax Wx false (.ite c a b)) := by
  refine (pe_ifExp hc ha hb).weak fun σ H Q ⟨H0, F, μ, Γ, st, sl, w, q⟩ => ?_
  have q : R.post (((boolR (evE ax.C c Γ st)).bind fun x => if x.1 = true then evE ax.C a Γ x.2 else evE ax.C b Γ x.2 : X3)) _ _ := q
  rw [R.post_bind] at q
  refine seqT sl w (Step.refl F μ H) q fun x H1 F1 μ1 k s1 w1 sl1 s01 => ?_
  split
  · rename_i d
    rw [if_pos d] at k
    exact seqE (m := false) sl1 w1 s01 k fun y v H2 F2 μ2 k2 s2 w2 r2 sl2 s02 => k2 v H2 F2 μ2 s02 w2 (Res.back s1 r2)
  · rename_i d
    rw [if_neg d] at k
    exact seqE (m := false) sl1 w1 s01 k fun y v H2 F2 μ2 k2 s2 w2 r2 sl2 s02 => k2 v H2 F2 μ2 s02 w2 (Res.back s1 r2)
/-! ### a < b < c -/
theorem snd_chain (g : Gx ax X cc Wx) {o o' : U2} {op op' : CmpOp} {a b c : E} {p q r : Expr} {pos : Pos} (h1 : o.cmp = some op) (h2 : o'.cmp = some op') (fq : okForm q = true) (fr : okForm r = true)
    (ha : PE X p (tM ax Wx false a)) (hb : PE X q (tM ax Wx false b)) (hc : PE X r (tM ax Wx false c)) : PE X (.Compare p [op, op'] [q, r] pos) (tM ax Wx false (.chain o o' a b c)) := by
  refine (pe_chain (o2_cmp g.bx h1) (o2_cmp g.bx h2) ha hb hc (form_beh fr op')).weak fun σ H Q ⟨H0, F, μ, Γ, st, sl, w, q⟩ => ?_
  have q : R.post (((evE ax.C a Γ st).bind fun x => (evE ax.C b Γ x.2.2).bind fun y => (boolR (opR (op2 y.2.2 o x.2.1 y.2.1) y.2.2)).bind fun k =>
    if k.1 = true then (evE ax.C c Γ k.2).bind fun z => opR (op2 z.2.2 o' y.2.1 z.2.1) z.2.2 else .ok (false, .bl false, k.2) : X3)) _ _ := q
  rw [R.post_bind] at q
  refine seqE (m := false) sl w (Step.refl F μ H) q fun x v H1 F1 μ1 k s1 w1 r1 sl1 s01 => ?_
  rw [R.post_bind] at k
  refine seqE (m := false) sl1 w1 s01 k fun y u H2 F2 μ2 k s2 w2 r2 sl2 s02 => ?_
  rw [R.post_bind] at k
  have b2 := Res.b w2 r2
  refine ⟨F2, μ2, y.2.2, x.2.1, y.2.1, w2, (Res.b w1 r1).step s2 w1, b2, R.post_imp (opR_post (post_boolR k)) (fun z hz v3 H3 F3 μ3 s3 w3 r3 => ?_) fun _ _ _ h => h⟩
  obtain ⟨k3, e3, hz⟩ := hz
  have e3 : z.2 = .bl k3 := e3
  have r3 := Res.b w3 r3
  rw [e3, brep_bl] at r3
  subst r3
  refine ⟨k3, rfl, ?_⟩
  have sl3 := sl2.step s3 w2
  split
  · rename_i d
    have d : k3 = true := d
    rw [if_pos d, R.post_bind] at hz
    refine seqE (m := false) sl3 w3 (s02.trans s3) hz fun z v4 H4 F4 μ4 k s4 w4 r4 sl4 s04 => ?_
    exact endO2 s04 w4 ((b2.step s3 w2).step s4 w3) (Res.b w4 r4) k
  · rename_i d
    have d : ¬ k3 = true := d
    rw [if_neg d] at hz
    exact hz _ H3 F3 μ3 (s02.trans s3) w3 (ModeR.kn (by rw [rep_bl]))
end
end
end Ev
end

section
set_option autoImplicit false
set_option linter.all false
set_option maxRecDepth 100000
set_option maxHeartbeats 1000000
/-! EvJ: calls, slices, dicts; tests. -/
namespace Ev
open PySem PySem.Spec PyProof.Rows L2
theorem BRep.kpF {fx : Fx} {F G : Addr → Prop} {μ : List Addr} {H : Hp} (k : Kp F μ H G μ H) : ∀ {t : T} {v : V}, BRep fx F μ H t v → BRep fx G μ H t v
  | .non, _, h => h
  | .bl _, _, h => h
  | .int _, _, h => h
  | .sym _, _, h => h
  | .tup _, _, h => Rep.kp k _ _ h
  | .ref _, _, h => Rep.kp k _ _ h
  | .xt _, _, h => Rep.kp k _ _ h
  | .lst ts, v, h => let ⟨a, vs, e, m, ha, r⟩ := h; ⟨a, vs, e, m, ha, Reps.kp k _ _ r⟩
  | .dK ks ts, v, h => let ⟨a, ws, e, m, ha, r1, r⟩ := h; ⟨a, ws, e, m, ha, r1, Reps.kp k _ _ r⟩
  | .dT ks ts, v, h => let ⟨a, ws, e, m, ha, r1, r⟩ := h; ⟨a, ws, e, m, ha, r1, Reps.kp k _ _ r⟩
section
variable {ax : Ax} {X : Cx} {cc : Cc} {Wx : WX}
/-! ### a def's call -/
theorem snd_call (g : Gx ax X cc Wx) {f : Nat} {es : List E} {x : Str} {p : Expr} {ps : List Expr} {p1 pos : Pos} (hf : cc.fns[f]? = some x) (hg : cc.gl x = true) (fm : okForm p = true) (hpl : ∀ pos : Pos, (backTo pos (starEach ps X.env)).any (·.1) = false)
    (h : PA X (p :: ps) (tAs ax Wx es)) : PE X (.Call (.Name x p1) (p :: ps) [] pos) (tM ax Wx false (.call f es)) := by
  obtain ⟨a, fd, qs, k, hm, hk, hb, hr, F, har⟩ := g.fns f x hf
  obtain ⟨g1, g2, _⟩ := g.gl hg
  refine (pe_callS (E := WE Wx) F hr g1 hm hk hb (passAt g.tk) h g2 (form_star fm ps _) (hpl pos)).weak fun σ H Q ⟨H0, F, μ, Γ, st, sl, w, q⟩ => ?_
  have q : R.post (((evEs ax.C es Γ st).bind fun x => ax.C f x.1 x.2 : X3)) _ _ := q
  rw [R.post_bind] at q
  refine seqAs sl w (Step.refl F μ H) q fun x vs H1 F1 μ1 k s1 w1 rs sl1 s01 => ?_
  refine ⟨F1, μ1, x.2, x.1, w1, rs, Classical.byContradiction fun n => ?_, R.post_imp k (fun y k2 v H2 F2 μ2 s2 w2 r2 => k2 v H2 F2 μ2 (s01.trans s2) w2 (Res.back s1 r2)) fun c fs s2 h cls d H2 F2 μ2 s3 w3 x3 => h cls d H2 F2 μ2 (s01.trans s3) w3 x3⟩
  rw [har _ _ n] at k
  exact k
/-! ### slices -/
def rSl (ax : Ax) : V → Option Int → Option Int → Hp → VK → Prop := fun x lo hi H Q => ∃ F μ st t, Wd ax.fx F μ H st ∧ BRep ax.fx F μ H t x ∧ (cutT lo hi t).post (fun r => Want ax F μ H st r.1 r.2 Q) fun _ _ _ => True
theorem cut_eq {α : Type} (xs : List α) (lo hi : Option Int) : cutL xs ((lo.map (bdOf xs.length)).getD 0) ((hi.map (bdOf xs.length)).getD xs.length) = (xs.drop (HT.sIx xs.length 0 lo)).take (HT.sIx xs.length xs.length hi - HT.sIx xs.length 0 lo) := by
  have h1 : (lo.map (bdOf xs.length)).getD 0 = HT.sIx xs.length 0 lo := by cases lo <;> rfl
  have h2 : (hi.map (bdOf xs.length)).getD xs.length = HT.sIx xs.length xs.length hi := by cases hi <;> rfl
  rw [h1, h2]; rfl
theorem Reps.cut {fx : Fx} {F : Addr → Prop} {μ : List Addr} {H : Hp} {ts : List T} {vs : List V} (r : Reps fx F μ H ts vs) (lo hi : Option Int) :
    Reps fx F μ H (cutL ts ((lo.map (bdOf ts.length)).getD 0) ((hi.map (bdOf ts.length)).getD ts.length)) (cutV vs lo hi) := by
  rw [cut_eq]
  unfold cutV
  rw [r.len]
  exact (r.drop _).take _
theorem sl_all (b : Bx ax X) : SlR X (rSl ax) := by
  intro pins s σ H x v vl vu lo hi sl Q I rx hs pl pu h
  obtain ⟨F, μ, st, t, w, hx, hp⟩ := h
  cases t <;> first
    | exact hp.elim
    | skip
  · have hx0 := hx
    rw [brep_tup] at hx
    obtain ⟨a, vs, ex, ha, rs⟩ := hx
    refine sl_tupA pins s σ H x v vl vu lo hi sl Q I rx hs pl pu ⟨a, vs, ex, .inl (.inl ha), fun e => ?_, fun _ p n => finTup w hp (rs.cut lo hi) n⟩
    refine fin0 w hp ?_
    rw [rep_tup]
    refine ⟨a, vs, rfl, ha, ?_⟩
    have := rs.cut lo hi
    unfold cutV at this
    rw [e.1, e.2] at this
    simpa using this
  · obtain ⟨a, vs, ex, _, ha, rs⟩ := hx
    exact sl_list pins s σ H x v vl vu lo hi sl Q I rx hs pl pu ⟨a, vs, ex, .inl ha, fun p n => finLst w hp (rs.cut lo hi) n⟩
theorem snd_slTo (g : Gx ax X cc Wx) {a hi : E} {p q : Expr} {p2 pos : Pos} (ha : PE X p (tM ax Wx true a)) (hb : PE X q (tM ax Wx false hi)) : PE X (.Subscript p (.Slice none (some q) none p2) pos) (tM ax Wx false (.slTo a hi)) := by
  refine (pe_slice (sl_all g.bx) ha po_none (po_some hb)).weak fun σ H Q ⟨H0, F, μ, Γ, st, sl, w, q⟩ => ?_
  have q : R.post (((bor Γ st (evE ax.C a Γ st) a).bind fun x => (evE ax.C hi Γ x.2.2).bind fun y => match y.2.1 with | .int n => opR (cutT none (some n) x.2.1) y.2.2 | _ => .bad : X3)) _ _ := q
  rw [R.post_bind] at q
  refine seqE (m := true) sl w (Step.refl F μ H) q fun x v H1 F1 μ1 k s1 w1 r1 sl1 s01 => ?_
  rw [R.post_bind] at k
  refine seqE (m := false) sl1 w1 s01 k fun y u H2 F2 μ2 k s2 w2 r2 sl2 s02 => ?_
  obtain ⟨o, t, s⟩ := y
  cases t <;> first
    | exact k.elim
    | skip
  have r2 : BRep ax.fx F2 μ2 H2 (.int _) u := Res.b w2 r2
  rw [brep_int] at r2
  have r1 : BRep ax.fx F1 μ1 H1 x.2.1 v := r1
  exact ⟨_, r2, F2, μ2, s, x.2.1, w2, r1.step s2 w1, R.post_imp (opR_post k) (fun z h v H' F' μ' s' w' r' => h v H' F' μ' (s02.trans s') w' (Res.back s02 r')) fun _ _ _ h => h⟩
theorem snd_slFrom (g : Gx ax X cc Wx) {a lo : E} {p q : Expr} {p2 pos : Pos} (ha : PE X p (tM ax Wx true a)) (hb : PE X q (tM ax Wx false lo)) : PE X (.Subscript p (.Slice (some q) none none p2) pos) (tM ax Wx false (.slFrom a lo)) := by
  refine (pe_slice (sl_all g.bx) ha (po_some hb) po_none).weak fun σ H Q ⟨H0, F, μ, Γ, st, sl, w, q⟩ => ?_
  have q : R.post (((bor Γ st (evE ax.C a Γ st) a).bind fun x => (evE ax.C lo Γ x.2.2).bind fun y => match y.2.1 with | .int n => opR (cutT (some n) none x.2.1) y.2.2 | _ => .bad : X3)) _ _ := q
  rw [R.post_bind] at q
  refine seqE (m := true) sl w (Step.refl F μ H) q fun x v H1 F1 μ1 k s1 w1 r1 sl1 s01 => ?_
  rw [R.post_bind] at k
  refine seqE (m := false) sl1 w1 s01 k fun y u H2 F2 μ2 k s2 w2 r2 sl2 s02 => ?_
  obtain ⟨o, t, s⟩ := y
  cases t <;> first
    | exact k.elim
    | skip
  have r2 : BRep ax.fx F2 μ2 H2 (.int _) u := Res.b w2 r2
  rw [brep_int] at r2
  have r1 : BRep ax.fx F1 μ1 H1 x.2.1 v := r1
  exact ⟨_, r2, F2, μ2, s, x.2.1, w2, r1.step s2 w1, R.post_imp (opR_post k) (fun z h v H' F' μ' s' w' r' => h v H' F' μ' (s02.trans s') w' (Res.back s02 r')) fun _ _ _ h => h⟩
/-! ### calls of two and three -/
theorem c2_of (b : Bx ax X) {o : U2} {f : Str} (h : o.nm = some f) : (∃ id, bootBuiltins f = some (.builtin id) ∧ CallR X (.builtin id) (rC2 ax fun st => op2 st o)) ∧ f ∈ blt := by
  cases o <;> (first | (cases h; done) | skip) <;> cases h
  · exact ⟨⟨"max", by decide +kernel, c_max2 b⟩, by decide +kernel⟩
  · exact ⟨⟨"min", by decide +kernel, c_min2 b⟩, by decide +kernel⟩
theorem snd_call2 (g : Gx ax X cc Wx) {o : U2} {f : Str} {a b : E} {pa pb : Expr} {p pos : Pos} (hf : o.nm = some f) (hg : cc.gl f = true) (fa : okForm pa = true) (fb : okForm pb = true) (ha : PE X pa (tM ax Wx true a)) (hb : PE X pb (tM ax Wx true b)) :
    PE X (.Call (.Name f p) [pa, pb] [] pos) (tM ax Wx false (.b o a b)) := by
  obtain ⟨⟨id, hv, hc⟩, hm⟩ := c2_of g.bx hf
  obtain ⟨g1, g2, g3⟩ := g.gl hg
  have pa1 : PA X [pa, pb] (tCons (tM ax Wx true a) (tCons (tM ax Wx true b) tNil)) := pa_cons ha (pa_cons hb pa_nil (form_star fb [] _)) (form_star fa [pb] _)
  refine snd_op2 (r := fun x y H Q => rC2 ax (fun st => op2 st o) [x, y] H Q) ha hb (fun x y H Q h => ⟨x, y, rfl, h⟩) ?_
  exact (pe_callB hc g1 (g.free f hm) hv pa1 g3 g2 (form_star fa [pb] _) (by rw [form_star fb]; rfl)).weak fun σ H Q h => h
theorem max3_int (i j k : Int) : nuMax3 (.int i) (.int j) (.int k) = some (.int (maxI i [j, k])) := by
  have h2 : ∀ a b : Int, nuMax2 (.int a) (.int b) = some (.int (if a < b then b else a)) := fun a b => by
    show some (if decide (a < b) = true then V.int b else V.int a) = _
    by_cases c : a < b <;> simp [c]
  unfold nuMax3
  rw [h2, Option.bind_some, h2]
  rfl
theorem snd_max3 (g : Gx ax X cc Wx) {f : Str} {a b c : E} {pa pb pc : Expr} {p pos : Pos} (hf : f = "max") (hg : cc.gl f = true) (fa : okForm pa = true) (fb : okForm pb = true) (fc : okForm pc = true) (ha : PE X pa (tM ax Wx false a)) (hb : PE X pb (tM ax Wx false b)) (hc : PE X pc (tM ax Wx false c)) :
    PE X (.Call (.Name f p) [pa, pb, pc] [] pos) (tM ax Wx false (.max3 a b c)) := by
  obtain ⟨g1, g2, g3⟩ := g.gl hg
  have pa1 : PA X [pa, pb, pc] (tCons (tM ax Wx false a) (tCons (tM ax Wx false b) (tCons (tM ax Wx false c) tNil))) := pa_cons ha (pa_cons hb (pa_cons hc pa_nil (form_star fc [] _)) (form_star fb [pc] _)) (form_star fa [pb, pc] _)
  refine (pe_callB (call_max3Nu g.bx.calm) g1 (g.free f (by rw [hf]; decide +kernel)) (by rw [hf]; decide +kernel) pa1 g3 g2 (form_star fa [pb, pc] _) (by rw [form_star fb, form_star fc]; rfl)).weak fun σ H Q ⟨H0, F, μ, Γ, st, sl, w, q⟩ => ?_
  have q : R.post (((evE ax.C a Γ st).bind fun x => (evE ax.C b Γ x.2.2).bind fun y => (evE ax.C c Γ y.2.2).bind fun z => match x.2.1, y.2.1, z.2.1 with
    | .int i, .int j, .int k => .ok (false, .int (maxI i [j, k]), z.2.2)
    | _, _, _ => .bad : X3)) _ _ := q
  rw [R.post_bind] at q
  refine seqE (m := false) sl w (Step.refl F μ H) q fun x v1 H1 F1 μ1 k s1 w1 r1 sl1 s01 => ?_
  rw [R.post_bind] at k
  refine seqE (m := false) sl1 w1 s01 k fun y v2 H2 F2 μ2 k s2 w2 r2 sl2 s02 => ?_
  rw [R.post_bind] at k
  refine seqE (m := false) sl2 w2 s02 k fun z v3 H3 F3 μ3 k s3 w3 r3 sl3 s03 => ?_
  have r1 := Res.b w1 r1
  have r2 := Res.b w2 r2
  have r3 := Res.b w3 r3
  obtain ⟨o1, t1, z1⟩ := x
  obtain ⟨o2, t2, z2⟩ := y
  obtain ⟨o3, t3, z3⟩ := z
  dsimp only at r1 r2 r3 k
  cases t1 <;> first
    | exact k.elim
    | skip
  cases t2 <;> first
    | exact k.elim
    | skip
  cases t3 <;> first
    | exact k.elim
    | skip
  rw [brep_int] at r1 r2 r3
  subst r1 r2 r3
  exact ⟨_, _, _, _, rfl, max3_int _ _ _, k _ H3 F3 μ3 s03 w3 (ModeR.kn (by rw [rep_int]))⟩
/-! ### isinstance -/
theorem is_of (b : Bx ax X) {o : U1} {t : Str} (h : o.ty = some t) : ∃ T0, bootBuiltins t = some (.type T0) ∧ CallR X (.builtin "isinstance") (rIs ax T0 fun st => op1 st o) ∧ t ∈ blt := by
  cases o <;> (first | (cases h; done) | skip) <;> cases h
  · exact ⟨"int", by decide +kernel, c_isInt b, by decide +kernel⟩
  · exact ⟨"bool", by decide +kernel, c_isBool b, by decide +kernel⟩
  · exact ⟨"tuple", by decide +kernel, c_isTup b, by decide +kernel⟩
  · exact ⟨"str", by decide +kernel, c_isStr b, by decide +kernel⟩
theorem snd_is (g : Gx ax X cc Wx) {o : U1} {f t : Str} {a : E} {pa : Expr} {p p2 pos : Pos} (hf : f = "isinstance") (hg : cc.gl f = true) (ht : o.ty = some t) (hg2 : cc.gl t = true) (fa : okForm pa = true) (ha : PE X pa (tM ax Wx true a)) :
    PE X (.Call (.Name f p) [pa, .Name t p2] [] pos) (tM ax Wx false (.u o a)) := by
  obtain ⟨T0, hv, hc, hm⟩ := is_of g.bx ht
  obtain ⟨g1, g2, g3⟩ := g.gl hg
  obtain ⟨k1, k2, k3⟩ := g.gl hg2
  have pt : PE X (.Name t p2) (tC (.ty T0)) := pe_bltn k1 (g.free t hm) hv rfl k3 k2
  have pa1 : PA X [pa, .Name t p2] (tCons (tM ax Wx true a) (tCons (tC (.ty T0)) tNil)) := pa_cons ha (pa_cons pt pa_nil) (form_star fa [.Name t p2] _)
  refine snd_op1 (pa := pa) (r := fun x H Q => rIs ax T0 (fun st => op1 st o) [x, .ty T0] H Q) (fun x H Q h => ⟨x, rfl, h⟩) ?_
  exact (pe_callB hc g1 (g.free f (by rw [hf]; decide +kernel)) (by rw [hf]; decide +kernel) pa1 g3 g2 (form_star fa [.Name t p2] _)).weak fun σ H Q h => h
/-! ### not, minus -/
theorem snd_not {a : E} {pa : Expr} {pos : Pos} (ha : PE X pa (tM ax Wx true a)) : PE X (.UnaryOp .Not pa pos) (tM ax Wx false (.u .not a)) := by
  refine snd_op1 (pa := pa) (r := fun x H Q => ∃ c, x = .bl c ∧ Q (.bl (!c)) H) (fun x H Q ⟨F, μ, st, t, w, r, h⟩ => ?_) (pe_not ha)
  cases t <;> first
    | exact h.elim
    | skip
  rw [brep_bl] at r
  exact ⟨_, r, fin0 w h (by rw [rep_bl])⟩
theorem snd_neg {a : E} {pa : Expr} {pos : Pos} (ha : PE X pa (tM ax Wx true a)) : PE X (.UnaryOp .USub pa pos) (tM ax Wx false (.u .neg a)) := by
  refine snd_op1 (pa := pa) (r := rU fun i => .int (-i)) (fun x H Q ⟨F, μ, st, t, w, r, h⟩ => ?_) (pe_un un_neg ha)
  cases t <;> first
    | exact h.elim
    | skip
  rw [brep_int] at r
  exact ⟨_, r, fin0 w h (by rw [rep_int])⟩
/-! ### dicts -/
theorem snd_dK0 {pos : Pos} : PE X (.Dict [] [] pos) (tM ax Wx false .dK0) := pe_dnewK.weak fun σ H Q ⟨H0, F, μ, Γ, st, sl, w, q⟩ => by
  have q : R.post (.ok (true, .dK [] [], st) : X3) _ _ := q
  intro p n
  exact q _ _ F μ (Step.lay n) (w.lay n) (Res.own ⟨p, [], rfl, fun f => w.ft p f n, w.fresh n, upd_same, rfl, Reps.nil⟩ ⟨p, rfl, n⟩)
theorem snd_dT0 {pos : Pos} : PE X (.Dict [] [] pos) (tM ax Wx false .dT0) := pe_dnewT.weak fun σ H Q ⟨H0, F, μ, Γ, st, sl, w, q⟩ => by
  have q : R.post (.ok (true, .dT [] [], st) : X3) _ _ := q
  intro p n
  exact q _ _ F μ (Step.lay n) (w.lay n) (Res.own ⟨p, [], rfl, fun f => w.ft p f n, w.fresh n, upd_same, rfl, Reps.nil⟩ ⟨p, rfl, n⟩)
theorem snd_get (g : Gx ax X cc Wx) {d k z : E} {o p q : Expr} {apos cpos : Pos} (hl : (apos.endLine == cpos.line) = true) (fo : isNm o = true) (fp : okForm p = true) (fq : okForm q = true)
    (hd : PE X o (tM ax Wx true d)) (hk : PE X p (tM ax Wx false k)) (hz : PE X q (tM ax Wx false z)) : PE X (.Call (.Attribute o "get" apos) [p, q] [] cpos) (tM ax Wx false (.get d k z)) := by
  have m : M2 X o "get" apos p q cpos := ⟨(by cases o <;> first | rfl | (cases fo)), by rw [form_star fp, form_star fq]; rfl, hl, by rw [form_star fp, form_star fq]; rfl⟩
  refine (pe_dget2 g.bx.u1 hd hk hz m).weak fun σ H Q ⟨H0, F, μ, Γ, st, sl, w, q⟩ => ?_
  have q : R.post (((bor Γ st (evE ax.C d Γ st) d).bind fun x => if isD x.2.1 = true then (evE ax.C k Γ x.2.2).bind fun y => (evE ax.C z Γ y.2.2).bind fun w => match getOf x.2.1 y.2.1 with
    | some o => .ok (false, o.getD w.2.1, w.2.2)
    | none => .bad
    else .bad : X3)) _ _ := q
  rw [R.post_bind] at q
  refine seqE (m := true) sl w (Step.refl F μ H) q fun x v H1 F1 μ1 k s1 w1 r1 sl1 s01 => ?_
  replace r1 : BRep ax.fx F1 μ1 H1 x.2.1 v := r1
  split at k
  · rename_i hd
    rw [R.post_bind] at k
    obtain ⟨a, ev, hI⟩ : ∃ a, v = .ref a ∧ IsD H1 a := by
      cases e : x.2.1 with
      | dK ks ts => rw [e] at r1; obtain ⟨a, ws, ev, _, h, _⟩ := r1; exact ⟨a, ev, .inl ⟨ws, h⟩⟩
      | dT ks ts => rw [e] at r1; obtain ⟨a, ws, ev, _, h, _⟩ := r1; exact ⟨a, ev, .inr ⟨ws, h⟩⟩
      | _ => rw [e] at hd; cases hd
    refine ⟨a, ev, hI, ?_⟩
    refine seqE (m := false) sl1 w1 s01 k fun y u H2 F2 μ2 k s2 w2 r2 sl2 s02 => ?_
    rw [R.post_bind] at k
    obtain ⟨G, sG, wG, rG, slG, kG⟩ := known_sl sl1 w1 s01 s2 w2 r2
    have b2 := (r1.step s2 w1).kpF kG
    refine seqE (m := false) slG wG sG k fun c u2 H3 F3 μ3 k s3 w3 r3 sl3 s03 => ?_
    obtain ⟨G3, sG3, wG3, rG3, slG3, kG3⟩ := known_sl slG wG sG s3 w3 r3
    have b3 := (b2.step s3 wG).kpF kG3
    have y3 := Rep.kp kG3 _ _ (Rep.kp (s3.kp wG) _ _ rG)
    have fin : ∀ {t : T}, getOf x.2.1 y.2.1 = some (some t) → ∀ {v}, Rep ax.fx G3 μ3 H3 t v → Q v H3 := fun {t} e {v} r => by
      rw [e] at k
      exact k v H3 G3 μ3 sG3 wG3 (ModeR.kn r)
    have fin2 : getOf x.2.1 y.2.1 = some none → Q u2 H3 := fun e => by
      rw [e] at k
      exact k u2 H3 G3 μ3 sG3 wG3 (ModeR.kn rG3)
    have fin3 : ∀ {o : Option V} {to : Option T}, getOf x.2.1 y.2.1 = some to → (match to with | some t => ∃ v, o = some v ∧ Rep ax.fx G3 μ3 H3 t v | none => o = none) → Q (o.getD u2) H3 := fun {o to} e m => by
      cases to with
      | none => rw [show o = none from m]; exact fin2 e
      | some t => obtain ⟨v, ho, r⟩ := m; rw [ho]; exact fin e r
    cases ex : x.2.1 with
    | dK ks ts =>
      rw [ex] at b3
      cases ek : kyOf y.2.1 with
      | none => rw [ex] at k; simp only [getOf, ek, Option.map_none] at k; exact k.elim
      | some ky =>
        obtain ⟨a', o, ev', g', m'⟩ := dget_K g.bx ek y3 b3
        rw [ev] at ev'; cases ev'
        exact ⟨o, g', fin3 (by rw [ex]; simp only [getOf, ek, Option.map_some]) m'⟩
    | dT ks ts =>
      rw [ex] at b3
      cases ey : y.2.1 with
      | tup us =>
        rw [ey] at y3
        cases ek : kysOf us with
        | none => rw [ex, ey] at k; simp only [getOf, ek, Option.map_none] at k; exact k.elim
        | some ky =>
          obtain ⟨a', o, ev', g', m'⟩ := dget_T g.bx ek y3 b3
          rw [ev] at ev'; cases ev'
          exact ⟨o, g', fin3 (by rw [ex, ey]; simp only [getOf, ek, Option.map_some]) m'⟩
      | _ => rw [ex, ey] at k; exact k.elim
    | _ => rw [ex] at hd; cases hd
  · exact k.elim
theorem snd_dK1 {k e : E} {p q : Expr} {pos : Pos} (hk : PE X p (tM ax Wx false k)) (he : PE X q (tM ax Wx false e)) : PE X (.Dict [some p] [q] pos) (tM ax Wx false (.dK1 k e)) := by
  refine (pe_disp (pps_cons hk he pps_nil) rfl rfl (by simp) (by simp)).weak fun σ H Q ⟨H0, F, μ, Γ, st, sl, w, q⟩ => ?_
  have q : R.post (((evE ax.C k Γ st).bind fun x => (evE ax.C e Γ x.2.2).bind fun y => match kyOf x.2.1 with
    | some k => .ok (true, .dK [k] [y.2.1], y.2.2)
    | none => .bad : X3)) _ _ := q
  rw [R.post_bind] at q
  intro p n
  have sP := Step.lay (F := F) (μ := μ) (o := .dK []) n
  have wP := w.lay (o := .dK []) n
  have slP := sl.step sP w
  refine ⟨H0, F, μ, Γ, st, slP, wP, R.post_imp q (fun x k v H1 F1 μ1 s1 w1 r1 => ?_) fun _ _ _ h => h.step sP⟩
  rw [R.post_bind] at k
  obtain ⟨G, sG, wG, rG, slG, _⟩ := known_sl slP wP (Step.refl _ _ _) s1 w1 r1
  have slG' := slG
  refine ⟨H0, G, μ1, Γ, x.2.2, slG, wG, R.post_imp k (fun y k v2 H2 F2 μ2 s2 w2 r2 => ?_) fun _ _ _ h => h.step (sP.trans sG)⟩
  obtain ⟨G2, sG2, wG2, rG2, slG2, kG2⟩ := known_sl slG wG sG s2 w2 r2
  have x2 := Rep.kp kG2 _ _ (Rep.kp (s2.kp wG) _ _ rG)
  have s02 := sP.trans sG2
  have hp : H2 p = some (.dK []) := sG2.fr p _ upd_same (w.fresh n)
  have np : ¬ G2 p := fun f => by
    rcases sG2.new p f with z | z
    · exact w.ft p z n
    · rw [upd_same] at z; cases z
  have pm : p ∉ μ2 := (sG2.rd (w.fresh n) (.inl upd_same)).2
  cases ek : kyOf x.2.1 with
  | none => rw [ek] at k; exact k.elim
  | some ky =>
    rw [ek] at k
    obtain ⟨key, rk, ev⟩ := kyOf_rep ek x2
    refine ⟨hp, [(key, v2)], by rw [ev]; rfl, by simp, ?_⟩
    have kk : Kp G2 μ2 H2 G2 μ2 (upd H2 p (.dK (mergeK [] [(key, v2)]))) := ⟨fun _ h => h, ⟨[], (List.append_nil _).symm⟩, fun b xs h => by rw [upd_ne (ne_of h hp fun z => nomatch z)]; exact h, fun b o xs h => by rw [upd_ne (ne_of h hp fun z => nomatch z)]; exact h, fun b u _ f h => by
      have nb : b ≠ p := fun z => np (z ▸ f)
      unfold Rd at h ⊢
      rw [upd_ne nb]
      exact h⟩
    refine k _ _ G2 μ2 ⟨fun b o h m => ?_, s02.sub, s02.new, s02.cells, fun b h => ?_⟩ (wG2.kp kk wG2.nf (fun a f => upd_live (wG2.ft a f)) fun a m o h => by rw [upd_ne (show a ≠ p from fun z => pm (by rw [← z]; exact m))]; exact h) (Res.own ⟨p, [(key, v2)], rfl, np, pm, upd_same, ⟨key, [], rfl, rk, rfl⟩, Reps.kp kk _ _ (Reps.cons rG2 Reps.nil)⟩ ⟨p, rfl, n⟩)
    · rw [upd_ne (ne_of_none h n)]
      exact s02.fr b o h m
    · by_cases e : b = p
      · rw [e]; exact n
      · rw [upd_ne e] at h; exact s02.live b h
theorem snd_rng (g : Gx ax X cc Wx) {f h : Str} {a : E} {pa : Expr} {p1 p2 p3 pos : Pos} (hf : f = "list") (hg : cc.gl f = true) (hf2 : h = "range") (hg2 : cc.gl h = true) (fa : okForm pa = true) (ha : PE X pa (tM ax Wx false a)) :
    PE X (.Call (.Name f p1) [.Call (.Name h p2) [pa] [] p3] [] pos) (tM ax Wx false (.rng a)) := by
  obtain ⟨g1, g2, g3⟩ := g.gl hg
  obtain ⟨k1, k2, k3⟩ := g.gl hg2
  subst hf hf2
  refine (pe_listRg g.bx.calm g1 (g.free _ (by decide +kernel)) (prg_1 k1 (g.free _ (by decide +kernel)) ha (form_star fa [] _))).weak fun σ H Q ⟨H0, F, μ, Γ, st, sl, w, q⟩ => ?_
  have q : R.post (((evE ax.C a Γ st).bind fun x => match x.2.1 with
    | .int n => if 0 ≤ n ∧ n ≤ (SZ : Int) then .ok (true, .lst (rangeT 0 n.toNat), x.2.2) else .bad
    | _ => .bad : X3)) _ _ := q
  rw [R.post_bind] at q
  refine seqE (m := false) sl w (Step.refl F μ H) q fun x v H1 F1 μ1 k s1 w1 r1 sl1 s01 => ?_
  replace r1 := Res.b w1 r1
  obtain ⟨o, t, s⟩ := x
  dsimp only at r1 k
  cases t <;> first
    | exact k.elim
    | skip
  rename_i n
  rw [brep_int] at r1
  dsimp only at k
  split at k
  · rename_i hz
    refine ⟨n, r1, .of_le (Int.le_refl _) hz.2 (by decide) hz.1, fun p np => ?_⟩
    have rr : Reps ax.fx F1 μ1 H1 (rangeT 0 n.toNat) (rgV 0 n) := by
      unfold rangeT rgV
      rw [show (n - 0).toNat = n.toNat by rw [Int.sub_zero]]
      generalize List.range n.toNat = l
      induction l with
      | nil => exact Reps.nil
      | cons i l ih => rw [List.map_cons, List.map_cons]; exact Reps.cons (by rw [rep_int]) ih
    exact k _ _ F1 μ1 (s01.trans (Step.lay np)) (w1.lay np) (Res.own ⟨p, _, rfl, fun f => w1.ft p f np, w1.fresh np, upd_same, Reps.kp ((Step.lay np).kp w1) _ _ rr⟩ ⟨p, rfl, s1.live p np⟩)
  · exact k.elim
end
end Ev
end

section
set_option autoImplicit false
set_option linter.all false
set_option maxRecDepth 100000
set_option maxHeartbeats 1000000
/-! EvK: tests; what is walked. -/
namespace Ev
open PySem PySem.Spec PyProof.Rows L2
theorem _root_.L2.PI.weak {X : Cx} {tg e : Expr} {t t' : TI} (h : PI X tg e t) (w : ∀ σ H R, t' σ H R → t σ H R) : PI X tg e t' := ⟨fun pins s σ H R I q => h.run pins s σ H R I (w σ H R q)⟩
theorem _root_.L2.PI.or {X : Cx} {tg e : Expr} {t t' : TI} (h : PI X tg e t) (h' : PI X tg e t') : PI X tg e (fun σ H R => t σ H R ∨ t' σ H R) := ⟨fun pins s σ H R I q => q.elim (h.run pins s σ H R I) (h'.run pins s σ H R I)⟩
theorem _root_.L2.PW.weak {X : Cx} {e : Expr} {t t' : TT} (h : PW X e t) (w : ∀ σ H Q, t' σ H Q → t σ H Q) : PW X e t' := ⟨fun wh pins s σ H Q I q => h.run wh pins s σ H Q I (w σ H Q q)⟩

section
variable {ax : Ax} {X : Cx} {cc : Cc} {Wx : WX}
/-! ### tests -/
theorem pt_def {e : E} {py : Expr} (p : PE X py (tM ax Wx false e)) (he : ∀ whole, isTrue py X.env whole = (do let v ← whole; standAt py.pos; holding [v] (truthy v))) : PT X py (tT ax Wx e) :=
  (pt_val p he).weak fun σ H Q ⟨H0, F, μ, Γ, st, sl, w, q⟩ => seqB sl w (Step.refl F μ H) q fun x H1 F1 μ1 k s1 w1 sl1 s01 => ⟨x.1, rfl, k H1 F1 μ1 s01 w1⟩
theorem pt_o2 (g : Gx ax X cc Wx) {o : U2} {op : CmpOp} {a b : E} {p q : Expr} {pos : Pos} (h : o.cmp = some op) (fq : okForm q = true) (ha : PE X p (tM ax Wx true a)) (hb : PE X q (tM ax Wx true b)) : PT X (.Compare p [op] [q] pos) (tT ax Wx (.b o a b)) := by
  refine (pt_cmpR (o2_cmp g.bx h) ha hb (form_beh fq op)).weak fun σ H Q ⟨H0, F, μ, Γ, st, sl, w, q⟩ => ?_
  refine seqE sl w (Step.refl F μ H) (post_b (post_boolR q)) fun x v H1 F1 μ1 k s1 w1 r1 sl1 s01 => ?_
  refine seqE sl1 w1 s01 k fun y u H2 F2 μ2 k s2 w2 r2 sl2 s02 => ?_
  refine ⟨F2, μ2, y.2.2, x.2.1, y.2.1, w2, BRep.step s2 w1 r1, r2, R.post_imp (opR_post k) (fun z hz v3 H3 F3 μ3 s3 w3 r3 => ?_) fun _ _ _ h => h⟩
  obtain ⟨k3, e3, hz⟩ := hz
  have e3 : z.2 = .bl k3 := e3
  have r3 := Res.b w3 r3
  rw [e3, brep_bl] at r3
  subst r3
  exact ⟨k3, rfl, hz H3 F3 μ3 (s02.trans s3) w3⟩
theorem post_and {a b : E} {Γ : Env} {st : St} {K : (Bool × St) → Prop} {x : Nat → List T → St → Prop} (h : (boolR (evE ax.C (.and a b) Γ st)).post K x) :
    (boolR (evE ax.C a Γ st)).post (fun y => if y.1 = true then (boolR (evE ax.C b Γ y.2)).post K x else K (false, y.2)) x := by
  have h := post_boolR h
  have h : R.post (((boolR (evE ax.C a Γ st)).bind fun x => if x.1 = true then (boolR (evE ax.C b Γ x.2)).bind fun y => .ok (false, .bl y.1, y.2) else .ok (false, .bl false, x.2) : X3)) _ _ := h
  rw [R.post_bind] at h
  refine R.post_imp h (fun y k => ?_) fun _ _ _ h => h
  split at k
  · rename_i c
    rw [if_pos c]
    rw [R.post_bind] at k
    refine R.post_imp k (fun z k => ?_) fun _ _ _ h => h
    obtain ⟨b, e, k⟩ := k
    cases e
    exact k
  · rename_i c
    rw [if_neg c]
    obtain ⟨b, e, k⟩ := k
    cases e
    exact k
theorem post_or {a b : E} {Γ : Env} {st : St} {K : (Bool × St) → Prop} {x : Nat → List T → St → Prop} (h : (boolR (evE ax.C (.or a b) Γ st)).post K x) :
    (boolR (evE ax.C a Γ st)).post (fun y => if y.1 = true then K (true, y.2) else (boolR (evE ax.C b Γ y.2)).post K x) x := by
  have h := post_boolR h
  have h : R.post (((boolR (evE ax.C a Γ st)).bind fun x => if x.1 = true then .ok (false, .bl true, x.2) else (boolR (evE ax.C b Γ x.2)).bind fun y => .ok (false, .bl y.1, y.2) : X3)) _ _ := h
  rw [R.post_bind] at h
  refine R.post_imp h (fun y k => ?_) fun _ _ _ h => h
  split at k
  · rename_i c
    rw [if_pos c]
    obtain ⟨b, e, k⟩ := k
    cases e
    exact k
  · rename_i c
    rw [if_neg c]
    rw [R.post_bind] at k
    refine R.post_imp k (fun z k => ?_) fun _ _ _ h => h
    obtain ⟨b, e, k⟩ := k
    cases e
    exact k
theorem pw_andE {a b : E} {p q : Expr} {rest : List Expr} {pos : Pos} (ha : PT X p (tT ax Wx a)) (hb : PW X (.BoolOp .And (q :: rest) pos) (tT ax Wx b)) : PW X (.BoolOp .And (p :: q :: rest) pos) (tT ax Wx (.and a b)) :=
  (pw_and ha hb).weak fun σ H Q ⟨H0, F, μ, Γ, st, sl, w, q⟩ => seqT sl w (Step.refl F μ H) (post_and q) fun x H1 F1 μ1 k s1 w1 sl1 s01 => by
    split at k
    · rename_i c
      rw [if_pos c]
      exact seqT sl1 w1 s01 k fun y H2 F2 μ2 k s2 w2 sl2 s02 => k H2 F2 μ2 s02 w2
    · rename_i c
      rw [if_neg c]
      exact k H1 F1 μ1 s01 w1
theorem pw_orE {a b : E} {p q : Expr} {rest : List Expr} {pos : Pos} (ha : PT X p (tT ax Wx a)) (hb : PW X (.BoolOp .Or (q :: rest) pos) (tT ax Wx b)) : PW X (.BoolOp .Or (p :: q :: rest) pos) (tT ax Wx (.or a b)) :=
  (pw_or ha hb).weak fun σ H Q ⟨H0, F, μ, Γ, st, sl, w, q⟩ => seqT sl w (Step.refl F μ H) (post_or q) fun x H1 F1 μ1 k s1 w1 sl1 s01 => by
    split at k
    · rename_i c
      rw [if_pos c]
      exact k H1 F1 μ1 s01 w1
    · rename_i c
      rw [if_neg c]
      exact seqT sl1 w1 s01 k fun y H2 F2 μ2 k s2 w2 sl2 s02 => k H2 F2 μ2 s02 w2
theorem pt_notE {a : E} {p : Expr} {pos : Pos} (ha : PT X p (tT ax Wx a)) : PT X (.UnaryOp .Not p pos) (tT ax Wx (.u .not a)) := by
  refine (pt_not ha).weak fun σ H Q ⟨H0, F, μ, Γ, st, sl, w, q⟩ => ?_
  have q := post_u (post_boolR q)
  have q : (evM ax true a Γ st).post (fun y => ∃ c, y.2.1 = .bl c ∧ ∀ H' F' μ', Step F μ H F' μ' H' → Wd ax.fx F' μ' H' y.2.2 → Q (!c) H') (exk ax Wx F μ H σ) := R.post_imp q (fun y k => by
    obtain ⟨o, t, s⟩ := y
    cases t <;> first
      | exact k.elim
      | skip
    obtain ⟨c, e, k⟩ := k
    cases e
    exact ⟨_, rfl, k⟩) fun _ _ _ h => h
  have q : (evE ax.C a Γ st).post (fun y => ∃ c, y.2.1 = .bl c ∧ ∀ H' F' μ', Step F μ H F' μ' H' → Wd ax.fx F' μ' H' y.2.2 → Q (!c) H') (exk ax Wx F μ H σ) := by
    cases a with
    | v i =>
      have q : R.post (match rd Γ i with | some t => .ok (false, t, st) | none => .bad : X3) _ _ := q
      show R.post (match rdF Γ i with | some t => .ok (false, t, st) | none => .bad : X3) _ _
      unfold rd at q
      unfold rdF
      rcases h : Γ[i]? with _ | (_ | ⟨o, t⟩)
      · rw [h] at q; exact q.elim
      · rw [h] at q; exact q.elim
      · rw [h] at q
        cases o with
        | false => exact q
        | true =>
          obtain ⟨c, ec, _⟩ := q
          obtain ⟨v, _, r, _⟩ := sl.ow i t h
          have ec : t = .bl c := ec
          rw [ec] at r
          exact r.elim
    | _ => exact q
  refine seqT sl w (Step.refl F μ H) (K := fun y => ∀ H' F' μ', Step F μ H F' μ' H' → Wd ax.fx F' μ' H' y.2 → Q (!y.1) H') ?_ fun x H1 F1 μ1 k s1 w1 sl1 s01 => k H1 F1 μ1 s01 w1
  unfold boolR
  rw [R.post_bind]
  refine R.post_imp q (fun y k => ?_) fun _ _ _ h => h
  obtain ⟨o, t, s⟩ := y
  obtain ⟨c, e, k⟩ := k
  cases e
  exact k
theorem pt_chainE (g : Gx ax X cc Wx) {o o' : U2} {op op' : CmpOp} {a b c : E} {p q r : Expr} {pos : Pos} (h1 : o.cmp = some op) (h2 : o'.cmp = some op') (fr : okForm r = true)
    (ha : PE X p (tM ax Wx false a)) (hb : PE X q (tM ax Wx false b)) (hc : PE X r (tM ax Wx false c)) : PT X (.Compare p [op, op'] [q, r] pos) (tT ax Wx (.chain o o' a b c)) := by
  refine (pt_chain (o2_cmp g.bx h1) (o2_cmp g.bx h2) ha hb hc (form_beh fr op')).weak fun σ H Q ⟨H0, F, μ, Γ, st, sl, w, q⟩ => ?_
  have q := post_boolR q
  have q : R.post (((evE ax.C a Γ st).bind fun x => (evE ax.C b Γ x.2.2).bind fun y => (boolR (opR (op2 y.2.2 o x.2.1 y.2.1) y.2.2)).bind fun k =>
    if k.1 = true then (evE ax.C c Γ k.2).bind fun z => opR (op2 z.2.2 o' y.2.1 z.2.1) z.2.2 else .ok (false, .bl false, k.2) : X3)) _ _ := q
  rw [R.post_bind] at q
  refine seqE (m := false) sl w (Step.refl F μ H) q fun x v H1 F1 μ1 k s1 w1 r1 sl1 s01 => ?_
  rw [R.post_bind] at k
  refine seqE (m := false) sl1 w1 s01 k fun y u H2 F2 μ2 k s2 w2 r2 sl2 s02 => ?_
  rw [R.post_bind] at k
  have b2 := Res.b w2 r2
  refine ⟨F2, μ2, y.2.2, x.2.1, y.2.1, w2, (Res.b w1 r1).step s2 w1, b2, R.post_imp (opR_post (post_boolR k)) (fun z hz v3 H3 F3 μ3 s3 w3 r3 => ?_) fun _ _ _ h => h⟩
  obtain ⟨k3, e3, hz⟩ := hz
  have e3 : z.2 = .bl k3 := e3
  have r3 := Res.b w3 r3
  rw [e3, brep_bl] at r3
  subst r3
  refine ⟨k3, rfl, ?_⟩
  have sl3 := sl2.step s3 w2
  split
  · rename_i d
    have d : k3 = true := d
    rw [if_pos d, R.post_bind] at hz
    refine seqE (m := false) sl3 w3 (s02.trans s3) hz fun z v4 H4 F4 μ4 k s4 w4 r4 sl4 s04 => ?_
    refine ⟨F4, μ4, z.2.2, y.2.1, z.2.1, w4, (b2.step s3 w2).step s4 w3, Res.b w4 r4, R.post_imp (opR_post k) (fun z hz v5 H5 F5 μ5 s5 w5 r5 => ?_) fun _ _ _ h => h⟩
    obtain ⟨k5, e5, hz⟩ := hz
    have e5 : z.2 = .bl k5 := e5
    have r5 := Res.b w5 r5
    rw [e5, brep_bl] at r5
    subst r5
    exact ⟨k5, rfl, hz H5 F5 μ5 (s04.trans s5) w5⟩
  · rename_i d
    have d : ¬ k3 = true := d
    rw [if_neg d] at hz
    obtain ⟨b, e, hz⟩ := hz
    cases e
    exact ⟨false, rfl, hz H3 F3 μ3 (s02.trans s3) w3⟩
def tIfT (tc ta tb : TT) : TT := fun σ H Q => tc σ H fun d H1 => if d = true then ta σ H1 Q else tb σ H1 Q
theorem pt_if0 {c a b : Expr} {pos : Pos} {tc ta tb : TT} (hc : PT X c tc) (ha : PT X a ta) (hb : PT X b tb) : PT X (.IfExp c a b pos) (tIfT tc ta tb) := by
  refine ⟨fun pins s σ H Q I h => ?_⟩
  show wpAny _ _ (do if ← isTrue c X.env (eval c X.env) then isTrue a X.env (eval a X.env) else isTrue b X.env (eval b X.env)) _ _ _
  refine wpAny_bind (thn (hc.run pins s σ H _ I h) fun d s1 ⟨H1, I1, q1⟩ => ?_)
  cases d with
  | true => exact ha.run pins s1 σ H1 Q I1 q1
  | false => exact hb.run pins s1 σ H1 Q I1 q1
theorem pt_iteE {c a b : E} {pc pa pb : Expr} {pos : Pos} (hc : PT X pc (tT ax Wx c)) (ha : PT X pa (tT ax Wx a)) (hb : PT X pb (tT ax Wx b)) : PT X (.IfExp pc pa pb pos) (tT ax Wx (.ite c a b)) := by
  refine (pt_if0 hc ha hb).weak fun σ H Q ⟨H0, F, μ, Γ, st, sl, w, q⟩ => ?_
  have q := post_boolR q
  have q : R.post (((boolR (evE ax.C c Γ st)).bind fun x => if x.1 = true then evE ax.C a Γ x.2 else evE ax.C b Γ x.2 : X3)) _ _ := q
  rw [R.post_bind] at q
  have back : ∀ {e : E} {Γ : Env} {st : St} {K : (Bool × St) → Prop} {x : Nat → List T → St → Prop}, (evE ax.C e Γ st).post (fun y => ∃ b, y.2.1 = .bl b ∧ K (b, y.2.2)) x → (boolR (evE ax.C e Γ st)).post K x := fun {e Γ st K x} h => by
    unfold boolR
    rw [R.post_bind]
    refine R.post_imp h (fun y k => ?_) fun _ _ _ h => h
    obtain ⟨o, t, s⟩ := y
    obtain ⟨b, e, k⟩ := k
    cases e
    exact k
  refine seqT sl w (Step.refl F μ H) q fun x H1 F1 μ1 k s1 w1 sl1 s01 => ?_
  split at k
  · rename_i d
    rw [if_pos d]
    exact seqT sl1 w1 s01 (K := fun y => ∀ H' F' μ', Step F μ H F' μ' H' → Wd ax.fx F' μ' H' y.2 → Q y.1 H') (back k) fun y H2 F2 μ2 k s2 w2 sl2 s02 => k H2 F2 μ2 s02 w2
  · rename_i d
    rw [if_neg d]
    exact seqT sl1 w1 s01 (K := fun y => ∀ H' F' μ', Step F μ H F' μ' H' → Wd ax.fx F' μ' H' y.2 → Q y.1 H') (back k) fun y H2 F2 μ2 k s2 w2 sl2 s02 => k H2 F2 μ2 s02 w2
end
end Ev
end

section
set_option autoImplicit false
set_option linter.all false
set_option maxRecDepth 100000
set_option maxHeartbeats 1000000
/-! EvL: targets; what is walked. -/
namespace Ev
open PySem PySem.Spec PyProof.Rows L2
theorem _root_.L2.PG.weak {X : Cx} {e : Expr} {t t' : TG} (h : PG X e t) (w : ∀ v σ H Q, t' v σ H Q → t v σ H Q) : PG X e t' := ⟨fun pins s σ H v u Q I r q => h.run pins s σ H v u Q I r (w v σ H Q q)⟩
theorem _root_.L2.PGs.weak {X : Cx} {e : List Expr} {t t' : TGs} (h : PGs X e t) (w : ∀ v σ H Q, t' v σ H Q → t v σ H Q) : PGs X e t' := ⟨fun pins s σ H v u Q I r q => h.run pins s σ H v u Q I r (w v σ H Q q)⟩

/-! ### slots set, slots wiped -/
section
variable {fx : Fx} {H0 : Hp} {F : Addr → Prop} {μ : List Addr} {Γ : Env} {σ : L2.St} {H : Hp} {st : St}
theorem Sl.set_kn (s : Sl fx H0 F μ Γ σ H) (i : Nat) {t : T} {v : V} (r : Rep fx F μ H t v) : Sl fx H0 F μ (Γ.set i (some (false, t))) (σ.set i (some v)) H where
  len := by rw [List.length_set, List.length_set, s.len]
  kn := fun j u h => by
    by_cases e : i = j
    · subst e
      have hl : i < Γ.length := by
        have := (List.getElem?_eq_some_iff.mp h).1
        rwa [List.length_set] at this
      rw [List.getElem?_set_self hl] at h
      cases h
      exact ⟨v, List.getElem?_set_self (by rw [← s.len]; exact hl), r⟩
    · rw [List.getElem?_set_ne e] at h ⊢
      exact s.kn j u h
  ow := fun j u h => by
    by_cases e : i = j
    · subst e
      have hl : i < Γ.length := by
        have := (List.getElem?_eq_some_iff.mp h).1
        rwa [List.length_set] at this
      rw [List.getElem?_set_self hl] at h
      cases h
    · rw [List.getElem?_set_ne e] at h ⊢
      exact s.ow j u h
  ap := fun j k t1 t2 w n h1 h2 h3 h4 => by
    have nj : i ≠ j := fun e => by
      subst e
      have hl : i < Γ.length := by
        have := (List.getElem?_eq_some_iff.mp h1).1
        rwa [List.length_set] at this
      rw [List.getElem?_set_self hl] at h1
      cases h1
    have nk : i ≠ k := fun e => by
      subst e
      have hl : i < Γ.length := by
        have := (List.getElem?_eq_some_iff.mp h2).1
        rwa [List.length_set] at this
      rw [List.getElem?_set_self hl] at h2
      cases h2
    rw [List.getElem?_set_ne nj] at h1 h3
    rw [List.getElem?_set_ne nk] at h2 h4
    exact s.ap j k t1 t2 w n h1 h2 h3 h4
theorem Sl.set_none (s : Sl fx H0 F μ Γ σ H) (i : Nat) : Sl fx H0 F μ (Γ.set i none) (σ.set i none) H where
  len := by rw [List.length_set, List.length_set, s.len]
  kn := fun j u h => by
    by_cases e : i = j
    · subst e
      have hl : i < Γ.length := by
        have := (List.getElem?_eq_some_iff.mp h).1
        rwa [List.length_set] at this
      rw [List.getElem?_set_self hl] at h
      cases h
    · rw [List.getElem?_set_ne e] at h ⊢
      exact s.kn j u h
  ow := fun j u h => by
    by_cases e : i = j
    · subst e
      have hl : i < Γ.length := by
        have := (List.getElem?_eq_some_iff.mp h).1
        rwa [List.length_set] at this
      rw [List.getElem?_set_self hl] at h
      cases h
    · rw [List.getElem?_set_ne e] at h ⊢
      exact s.ow j u h
  ap := fun j k t1 t2 w n h1 h2 h3 h4 => by
    have nj : i ≠ j := fun e => by
      subst e
      have hl : i < Γ.length := by
        have := (List.getElem?_eq_some_iff.mp h1).1
        rwa [List.length_set] at this
      rw [List.getElem?_set_self hl] at h1
      cases h1
    have nk : i ≠ k := fun e => by
      subst e
      have hl : i < Γ.length := by
        have := (List.getElem?_eq_some_iff.mp h2).1
        rwa [List.length_set] at this
      rw [List.getElem?_set_self hl] at h2
      cases h2
    rw [List.getElem?_set_ne nj] at h1 h3
    rw [List.getElem?_set_ne nk] at h2 h4
    exact s.ap j k t1 t2 w n h1 h2 h3 h4
theorem Sl.wipe : ∀ (vs : List Nat), Sl fx H0 F μ Γ σ H → Sl fx H0 F μ (Ev.wipe Γ vs) (L2.wipe σ vs) H
  | [], s => s
  | v :: vs, s => (Sl.wipe vs s).set_none v
theorem wipe_at : ∀ (vs : List Nat) (σ : L2.St) (i : Nat), i ∈ vs → (L2.wipe σ vs)[i]? = if i < σ.length then some none else none
  | v :: vs, σ, i, h => by
    unfold L2.wipe
    by_cases e : v = i
    · subst e
      split
      · rw [List.getElem?_set_self (by rw [L2.wipe_length]; assumption)]
      · exact List.getElem?_eq_none (by rw [List.length_set, L2.wipe_length]; omega)
    · rw [List.getElem?_set_ne e]
      exact wipe_at vs σ i ((List.mem_cons.mp h).resolve_left fun z => e z.symm)
theorem wipe_set (vs : List Nat) (σ : L2.St) (i : Nat) (x : Option V) (h : i ∈ vs) : L2.wipe (σ.set i x) vs = L2.wipe σ vs := by
  refine List.ext_getElem? fun j => ?_
  by_cases hj : j ∈ vs
  · rw [wipe_at vs _ j hj, wipe_at vs _ j hj, List.length_set]
  · rw [L2.wipe_out hj, L2.wipe_out hj, List.getElem?_set_ne fun z => hj (by rw [← z]; exact h)]
end

section
variable {ax : Ax} {X : Cx} {cc : Cc} {Wx : WX}
/-! ### targets -/
/-- the own slots are among the own slots of before -/
def OwnS (Γ : Env) (σ : L2.St) (Γ1 : Env) (σ1 : L2.St) : Prop := ∀ (i : Nat) t v, Γ1[i]? = some (some (true, t)) → σ1[i]? = some (some v) → Γ[i]? = some (some (true, t)) ∧ σ[i]? = some (some v)
theorem OwnS.refl (Γ : Env) (σ : L2.St) : OwnS Γ σ Γ σ := fun _ _ _ h1 h2 => ⟨h1, h2⟩
theorem OwnS.trans {Γ Γ1 Γ2 : Env} {σ σ1 σ2 : L2.St} (a : OwnS Γ σ Γ1 σ1) (b : OwnS Γ1 σ1 Γ2 σ2) : OwnS Γ σ Γ2 σ2 := fun i t v h1 h2 => a i t v (b i t v h1 h2).1 (b i t v h1 h2).2
theorem OwnS.set {Γ : Env} {σ : L2.St} (i : Nat) (x : Option (Bool × T)) (y : Option V) (h : ∀ t, x ≠ some (true, t)) : OwnS Γ σ (Γ.set i x) (σ.set i y) := fun j t v h1 h2 => by
  by_cases e : i = j
  · subst e
    by_cases hl : i < Γ.length
    · rw [List.getElem?_set_self hl] at h1
      exact absurd (Option.some.inj h1) (h t)
    · rw [List.getElem?_eq_none (by rw [List.length_set]; omega)] at h1; cases h1
  · rw [List.getElem?_set_ne e] at h1 h2
    exact ⟨h1, h2⟩
theorem OwnS.wipe {Γ : Env} {σ : L2.St} : ∀ vs : List Nat, OwnS Γ σ (Ev.wipe Γ vs) (L2.wipe σ vs)
  | [] => OwnS.refl Γ σ
  | v :: vs => (OwnS.wipe vs).trans (OwnS.set v none none fun _ z => nomatch z)
def tG (ax : Ax) (g : G) : TG := fun v σ H Q => ∃ H0 F μ Γ t Γ1, Sl ax.fx H0 F μ Γ σ H ∧ Rep ax.fx F μ H t v ∧ asgG g t Γ = some Γ1 ∧
  ∀ σ', Sl ax.fx H0 F μ Γ1 σ' H → (∀ vs, (∀ i ∈ g.sl, i ∈ vs) → L2.wipe σ' vs = L2.wipe σ vs) → OwnS Γ σ Γ1 σ' → Q σ' H
def tGs (ax : Ax) (is : List Nat) : TGs := fun vs σ H Q => ∃ H0 F μ Γ ts Γ1, Sl ax.fx H0 F μ Γ σ H ∧ Reps ax.fx F μ H ts vs ∧ sets Γ is ts = some Γ1 ∧
  ∀ σ', Sl ax.fx H0 F μ Γ1 σ' H → (∀ ws, (∀ i ∈ is, i ∈ ws) → L2.wipe σ' ws = L2.wipe σ ws) → OwnS Γ σ Γ1 σ' → Q σ' H
theorem pgs_all (g : Gx ax X cc Wx) : ∀ (is : List Nat) (ps : List Expr), chkG.go cc is ps = true → PGs X ps (tGs ax is) ∧ (assignEach ps X.env).length = is.length ∧ (assignEach ps X.env).findIdx? (·.1) = none
  | [], [], _ => by
    refine ⟨pgs_nil.weak fun vs σ H Q ⟨H0, F, μ, Γ, ts, Γ1, sl, r, h, k⟩ => ?_, rfl, rfl⟩
    cases ts with
    | nil =>
      have h : some Γ = some Γ1 := h
      cases h
      rw [reps_nil] at r
      exact ⟨r, k σ sl (fun _ _ => rfl) (OwnS.refl Γ σ)⟩
    | cons t ts => cases h
  | i :: is, p :: ps, h => by
    cases p <;> first
      | cases h
      | skip
    rename_i x pos
    have h : (cc.loc i x && chkG.go cc is ps) = true := h
    obtain ⟨h1, h2⟩ := Bool.and_eq_true_iff.mp h
    obtain ⟨ih, e1, e2⟩ := pgs_all g is ps h2
    obtain ⟨l1, l2, l3⟩ := g.loc h1
    refine ⟨(pgs_cons (pg_name g.nd l1 l2 l3) ih).weak fun vs σ H Q ⟨H0, F, μ, Γ, ts, Γ1, sl, r, h, k⟩ => ?_, ?_, ?_⟩
    · cases ts with
      | nil => cases h
      | cons t ts =>
        rw [reps_cons] at r
        obtain ⟨v, vr, e, r1, r2⟩ := r
        refine ⟨v, vr, e, H0, F, μ, _, ts, Γ1, sl.set_kn i r1, r2, h, fun σ' s' w' o' => k σ' s' (fun ws hw => ?_) ((OwnS.set i _ _ fun _ z => by cases z).trans o')⟩
        rw [w' ws fun j hj => hw j (List.mem_cons_of_mem _ hj), wipe_set ws σ i _ (hw i List.mem_cons_self)]
    · show (assignEach ps X.env).length + 1 = _
      rw [e1]; rfl
    · show List.findIdx? _ ((false, assign (.Name x pos) X.env) :: assignEach ps X.env) = none
      rw [List.findIdx?_cons, e2]; rfl
  | [], _ :: _, h => nomatch h
  | _ :: _, [], h => nomatch h
theorem pg_all (g : Gx ax X cc Wx) {t : G} {py : Expr} (h : chkG cc t py = true) : PG X py (tG ax t) := by
  cases t with
  | n i =>
    cases py <;> first
      | cases h
      | skip
    rename_i x pos
    obtain ⟨l1, l2, l3⟩ := g.loc h
    refine (pg_name g.nd l1 l2 l3).weak fun v σ H Q ⟨H0, F, μ, Γ, t, Γ1, sl, r, h, k⟩ => ?_
    have h : some _ = some Γ1 := h
    cases h
    exact k _ (sl.set_kn i r) (fun ws hw => wipe_set ws σ i _ (hw i (by simp [G.sl]))) (OwnS.set i _ _ fun _ z => by cases z)
  | t is =>
    cases py <;> first
      | cases h
      | skip
    rename_i ps kk pos
    obtain ⟨ih, e1, e2⟩ := pgs_all g is ps h
    refine (pg_tup g.bx.calm ih e1 e2).weak fun v σ H Q ⟨H0, F, μ, Γ, t, Γ1, sl, r, h, k⟩ => ?_
    cases t <;> first
      | cases h
      | skip
    rename_i ts
    have h : sets Γ is ts = some Γ1 := h
    rw [rep_tup] at r
    obtain ⟨a, vs, e, ha, rs⟩ := r
    refine ⟨a, vs, e, .inl (.inl ha), ?_, H0, F, μ, Γ, ts, Γ1, sl, rs, h, k⟩
    have go : ∀ (is : List Nat) (ts : List T) (Γ : Env), sets Γ is ts = some Γ1 → ts.length = is.length := by
      intro is
      induction is with
      | nil => intro ts Γ h; cases ts with
        | nil => rfl
        | cons => cases h
      | cons i is ih => intro ts Γ h; cases ts with
        | nil => cases h
        | cons t ts => rw [List.length_cons, List.length_cons, ih ts _ h]
    rw [rs.len, go is ts Γ h]

/-! ### what is walked -/
def Yat (fx : Fx) (F : Addr → Prop) (μ : List Addr) (J : It) (ts : List T) (H : Hp) : Prop :=
  (∀ (i : Nat) t, ts[i]? = some t → J.go i H ∧ ∀ x H', J.yld i H x H' → Step F μ H F μ H' ∧ (∀ st, Wd fx F μ H st → Wd fx F μ H' st) ∧ Rep fx F μ H' t x) ∧ J.stop ts.length H
def Lk (q : Option (Addr × Obj × HO)) (H : Hp) : Prop :=
  match q with
  | none => True
  | some (d, od, u) => H d = some (.frz od u)
/-- a walk: m: no slot is written as long -/
def Yld (m : Bool) (fx : Fx) (F : Addr → Prop) (μ : List Addr) (H : Hp) (q : Option (Addr × Obj × HO)) (J : It) (ts : List T) : Prop :=
  if m = true then ∀ F' μ' H', Step F μ H F' μ' H' → Yat fx F' μ' J ts H' else ∀ F' μ' H', Kp F μ H F' μ' H' → Lk q H' → Yat fx F' μ' J ts H'
def lkI (F : Addr → Prop) (it : I) (σ : L2.St) (H : Hp) (q : Option (Addr × Obj × HO)) : Prop :=
  match it with
  | .keys i => ∃ d od u, q = some (d, od, u) ∧ σ[i]? = some (some (.ref d)) ∧ H d = some (.frz od u) ∧ F d
  | _ => q = none
def tI (ax : Ax) (Wx : WX) (m : Bool) (it : I) : TI := fun σ H R => ∃ H0 F μ Γ st q, Sl ax.fx H0 F μ Γ σ H ∧ Wd ax.fx F μ H st ∧ lkI F it σ H q ∧ (m = false → retI Γ it = true) ∧
  (evI ax.C it Γ st).post (fun x => ∀ J H' F' μ', Step F μ H F' μ' H' → Wd ax.fx F' μ' H' x.2 → Yld m ax.fx F' μ' H' q J x.1 → R J H') (exk ax Wx F μ H σ)
section
variable {fx : Fx} {F : Addr → Prop} {μ : List Addr} {H : Hp} {st : St}
theorem Yld.kp {q : Option (Addr × Obj × HO)} {J : It} {ts : List T} (m : Bool) (w : Wd fx F μ H st) (hq : ∀ d od u, q = some (d, od, u) → H d = some (.frz od u) ∧ d ∉ μ) (h : ∀ F' μ' H', Kp F μ H F' μ' H' → Lk q H' → Yat fx F' μ' J ts H') : Yld m fx F μ H q J ts := by
  unfold Yld
  split
  · intro F' μ' H' s
    refine h F' μ' H' (s.kp w) ?_
    unfold Lk
    split
    · trivial
    · rename_i d od u
      obtain ⟨h1, h2⟩ := hq d od u rfl
      exact s.fr d _ h1 h2
  · exact h
theorem yat_same {J : It} {ts : List T} (h : ∀ (i : Nat) t, ts[i]? = some t → J.go i H ∧ ∀ x H', J.yld i H x H' → H' = H ∧ Rep fx F μ H t x) (hs : J.stop ts.length H) : Yat fx F μ J ts H :=
  ⟨fun i t e => ⟨(h i t e).1, fun x H' y => by
    obtain ⟨e1, r⟩ := (h i t e).2 x H' y
    subst e1
    exact ⟨Step.refl F μ H', fun _ w => w, r⟩⟩, hs⟩
theorem yat_lst {K : PySem.W.Frag} {a : Addr} {ts : List T} {vs : List V} (q : SqL K H a vs) (r : Reps fx F μ H ts vs) : Yat fx F μ (Itl K a) ts H :=
  yat_same (fun i t e => by
    obtain ⟨v, h1, h2⟩ := r.get e
    exact ⟨⟨vs, v, q, h1⟩, fun x H' y => ⟨y.1, by
      have := y.2 vs q
      rw [h1] at this
      cases this
      exact h2⟩⟩) ⟨vs, q, by rw [r.len]; exact Nat.le_refl _⟩
theorem yat_tup {K : PySem.W.Frag} {a : Addr} {ts : List T} {vs : List V} (q : SqT K H a vs) (r : Reps fx F μ H ts vs) : Yat fx F μ (Itt K a) ts H :=
  yat_same (fun i t e => by
    obtain ⟨v, h1, h2⟩ := r.get e
    exact ⟨⟨vs, v, q, h1⟩, fun x H' y => ⟨y.1, by
      have := y.2 vs q
      rw [h1] at this
      cases this
      exact h2⟩⟩) ⟨vs, q, by rw [r.len]; exact Nat.le_refl _⟩
theorem yat_rng {lo : Int} {n : Nat} : Yat fx F μ (Itr lo n) (rangeT lo n) H :=
  yat_same (fun i t e => by
    unfold rangeT at e
    rw [List.getElem?_map] at e
    have hi : i < n := by
      cases q : (List.range n)[i]? with
      | none => rw [q] at e; cases e
      | some z =>
        have := (List.getElem?_eq_some_iff.mp q).1
        simpa using this
    rw [List.getElem?_range hi] at e
    have e : T.int (lo + (i : Int)) = t := Option.some.inj e
    exact ⟨hi, fun x H' y => ⟨y.1, by rw [← e, rep_int]; exact y.2⟩⟩) (by show n ≤ (rangeT lo n).length; unfold rangeT; simp)
theorem yat_rt {K : PySem.W.Frag} {a : Addr} {ts : List T} {vs : List V} (q : SqT K H a vs) (r : Reps fx F μ H ts vs) : Yat fx F μ (RT.ItvT K a vs.length) ts.reverse H :=
  yat_same (fun i t e => by
    have hl := r.len
    have hi : i < ts.length := by
      have := (List.getElem?_eq_some_iff.mp e).1
      simpa using this
    rw [List.getElem?_reverse hi, ← hl] at e
    obtain ⟨v, h1, h2⟩ := r.get e
    exact ⟨⟨by omega, vs, v, q, h1⟩, fun x H' y => ⟨y.1, by
      have := y.2 vs q
      rw [h1] at this
      cases this
      exact h2⟩⟩) (by show vs.length ≤ ts.reverse.length; rw [r.len, List.length_reverse]; exact Nat.le_refl _)
theorem yat_dK {d : Addr} {o : Obj} {kvs : List (Key × V)} {ks : List Ky} (q : H d = some (.frz o (.dK kvs))) (r : kysR fx.tab ks (kvs.map (·.1))) : Yat fx F μ (Itk d o kvs) (ks.map Ky.t) H := by
  have hl : ∀ (ks : List Ky) (kk : List Key), kysR fx.tab ks kk → kk.length = ks.length ∧ ∀ (i : Nat) k, ks[i]? = some k → ∃ k', kk[i]? = some k' ∧ Rep fx F μ H k.t (kV k') := by
    intro ks
    induction ks with
    | nil => intro kk h; have h : kk = [] := h; subst h; exact ⟨rfl, fun i k e => by simp at e⟩
    | cons y ys ih =>
      rintro kk ⟨k, kr, rfl, h1, h2⟩
      obtain ⟨i1, i2⟩ := ih kr h2
      refine ⟨by rw [List.length_cons, List.length_cons, i1], fun i k' e => ?_⟩
      cases i with
      | zero =>
        have e : some y = some k' := e
        cases e
        refine ⟨k, rfl, ?_⟩
        cases y with
        | i n =>
          have h1 : k = .inl n := h1
          subst h1
          show Rep fx F μ H (.int n) (.int n)
          rw [rep_int]
        | s n =>
          obtain ⟨x, h1, h3⟩ := h1
          subst h3
          show Rep fx F μ H (.sym n) (.str x)
          rw [rep_sym]
          exact ⟨x, h1, rfl⟩
      | succ i => exact i2 i k' e
  obtain ⟨l1, l2⟩ := hl ks _ r
  rw [List.length_map] at l1
  refine yat_same (fun i t e => ?_) ⟨q, by rw [List.length_map]; omega⟩
  rw [List.getElem?_map] at e
  cases z : ks[i]? with
  | none => rw [z] at e; cases e
  | some k =>
    rw [z] at e
    have e : k.t = t := Option.some.inj e
    obtain ⟨k', h1, h2⟩ := l2 i k z
    have hi : i < ks.length := (List.getElem?_eq_some_iff.mp z).1
    refine ⟨⟨q, by omega⟩, fun x H' y => ⟨y.1, ?_⟩⟩
    obtain ⟨_, k2, v2, h3, h4⟩ := y
    rw [List.getElem?_map, h3] at h1
    have h1 : k2 = k' := Option.some.inj h1
    rw [← e, h4, h1]
    exact h2
theorem yat_dT {d : Addr} {o : Obj} {kvs : List (List Key × V)} {ks : List (List Ky)} (q : H d = some (.frz o (.dT kvs))) (r : kyssR fx.tab ks (kvs.map (·.1))) : Yat fx F μ (Itkt d o kvs) (ks.map kTup) H := by
  have one : ∀ (ks : List Ky) (kk : List Key), kysR fx.tab ks kk → Reps fx F μ H (ks.map Ky.t) (kk.map kV) := by
    intro ks
    induction ks with
    | nil => intro kk h; have h : kk = [] := h; subst h; exact Reps.nil
    | cons y ys ih =>
      rintro kk ⟨k, kr, rfl, h1, h2⟩
      refine Reps.cons ?_ (ih kr h2)
      cases y with
      | i n =>
        have h1 : k = .inl n := h1
        subst h1
        show Rep fx F μ H (.int n) (.int n)
        rw [rep_int]
      | s n =>
        obtain ⟨x, h1, h3⟩ := h1
        subst h3
        show Rep fx F μ H (.sym n) (.str x)
        rw [rep_sym]
        exact ⟨x, h1, rfl⟩
  have hl : ∀ (ks : List (List Ky)) (kk : List (List Key)), kyssR fx.tab ks kk → kk.length = ks.length ∧ ∀ (i : Nat) k, ks[i]? = some k → ∃ k', kk[i]? = some k' ∧ Reps fx F μ H (k.map Ky.t) (k'.map kV) := by
    intro ks
    induction ks with
    | nil => intro kk h; have h : kk = [] := h; subst h; exact ⟨rfl, fun i k e => by simp at e⟩
    | cons y ys ih =>
      rintro kk ⟨k, kr, rfl, h1, h2⟩
      obtain ⟨i1, i2⟩ := ih kr h2
      refine ⟨by rw [List.length_cons, List.length_cons, i1], fun i k' e => ?_⟩
      cases i with
      | zero =>
        have e : some y = some k' := e
        cases e
        exact ⟨k, rfl, one y k h1⟩
      | succ i => exact i2 i k' e
  obtain ⟨l1, l2⟩ := hl ks _ r
  rw [List.length_map] at l1
  refine yat_same (fun i t e => ?_) ⟨q, by rw [List.length_map]; omega⟩
  rw [List.getElem?_map] at e
  cases z : ks[i]? with
  | none => rw [z] at e; cases e
  | some k =>
    rw [z] at e
    have e : kTup k = t := Option.some.inj e
    obtain ⟨k', h1, h2⟩ := l2 i k z
    have hi : i < ks.length := (List.getElem?_eq_some_iff.mp z).1
    refine ⟨⟨q, by omega⟩, fun x H' y => ⟨y.1, ?_⟩⟩
    obtain ⟨e0, k2, v2, p, h3, h4, h5⟩ := y
    subst e0
    rw [List.getElem?_map, h3] at h1
    have h1 : k2 = k' := Option.some.inj h1
    rw [← e, h4]
    show Rep fx F μ H' (.tup (k.map Ky.t)) _
    rw [rep_tup]
    exact ⟨p, _, rfl, h5, by rw [h1]; exact h2⟩
end
end
end Ev
end

section
set_option autoImplicit false
set_option linter.all false
set_option maxRecDepth 100000
set_option maxHeartbeats 1000000
/-! EvM: iterators. -/
namespace Ev
open PySem PySem.Spec PyProof.Rows L2

/-! ### enumerate(tuple) -/
theorem enumNew1 {x : Value} {ob : Obj} {G : Heap → Prop} (B : Begins x ob G) : Meets (Builtin.«enumerate.__new__» ⟨[.type "enumerate", x], []⟩) (fun _ R s => G s.heap ∧
    R (.ok (.ret (.ref (s.heap.push ob).objs.size))) { s with heap := (s.heap.push ob).push { cls := .type "enumerate", data := .fields #[.none, .bool false, .ref s.heap.objs.size, rawInt 0, .none, .none] } }) :=
  .of_wp fun prog w A R s h => by
    obtain ⟨hh, gg, dd, tt, oo⟩ := s
    obtain ⟨hG, h⟩ := h
    have sub := sub_enumerate
    have begin1 : ∀ {A1 : Around} {E1 : Value → Shared → Prop} {Q1 : Value → Shared → Prop}, Q1 (.ref hh.objs.size) ⟨hh.push ob, gg, dd, tt, oo⟩ → wpAny (model prog w) A1 (pyIter x) Q1 E1 ⟨hh, gg, dd, tt, oo⟩ := fun z => B.iter prog w _ _ ⟨hh, gg, dd, tt, oo⟩ _ hG z
    wp_walk using begin1
    refine wpAny_stack_any fun _ => wpAny_pure ?_
    split
    · rename_i cl _ _ _ _ _
      cases (cl == Value.type "enumerate") <;> (wp_walk using begin1; exact ⟨_, rfl, h⟩)
    · wp_walk using begin1; exact ⟨_, rfl, h⟩
section
variable {prog : Program} {w : World} {A : Around} {E : Value → Shared → Prop} {s : Shared}
theorem enumCall {x : Value} {ob : Obj} {G : Heap → Prop} {Q : Value → Shared → Prop} (B : Begins x ob G) (hG : G s.heap)
    (hq : ∀ h2, IsEnum h2 (s.heap.objs.size + 1) s.heap.objs.size 0 .none → h2.get? s.heap.objs.size = some ob → (∀ b o, s.heap.get? b = some o → h2.get? b = some o) → Q (.ref (s.heap.objs.size + 1)) { s with heap := h2 }) :
    wpAny (model prog w) A (call (.type "enumerate") [x]) Q E s := by
  refine callType_new F.called_enumerate (by decide) (F.typeCall_enumerate_1 _) (F.newCall_enumerate_1 _) (fun y => F.args_object_init_2 y _) F.entry_enumerate_new (enumNew1 B) ⟨hG, ?_⟩
  have sz1 : (s.heap.push ob).objs.size = s.heap.objs.size + 1 := Heap.size_push ..
  show _ ∧ _
  rw [sz1]
  have en := Heap.get?_push_size (s.heap.push ob) (o := { cls := .type "enumerate", data := .fields #[.none, .bool false, .ref s.heap.objs.size, rawInt 0, .none, .none] }) rfl
  rw [sz1] at en
  exact ⟨⟨_, en, rfl⟩, hq _ en (Heap.get?_push_of_some _ (Heap.get?_push_size _ B.free)) fun b o z => Heap.get?_push_of_some _ (Heap.get?_push_of_some _ z)⟩
end
def IteT (K : PySem.W.Frag) (a : Addr) : It :=
  ⟨fun i H => ∃ (xs : List V) (x : V), SqT K H a xs ∧ xs[i]? = some x, fun i H v H' => ∃ p x, v = .ref p ∧ H p = none ∧ H' = upd H p (.tup [.int ((i : Nat) : Int), x]) ∧ ∀ xs, SqT K H a xs → xs[i]? = some x, fun i H => ∃ xs : List V, SqT K H a xs ∧ xs.length = i⟩
theorem turnET {P : Program} {w : World} {K : PySem.W.Frag} {elts : List Expr} {n : Nat} {tp : Pos} (a en it : Addr) (hai : a ≠ it) (hae : a ≠ en) :
    Turn P w K (.Tuple elts n tp) (IteT K a) [en, it] en (fun i h => (∃ z, IsEnum h en it ((i : Nat) : Int) z) ∧ h.IsTupleIter it a i ∧ en ≠ it) where
  mem := by simp
  obj := fun i h st b hb => by
    obtain ⟨⟨z, he⟩, ⟨o, ho, hc, hd⟩, _⟩ := st
    rcases (show b = en ∨ b = it by simpa using hb) with q | q <;> rw [q]
    · exact ⟨_, he, fun v y => nomatch y⟩
    · exact ⟨o, ho, fun v y => by rw [hd] at y; cases y⟩
  keep := fun i h h' st k => ⟨st.1.imp fun z he => k en (by simp) _ he, st.2.1.at fun o q => k it (by simp) o q, st.2.2⟩
  item := by
    intro X hP hw hK hc i pins s σ H E I hf st hg
    subst hP hw hK
    obtain ⟨⟨z, he⟩, hit, hne⟩ := st
    obtain ⟨xs, x, hq, hx⟩ := hg
    obtain ⟨its, rv, p, hz⟩ := I.tuple hq
    obtain ⟨u, hu, ru⟩ := rv.get hx
    have hp : s.heap.IsTuple a its.toArray := p
    have l1 : en < s.heap.objs.size := Heap.lt_size he
    have l2 : it < s.heap.objs.size := by obtain ⟨_, q, _⟩ := hit; exact Heap.lt_size q
    have hi : i < its.toArray.size := by simpa using (List.getElem?_eq_some_iff.mp hu).1
    refine wpAny_pyNext_enum_itemD (Draws.tuple (A := X.A.in1) (by first | exact I.ok.hd hc | simpa using I.ok.hd hc) it a hai its.toArray) he ⟨hit, hp⟩ hi hne (by simp [hne, Ne.symm hae]) fun y h1 tk hy ho st1 hT _ k1 => ?_
    have ey : y = u := by
      have z1 : its.toArray[i]? = some y := hy
      rw [show its.toArray[i]? = some u by simpa using hu] at z1
      exact (Option.some.inj z1).symm
    subst ey
    refine ⟨_, rfl, wpAny_letOwnedTupleGo_enum (s := { s with heap := h1, toks := tk + 1 }) ho fun h2 he2 sb => ?_⟩
    have hT2 : h2.get? s.heap.objs.size = some { cls := .type "tuple", data := .seq #[.int i tk, y] } := (sb.2 _ (Nat.ne_of_gt l1)).trans hT
    have nw : ObjOk X.prog X.w (upd H s.heap.objs.size (.tup [.int ((i : Nat) : Int), x])) h2 s.heap.objs.size (.tup [.int ((i : Nat) : Int), x]) :=
      ⟨by show 2 ≤ sizeLine; decide, [.int i tk, y], .cons ⟨_, rfl⟩ (.cons ru .nil), ⟨_, hT2, rfl, _, rfl⟩⟩
    have I1 := I.turnedNew (t' := tk + 1) (ch := [en, it]) (fun b ob hb q => (sb.2 b (fun y => hb (by simp [y]))).trans (k1 b ob (fun y => hb (by simp [y])) (fun y => hb (by simp [y])) q)) hf (Nat.le_refl _) nw
    refine ⟨.ref s.heap.objs.size, _, I1, rfl, ⟨_, x, rfl, I.hok.fresh (Nat.le_refl _), rfl, fun ys hy => by rw [I.tuple_inj hy hq]; exact hx⟩, ⟨⟨y, ?_⟩, st1.1.at fun o q => (sb.2 it (Ne.symm hne)).trans q, hne⟩, fun b hb => ?_⟩
    · rw [show ((i + 1 : Nat) : Int) = (i : Int) + 1 by omega]; exact he2
    · have hb' : b < s.heap.objs.size := by
        rcases (show b = en ∨ b = it by simpa using hb) with q | q <;> rw [q]
        · exact l1
        · exact l2
      rw [upd_ne (Nat.ne_of_lt hb')]
      exact (hf b hb).1
  done := by
    intro X hP hw hK hc i pins s σ H E I hf st hg
    subst hP hw hK
    obtain ⟨⟨z, he⟩, hit, hne⟩ := st
    obtain ⟨xs, hq, hx⟩ := hg
    obtain ⟨its, rv, p, hz⟩ := I.tuple hq
    have hp : s.heap.IsTuple a its.toArray := p
    have hl := rv.length
    have e1 : i = its.toArray.size := by rw [← hx, List.size_toArray]; omega
    obtain ⟨f0, f1, f2, f3, f4, f5⟩ := hf it (by simp)
    subst e1
    exact wpAny_pyNext_enum_endD (Draws.tuple (A := X.A.in1) (by first | exact I.ok.hd hc | simpa using I.ok.hd hc) it a hai its.toArray) he ⟨hit, hp⟩ fun h1 eb => ⟨rfl, I.turned (t' := s.toks) (fun b o hb q => eb b o hb q) f0 f1 f3 f4 f5⟩
  self := fun A i s Q E st h => let ⟨_, he⟩ := st.1; wpAny_pyIter_enum he h
def iEnT (K : PySem.W.Frag) (te : TE) : TI := fun σ H R => te σ H fun v H1 => ∃ a xs, v = .ref a ∧ SqT K H1 a xs ∧ R (IteT K a) H1
theorem pi_enT {X : Cx} {e : Expr} {te : TE} {p pos tp : Pos} {elts : List Expr} {n : Nat} (hg : Gl X "enumerate") (hm : X.mg "enumerate" = none) (he : PE X e te) (hs : starEach [e] X.env = (false, eval e X.env) :: starEach [] X.env) :
    PI X (.Tuple elts n tp) (.Call (.Name "enumerate" p) [e] [] pos) (iEnT X.K te) := by
  refine ⟨fun pins s σ H R I h => ?_⟩
  refine Call_ (ld_blt I hg hm boot_enumerate (PyProof.Rows.callWith_type1 (args_cons (thn (he.run pins s σ H _ I h) fun u s1 ⟨v, H1, I1, r1, q1⟩ => args_nil ?_) hs) hs rfl))
  obtain ⟨a, xs, ev, hq, q⟩ := q1
  subst ev
  obtain rfl : u = Value.ref a := r1
  obtain ⟨its, rv, p', hz⟩ := I1.tuple hq
  have hp : s1.heap.IsTuple a its.toArray := p'
  have la : a < s1.heap.objs.size := by obtain ⟨_, z, _⟩ := hp; exact Heap.lt_size z
  refine enumCall (begins_tuple a its.toArray) hp fun h1 he1 hit1 k1 => wpAny_pyIter_enum he1 ?_
  have I2 : Inv X pins σ H1 { s1 with heap := h1 } := I1.kept (t' := s1.toks) k1
  refine ⟨s1.heap.objs.size + 1, [s1.heap.objs.size + 1, s1.heap.objs.size], _, _, H1, rfl, I2, turnET a (s1.heap.objs.size + 1) s1.heap.objs.size (Nat.ne_of_lt la) (Nat.ne_of_lt (Nat.lt_succ_of_lt la)), ⟨⟨.none, he1⟩, ⟨_, hit1, rfl, rfl⟩, Nat.succ_ne_self _⟩, fun b hb => ?_, q⟩
  have hle : s1.heap.objs.size ≤ b := by
    rcases (show b = s1.heap.objs.size + 1 ∨ b = s1.heap.objs.size by simpa using hb) with z | z <;> rw [z]
    · exact Nat.le_add_right _ _
    · exact Nat.le_refl _
  exact I1.fpOk hle (I1.hok.fresh hle)
end Ev
end

section
set_option autoImplicit false
set_option linter.all false
set_option maxRecDepth 100000
set_option maxHeartbeats 1000000
/-! EvN: what is walked, form by form. -/
namespace Ev
open PySem PySem.Spec PyProof.Rows L2
theorem enumT_get : ∀ (ts : List T) (k i : Nat) (t : T), (enumT k ts)[i]? = some t → ∃ u, ts[i]? = some u ∧ t = .tup [.int ((k + i : Nat) : Int), u]
  | [], k, i, t, h => by simp [enumT] at h
  | x :: ts, k, 0, t, h => by
    have h : some (T.tup [.int (k : Int), x]) = some t := h
    cases h
    exact ⟨x, rfl, rfl⟩
  | x :: ts, k, i + 1, t, h => by
    have h : (enumT (k + 1) ts)[i]? = some t := h
    obtain ⟨u, h1, h2⟩ := enumT_get ts (k + 1) i t h
    exact ⟨u, h1, by rw [h2, show k + 1 + i = k + (i + 1) by omega]⟩
theorem enumT_len : ∀ (ts : List T) (k : Nat), (enumT k ts).length = ts.length
  | [], k => rfl
  | x :: ts, k => by rw [enumT, List.length_cons, List.length_cons, enumT_len]
section
variable {fx : Fx} {F : Addr → Prop} {μ : List Addr} {H : Hp} {st : St}
theorem Kp.lay {p : Addr} {o : HO} (n : H p = none) : Kp F μ H F μ (upd H p o) where
  sub := fun _ h => h
  pre := ⟨[], (List.append_nil μ).symm⟩
  tup := fun b xs h => by rw [upd_ne (ne_of_none h n)]; exact h
  xt := fun b o xs h => by rw [upd_ne (ne_of_none h n)]; exact h
  lst := fun b u _ _ h => by
    rcases h with h | ⟨z, h⟩
    · exact .inl (by rw [upd_ne (ne_of_none h n)]; exact h)
    · exact .inr ⟨z, by rw [upd_ne (ne_of_none h n)]; exact h⟩
theorem yat_enT {K : PySem.W.Frag} {a : Addr} {ts : List T} {vs : List V} (q : SqT K H a vs) (r : Reps fx F μ H ts vs) : Yat fx F μ (IteT K a) (enumT 0 ts) H := by
  refine ⟨fun i t e => ?_, ⟨vs, q, by rw [enumT_len, r.len]⟩⟩
  obtain ⟨u, h1, h2⟩ := enumT_get ts 0 i t e
  obtain ⟨v, h3, h4⟩ := r.get h1
  refine ⟨⟨vs, v, q, h3⟩, fun x H' y => ?_⟩
  obtain ⟨p, z, ex, n, eH, hz⟩ := y
  have := hz vs q
  rw [h3] at this
  cases this
  subst ex eH h2
  refine ⟨Step.lay n, fun st w => w.lay n, ?_⟩
  rw [rep_tup]
  exact ⟨p, _, rfl, upd_same, Reps.cons (by rw [rep_int]; simp) (Reps.cons (Rep.kp (Kp.lay n) _ _ h4) Reps.nil)⟩
end
section
variable {ax : Ax} {X : Cx} {cc : Cc} {Wx : WX}
theorem seqI {m : Bool} {it : I} {H0 : Hp} {F Fa : Addr → Prop} {μ μa : List Addr} {H Ha : Hp} {Γ : Env} {st : St} {σ : L2.St} {Rr : It → Hp → Prop} {q : Option (Addr × Obj × HO)} (sl : Sl ax.fx H0 F μ Γ σ H) (w : Wd ax.fx F μ H st) (lk : lkI F it σ H q) (hm : m = false → retI Γ it = true) (s0 : Step Fa μa Ha F μ H) {K : (List T × St) → Prop} (hp : (evI ax.C it Γ st).post K (exk ax Wx Fa μa Ha σ))
    (hk : ∀ x J H1 F1 μ1, K x → Step F μ H F1 μ1 H1 → Wd ax.fx F1 μ1 H1 x.2 → Yld m ax.fx F1 μ1 H1 q J x.1 → Sl ax.fx H0 F1 μ1 Γ σ H1 → Step Fa μa Ha F1 μ1 H1 → Rr J H1) : tI ax Wx m it σ H Rr :=
  ⟨H0, F, μ, Γ, st, q, sl, w, lk, hm, R.post_imp hp (fun x k J H1 F1 μ1 s1 w1 y1 => hk x J H1 F1 μ1 k s1 w1 y1 (sl.step s1 w) (s0.trans s1)) fun _ _ _ h => h.step s0⟩
theorem ret_bor {e : E} {Γ : Env} {st : St} (h : retI Γ (.seq e) = true) : bor Γ st (evE ax.C e Γ st) e = evM ax false e Γ st := by
  cases e <;> try rfl
  rename_i i
  have h : (rdF Γ i).isSome = true := h
  show (match rd Γ i with | some t => .ok (false, t, st) | none => .bad : X3) = (match rdF Γ i with | some t => .ok (false, t, st) | none => .bad : X3)
  unfold rdF at h ⊢
  unfold rd
  rcases e : Γ[i]? with _ | (_ | ⟨_ | _, t⟩)
  · rfl
  · rfl
  · rfl
  · rw [e] at h; cases h
theorem evM_bor {m : Bool} {e : E} {Γ : Env} {st : St} (h : m = false → retI Γ (.seq e) = true) : bor Γ st (evE ax.C e Γ st) e = evM ax m e Γ st := by
  cases m with
  | false => exact ret_bor (h rfl)
  | true => rfl
/-- a value walked: as the mode has it -/
theorem mode_known {m : Bool} {H0 : Hp} {F Fa F1 : Addr → Prop} {μ μa μ1 : List Addr} {H Ha H1 : Hp} {Γ : Env} {st st1 : St} {σ : L2.St} {o : Bool} {t : T} {v : V} (sl : Sl ax.fx H0 F μ Γ σ H) (w : Wd ax.fx F μ H st) (s0 : Step Fa μa Ha F μ H) (s1 : Step F μ H F1 μ1 H1) (w1 : Wd ax.fx F1 μ1 H1 st1) (r : ModeR m ax.fx H F1 μ1 H1 o t v) :
    ∃ G, Step Fa μa Ha G μ1 H1 ∧ Wd ax.fx G μ1 H1 st1 ∧ Sl ax.fx H0 G μ1 Γ σ H1 ∧ if m = true then BRep ax.fx G μ1 H1 t v else Rep ax.fx G μ1 H1 t v := by
  cases m with
  | false =>
    obtain ⟨G, a, b, c, d, _⟩ := known_sl sl w s0 s1 w1 r
    exact ⟨G, a, b, d, c⟩
  | true => exact ⟨F1, s0.trans s1, w1, sl.step s1 w, r⟩
theorem items_lst {r : X3} {K : (List T × St) → Prop} {x : Nat → List T → St → Prop} (q : R.post r (fun a => R.post (match itemsOf a.2.1 with
    | some ts => .ok (ts, a.2.2)
    | none => .bad : R (List T × St)) K x) x) (hl : ∃ o ts s, r = .ok (o, .lst ts, s)) : R.post r (fun a => ∃ ts, a.2.1 = .lst ts ∧ K (ts, a.2.2)) x := by
  obtain ⟨o, ts, s, e⟩ := hl
  subst e
  exact ⟨ts, rfl, q⟩
theorem items_tup {r : X3} {K : (List T × St) → Prop} {x : Nat → List T → St → Prop} (q : R.post r (fun a => R.post (match itemsOf a.2.1 with
    | some ts => .ok (ts, a.2.2)
    | none => .bad : R (List T × St)) K x) x) (hl : ¬ ∃ o ts s, r = .ok (o, .lst ts, s)) : R.post r (fun a => ∃ ts, a.2.1 = .tup ts ∧ K (ts, a.2.2)) x := by
  cases r with
  | ok a =>
    obtain ⟨o, t, s⟩ := a
    cases t <;> first
      | exact q.elim
      | exact absurd ⟨_, _, _, rfl⟩ hl
      | exact ⟨_, rfl, q⟩
  | exc c fs s => exact q
  | bad => exact q
theorem pi_seqL {m : Bool} {e : E} {p tg : Expr} (h : PE X p (tM ax Wx m e)) (hK : X.K = ax.fx.K) : PI X tg p (tI ax Wx m (.seq e)) := by
  refine ((pi_list h).or (pi_tup h)).weak fun σ H Rr ⟨H0, F, μ, Γ, st, lk, sl, w, hlk, hm, q⟩ => ?_
  have hlk : lk = none := hlk
  subst hlk
  have q : R.post ((bor Γ st (evE ax.C e Γ st) e).bind fun x => match itemsOf x.2.1 with
    | some ts => .ok (ts, x.2.2)
    | none => .bad : R (List T × St)) _ _ := q
  rw [R.post_bind, evM_bor hm] at q
  have nl : ∀ d od u, (none : Option (Addr × Obj × HO)) = some (d, od, u) → False := fun _ _ _ z => nomatch z
  by_cases hl : ∃ o ts s, evM ax m e Γ st = .ok (o, .lst ts, s)
  · refine .inl (seqE sl w (Step.refl F μ H) (items_lst q hl) ?_)
    rintro ⟨o, t, s⟩ v H1 F1 μ1 ⟨ts, et, k⟩ s1 w1 r1 _ _
    have et : t = .lst ts := et
    subst et
    obtain ⟨G, sG, wG, slG, rG⟩ := mode_known sl w (Step.refl F μ H) s1 w1 r1
    cases m with
    | true =>
      obtain ⟨a, vs, ev, na, ha, rs⟩ := rG
      refine ⟨a, ev, ⟨vs, .inl ha⟩, k (Itl X.K a) H1 G μ1 sG wG ?_⟩
      intro F2 μ2 H2 s2
      exact yat_lst (.inl (s2.rd na ha).1) (Reps.kp (s2.kp wG) _ _ rs)
    | false =>
      have rG : Rep ax.fx G μ1 H1 (.lst ts) v := rG
      unfold Rep at rG
      obtain ⟨a, vs, ev, fa, ha, rs⟩ := rG
      refine ⟨a, ev, ⟨vs, .inl ha⟩, k (Itl X.K a) H1 G μ1 sG wG ?_⟩
      intro F2 μ2 H2 s2 _
      exact yat_lst (.inl (s2.lst a _ .l fa ha)) (Reps.kp s2 _ _ rs)
  · refine .inr (seqE sl w (Step.refl F μ H) (items_tup q hl) ?_)
    rintro ⟨o, t, s⟩ v H1 F1 μ1 ⟨ts, et, k⟩ s1 w1 r1 _ _
    have et : t = .tup ts := et
    subst et
    obtain ⟨G, sG, wG, slG, rG⟩ := mode_known sl w (Step.refl F μ H) s1 w1 r1
    have rG : Rep ax.fx G μ1 H1 (.tup ts) v := by cases m <;> exact rG
    rw [rep_tup] at rG
    obtain ⟨a, vs, ev, ha, rs⟩ := rG
    refine ⟨a, ev, ⟨vs, .inl (.inl ha)⟩, k (Itt X.K a) H1 G μ1 sG wG (Yld.kp m wG (fun _ _ _ z => (nl _ _ _ z).elim) fun F2 μ2 H2 s2 _ => ?_)⟩
    exact yat_tup (.inl (.inl (s2.tup a _ ha))) (Reps.kp s2 _ _ rs)
theorem pi_rng1L (g : Gx ax X cc Wx) {m : Bool} {f : Str} {a : E} {pa tg : Expr} {p1 pos : Pos} (hf : f = "range") (hg : cc.gl f = true) (fa : okForm pa = true) (ha : PE X pa (tM ax Wx false a)) : PI X tg (.Call (.Name f p1) [pa] [] pos) (tI ax Wx m (.rng1 a)) := by
  obtain ⟨g1, g2, g3⟩ := g.gl hg
  subst hf
  refine (pi_range1 g1 (g.free _ (by decide +kernel)) (snd_cons ha snd_nil fa) (form_star fa [] _)).weak fun σ H Rr ⟨H0, F, μ, Γ, st, lk, sl, w, hlk, hm, q⟩ => ?_
  have hlk : lk = none := hlk
  subst hlk
  have q : R.post ((evE ax.C a Γ st).bind fun x => match x.2.1 with
    | .int n => if -RG ≤ n ∧ n < RG then .ok (rangeT 0 n.toNat, x.2.2) else .bad
    | _ => .bad : R (List T × St)) _ _ := q
  rw [R.post_bind] at q
  have q2 : R.post (evEs ax.C [a] Γ st) (fun y => ∃ n, y.1 = [.int n] ∧ R.post (if -RG ≤ n ∧ n < RG then .ok (rangeT 0 n.toNat, y.2) else .bad : R (List T × St)) (fun x => ∀ J H' F' μ', Step F μ H F' μ' H' → Wd ax.fx F' μ' H' x.2 → Yld m ax.fx F' μ' H' none J x.1 → Rr J H') (exk ax Wx F μ H σ)) (exk ax Wx F μ H σ) := by
    show R.post (((evE ax.C a Γ st).bind fun x => (evEs ax.C [] Γ x.2.2).bind fun y => .ok (x.2.1 :: y.1, y.2) : R (List T × St))) _ _
    rw [R.post_bind]
    refine R.post_imp q (fun x k => ?_) fun _ _ _ z => z
    obtain ⟨o, t, s⟩ := x
    cases t <;> first
      | exact k.elim
      | exact ⟨_, rfl, k⟩
  refine seqAs sl w (Step.refl F μ H) q2 fun x vs H1 F1 μ1 k s1 w1 rs sl1 s01 => ?_
  obtain ⟨ts, s⟩ := x
  obtain ⟨n, en, k⟩ := k
  have en : ts = [.int n] := en
  subst en
  rw [reps_cons] at rs
  obtain ⟨v, vr, e1, r1, r2⟩ := rs
  rw [reps_nil] at r2
  rw [rep_int] at r1
  subst r1 r2 e1
  split at k
  · rename_i hz
    exact ⟨n, rfl, hz.1, hz.2, k _ H1 F1 μ1 s01 w1 (Yld.kp m w1 (fun _ _ _ z => nomatch z) fun F2 μ2 H2 s2 _ => yat_rng)⟩
  · exact k.elim
theorem pi_rng2L (g : Gx ax X cc Wx) {m : Bool} {f : Str} {a b : E} {pa pb tg : Expr} {p1 pos : Pos} (hf : f = "range") (hg : cc.gl f = true) (fa : okForm pa = true) (fb : okForm pb = true) (ha : PE X pa (tM ax Wx false a)) (hb : PE X pb (tM ax Wx false b)) : PI X tg (.Call (.Name f p1) [pa, pb] [] pos) (tI ax Wx m (.rng2 a b)) := by
  obtain ⟨g1, g2, g3⟩ := g.gl hg
  subst hf
  refine (pi_range2 g1 (g.free _ (by decide +kernel)) (snd_cons ha (snd_cons hb snd_nil fb) fa) ((form_star fa [pb] _).trans (congrArg _ (form_star fb [] _))) (form_star fb [] _)).weak fun σ H Rr ⟨H0, F, μ, Γ, st, lk, sl, w, hlk, hm, q⟩ => ?_
  have hlk : lk = none := hlk
  subst hlk
  have q : R.post ((evE ax.C a Γ st).bind fun x => (evE ax.C b Γ x.2.2).bind fun y => match x.2.1, y.2.1 with
    | .int m, .int n => if -RG ≤ m ∧ m < RG ∧ -RG ≤ n ∧ n < RG then .ok (rangeT m (n - m).toNat, y.2.2) else .bad
    | _, _ => .bad : R (List T × St)) _ _ := q
  rw [R.post_bind] at q
  have q2 : R.post (evEs ax.C [a, b] Γ st) (fun y => ∃ i j, y.1 = [.int i, .int j] ∧ R.post (if -RG ≤ i ∧ i < RG ∧ -RG ≤ j ∧ j < RG then .ok (rangeT i (j - i).toNat, y.2) else .bad : R (List T × St)) (fun x => ∀ J H' F' μ', Step F μ H F' μ' H' → Wd ax.fx F' μ' H' x.2 → Yld m ax.fx F' μ' H' none J x.1 → Rr J H') (exk ax Wx F μ H σ)) (exk ax Wx F μ H σ) := by
    show R.post (((evE ax.C a Γ st).bind fun x => ((evE ax.C b Γ x.2.2).bind fun z => (evEs ax.C [] Γ z.2.2).bind fun y => .ok (z.2.1 :: y.1, y.2)).bind fun y => .ok (x.2.1 :: y.1, y.2) : R (List T × St))) _ _
    rw [R.post_bind]
    refine R.post_imp q (fun x k => ?_) fun _ _ _ z => z
    rw [R.post_bind] at k
    rw [R.post_bind, R.post_bind]
    refine R.post_imp k (fun y k => ?_) fun _ _ _ z => z
    obtain ⟨o, t, s⟩ := x
    obtain ⟨o2, t2, s2⟩ := y
    cases t <;> first
      | exact k.elim
      | (cases t2 <;> first
          | exact k.elim
          | exact ⟨_, _, rfl, k⟩)
  refine seqAs sl w (Step.refl F μ H) q2 fun x vs H1 F1 μ1 k s1 w1 rs sl1 s01 => ?_
  obtain ⟨ts, s⟩ := x
  obtain ⟨i, j, en, k⟩ := k
  have en : ts = [.int i, .int j] := en
  subst en
  rw [reps_cons] at rs
  obtain ⟨v, vr, e1, r1, r2⟩ := rs
  rw [reps_cons] at r2
  obtain ⟨v2, vr2, e2, r2, r3⟩ := r2
  rw [reps_nil] at r3
  rw [rep_int] at r1 r2
  subst r1 r2 r3 e2 e1
  split at k
  · rename_i hz
    exact ⟨i, j, rfl, hz, k _ H1 F1 μ1 s01 w1 (Yld.kp m w1 (fun _ _ _ z => nomatch z) fun F2 μ2 H2 s2 _ => yat_rng)⟩
  · exact k.elim
theorem pi_revL (g : Gx ax X cc Wx) {m : Bool} {f : Str} {a : E} {pa tg : Expr} {p1 pos : Pos} (hf : f = "reversed") (hg : cc.gl f = true) (fa : okForm pa = true) (ha : PE X pa (tM ax Wx true a)) : PI X tg (.Call (.Name f p1) [pa] [] pos) (tI ax Wx m (.rev a)) := by
  obtain ⟨g1, g2, g3⟩ := g.gl hg
  subst hf
  refine (RT.pi_revA g1 (g.free _ (by decide +kernel)) ha (form_star fa [] _)).weak fun σ H Rr ⟨H0, F, μ, Γ, st, lk, sl, w, hlk, hm, q⟩ => ?_
  have hlk : lk = none := hlk
  subst hlk
  have q : R.post ((bor Γ st (evE ax.C a Γ st) a).bind fun x => match x.2.1 with
    | .tup ts => .ok (ts.reverse, x.2.2)
    | _ => .bad : R (List T × St)) _ _ := q
  rw [R.post_bind] at q
  refine seqE (m := true) sl w (Step.refl F μ H) q fun x v H1 F1 μ1 k s1 w1 r1 sl1 s01 => ?_
  obtain ⟨o, t, s⟩ := x
  cases t <;> first
    | exact k.elim
    | skip
  rename_i ts
  have r1 : Rep ax.fx F1 μ1 H1 (.tup ts) v := r1
  rw [rep_tup] at r1
  obtain ⟨a, vs, ev, ha, rs⟩ := r1
  refine ⟨a, vs, ev, .inr ⟨.inl (.inl ha), k _ H1 F1 μ1 s01 w1 (Yld.kp m w1 (fun _ _ _ z => nomatch z) fun F2 μ2 H2 s2 _ => ?_)⟩⟩
  exact yat_rt (.inl (.inl (s2.tup a _ ha))) (Reps.kp s2 _ _ rs)
theorem pi_enumL (g : Gx ax X cc Wx) {m : Bool} {f : Str} {a : E} {pa : Expr} {elts : List Expr} {n : Nat} {tp p1 pos : Pos} (hf : f = "enumerate") (hg : cc.gl f = true) (fa : okForm pa = true) (ha : PE X pa (tM ax Wx true a)) : PI X (.Tuple elts n tp) (.Call (.Name f p1) [pa] [] pos) (tI ax Wx m (.enum a)) := by
  obtain ⟨g1, g2, g3⟩ := g.gl hg
  subst hf
  refine (pi_enT g1 (g.free _ (by decide +kernel)) ha (form_star fa [] _)).weak fun σ H Rr ⟨H0, F, μ, Γ, st, lk, sl, w, hlk, hm, q⟩ => ?_
  have hlk : lk = none := hlk
  subst hlk
  have q : R.post ((bor Γ st (evE ax.C a Γ st) a).bind fun x => match x.2.1 with
    | .tup ts => .ok (enumT 0 ts, x.2.2)
    | _ => .bad : R (List T × St)) _ _ := q
  rw [R.post_bind] at q
  refine seqE (m := true) sl w (Step.refl F μ H) q fun x v H1 F1 μ1 k s1 w1 r1 sl1 s01 => ?_
  obtain ⟨o, t, s⟩ := x
  cases t <;> first
    | exact k.elim
    | skip
  rename_i ts
  have r1 : Rep ax.fx F1 μ1 H1 (.tup ts) v := r1
  rw [rep_tup] at r1
  obtain ⟨a, vs, ev, ha, rs⟩ := r1
  refine ⟨a, vs, ev, .inl (.inl ha), k _ H1 F1 μ1 s01 w1 (Yld.kp m w1 (fun _ _ _ z => nomatch z) fun F2 μ2 H2 s2 _ => ?_)⟩
  exact yat_enT (.inl (.inl (s2.tup a _ ha))) (Reps.kp s2 _ _ rs)
theorem pi_keysL (g : Gx ax X cc Wx) {m : Bool} {i : Nat} {x : Str} {tg : Expr} {pos : Pos} (h : cc.vis i x = true) : PI X tg (.Name x pos) (tI ax Wx m (.keys i)) := by
  obtain ⟨h1, h2, h3, h4⟩ := g.vis h
  refine (pi_keys (pe_var (i := i) h1 h2 h3 h4)).weak fun σ H Rr ⟨H0, F, μ, Γ, st, lk, sl, w, hlk, hm, q⟩ => ?_
  obtain ⟨d, od, u, elk, hσ, hd, fd⟩ := hlk
  subst elk
  refine ⟨.ref d, hσ, d, od, rfl, ?_⟩
  have q : R.post (match rdF Γ i with
    | some (.dK ks _) => .ok (ks.map Ky.t, st)
    | some (.dT ks _) => .ok (ks.map kTup, st)
    | _ => .bad : R (List T × St)) _ _ := q
  have nd : d ∉ μ := fun z => w.nf d z fd
  cases e : rdF Γ i with
  | none => rw [e] at q; exact q.elim
  | some t =>
    rw [e] at q
    obtain ⟨v, hv, r⟩ := sl.rdF e
    rw [hσ] at hv
    cases hv
    cases t <;> first
      | exact q.elim
      | skip
    · rename_i ks ts
      unfold Rep at r
      obtain ⟨a, ws, ev, fa, ha, rk, rs⟩ := r
      cases ev
      have eu : u = .dK ws := by
        rcases ha with z | ⟨o, z⟩
        · rw [hd] at z; cases z
        · rw [hd] at z; cases z; rfl
      subst eu
      refine .inl ⟨ws, hd, q (Itk d od ws) H F μ (Step.refl F μ H) w (Yld.kp m w (fun d' od' u' z => by cases z; exact ⟨hd, nd⟩) fun F2 μ2 H2 s2 hq => ?_)⟩
      exact yat_dK hq rk
    · rename_i ks ts
      unfold Rep at r
      obtain ⟨a, ws, ev, fa, ha, rk, rs⟩ := r
      cases ev
      have eu : u = .dT ws := by
        rcases ha with z | ⟨o, z⟩
        · rw [hd] at z; cases z
        · rw [hd] at z; cases z; rfl
      subst eu
      refine .inr ⟨ws, hd, q (Itkt d od ws) H F μ (Step.refl F μ H) w (Yld.kp m w (fun d' od' u' z => by cases z; exact ⟨hd, nd⟩) fun F2 μ2 H2 s2 hq => ?_)⟩
      exact yat_dT hq rk
end
end Ev
end

section
set_option autoImplicit false
set_option linter.all false
set_option maxRecDepth 100000
set_option maxHeartbeats 1000000
/-! EvO: comprehensions. -/
namespace Ev
open PySem PySem.Spec PyProof.Rows L2
theorem _root_.L2.PTs.weak {X : Cx} {e : List Expr} {t t' : TT} (h : PTs X e t) (w : ∀ σ H Q, t' σ H Q → t σ H Q) : PTs X e t' := ⟨fun pins s σ H Q I q => h.run pins s σ H Q I (w σ H Q q)⟩
def WN : WX := fun _ _ _ _ => False
theorem wipe_wipe (vs : List Nat) (σ : L2.St) : L2.wipe (L2.wipe σ vs) vs = L2.wipe σ vs := by
  refine List.ext_getElem? fun j => ?_
  by_cases hj : j ∈ vs
  · rw [wipe_at vs _ j hj, wipe_at vs _ j hj, L2.wipe_length]
  · rw [L2.wipe_out hj]
theorem R.post_noexc {α : Type} {r : R α} {k : α → Prop} {x : Nat → List T → St → Prop} (h : r.noexc.post k x) : r.post k fun _ _ _ => False := by
  cases r with
  | ok a => exact h
  | exc c fs st => exact h
  | bad => exact h

section
variable {fx : Fx} {F F1 F' F'' : Addr → Prop} {μ μ1 μ' μ'' : List Addr} {H H1 H' H'' : Hp} {st st' st'' : St} {D : Addr}
/-- neither a tuple nor frozen -/
def NT (u : HO) : Prop := (∀ xs, u ≠ .tup xs) ∧ ∀ o v, u ≠ .frz o v
theorem Step.app {o : HO} (s : Step F μ H F' μ' H') (n : H D = none) : Step F μ H F' μ' (upd H' D o) where
  fr := fun b u h m => by rw [upd_ne (ne_of_none h n)]; exact s.fr b u h m
  sub := s.sub
  new := s.new
  cells := s.cells
  live := fun b h => by
    by_cases e : b = D
    · rw [e, upd_same] at h; cases h
    · rw [upd_ne e] at h; exact s.live b h
theorem Kp.app {o u : HO} (nf : ¬ F D) (h : H D = some u) (hu : NT u) : Kp F μ H F μ (upd H D o) where
  sub := fun _ h => h
  pre := ⟨[], (List.append_nil μ).symm⟩
  tup := fun b xs hb => by
    by_cases e : b = D
    · rw [e, h] at hb; cases hb; exact absurd rfl (hu.1 xs)
    · rw [upd_ne e]; exact hb
  xt := fun b z xs hb => by
    by_cases e : b = D
    · rw [e, h] at hb; cases hb; exact absurd rfl (hu.2 z _)
    · rw [upd_ne e]; exact hb
  lst := fun b v _ fb hb => by
    have e : b ≠ D := fun z => nf (z ▸ fb)
    rcases hb with hb | ⟨z, hb⟩
    · exact .inl (by rw [upd_ne e]; exact hb)
    · exact .inr ⟨z, by rw [upd_ne e]; exact hb⟩
theorem Wd.app {o u : HO} (w : Wd fx F μ H st) (nf : ¬ F D) (nm : D ∉ μ) (h : H D = some u) (hu : NT u) : Wd fx F μ (upd H D o) st :=
  w.kp (Kp.app nf h hu) w.nf (fun a f => upd_live (w.ft a f)) fun a m o' ha => by
    rw [upd_ne (show a ≠ D from fun z => nm (z ▸ m))]; exact ha
/-- the new list so far -/
structure Acc (fx : Fx) (F1 : Addr → Prop) (μ1 : List Addr) (H1 : Hp) (D : Addr) (F' : Addr → Prop) (μ' : List Addr) (H' : Hp) (st' : St) (us : List T) : Prop where
  step : Step F1 μ1 H1 F' μ' H'
  wd : Wd fx F' μ' H' st'
  nm : D ∉ μ'
  nf : ¬ F' D
  at_ : ∃ acc, H' D = some (.lst acc) ∧ Reps fx F' μ' H' us acc
theorem Acc.go {us : List T} (a : Acc fx F1 μ1 H1 D F' μ' H' st' us) (s : Step F' μ' H' F'' μ'' H'') (w : Wd fx F'' μ'' H'' st'') : Acc fx F1 μ1 H1 D F'' μ'' H'' st'' us := by
  obtain ⟨acc, h, r⟩ := a.at_
  have rd := s.rd a.nm (.inl h)
  refine ⟨a.step.trans s, w, rd.2, fun f => ?_, acc, s.fr D _ h a.nm, Reps.kp (s.kp a.wd) _ _ r⟩
  rcases s.new D f with z | z
  · exact a.nf z
  · rw [z] at h; cases h
theorem Acc.start (w : Wd fx F1 μ1 H1 st) (n : H1 D = none) : Acc fx F1 μ1 H1 D F1 μ1 (upd H1 D (.lst [])) st [] :=
  ⟨Step.lay n, w.lay n, w.fresh n, fun f => w.ft D f n, [], upd_same, Reps.nil⟩
theorem Acc.app {us : List T} {o : Bool} {t : T} {v : V} (hn : H1 D = none) (a : Acc fx F1 μ1 H1 D F' μ' H' st' us) (s : Step F' μ' H' F'' μ'' H'') (w : Wd fx F'' μ'' H'' st'') (r : Res fx H' F'' μ'' H'' o t v) :
    ∃ acc, H'' D = some (.lst acc) ∧ acc.length = us.length ∧ ∃ G, Acc fx F1 μ1 H1 D G μ'' (upd H'' D (.lst (acc ++ [v]))) st'' (us ++ [t]) := by
  obtain ⟨G, s2, w2, kp, r2⟩ := r.known s w
  have a2 := a.go s2 w2
  obtain ⟨acc, h, rs⟩ := a2.at_
  refine ⟨acc, h, rs.len, G, a2.step.app hn, w2.app a2.nf a2.nm h ⟨fun _ z => (nomatch z), fun _ _ z => (nomatch z)⟩, a2.nm, a2.nf, _, upd_same, ?_⟩
  have k := Kp.app (o := .lst (acc ++ [v])) (μ := μ'') a2.nf h ⟨fun _ z => (nomatch z), fun _ _ z => (nomatch z)⟩
  exact (Reps.kp k _ _ rs).app (Reps.cons (Rep.kp k _ _ r2) Reps.nil)
end

theorem gx_blk {ax : Ax} {X : Cx} {cc : Cc} {Wx : WX} (g : Gx ax X cc Wx) (scope : Scope) (s : Shared) (H : Hp) (C : Addr) (cl : List (Str × Addr)) (fp : List Addr) : Gx ax (X.blk s H scope (compEnvC scope cl C X.env) fp) (cc.blk scope) WN where
  bx := ⟨g.bx.calm, g.bx.hK, g.bx.tab, g.bx.un⟩
  hN := g.hN
  hs := by
    show relS scope X.env.scope = relS scope cc.sc
    rw [g.hs]
  hf := rfl
  nd := g.nd
  ht := g.ht
  free := g.free
  cons := g.cons
  fns := g.fns
  tk := takes0

section
variable {ax : Ax} {X : Cx} {cc : Cc} {Wx : WX}
theorem compL_cons (f : T → St → R (List T × St)) (t : T) (ts : List T) (st : St) : compL f (t :: ts) st = (f t st).bind fun x => (compL f ts x.2).bind fun y => .ok (x.1 ++ y.1, y.2) := rfl
/-- what is still to come: from the items not yet walked -/
def Cm (f : T → St → R (List T × St)) (ts : List T) (us : List T) (st : St) (K : (List T × St) → Prop) : Prop := (compL f ts st).post (fun r => (us ++ r.1).length ≤ SZ ∧ K (us ++ r.1, r.2)) fun _ _ _ => False
theorem Cm.nil {f : T → St → R (List T × St)} {us : List T} {st : St} {K : (List T × St) → Prop} (h : Cm f [] us st K) : us.length ≤ SZ ∧ K (us, st) := by
  have h : (us ++ []).length ≤ SZ ∧ K (us ++ [], st) := h
  rwa [List.append_nil] at h
theorem Cm.cons {f : T → St → R (List T × St)} {t : T} {ts us : List T} {st : St} {K : (List T × St) → Prop} (h : Cm f (t :: ts) us st K) : (f t st).post (fun x => Cm f ts (us ++ x.1) x.2 K) fun _ _ _ => False := by
  unfold Cm at h
  rw [compL_cons, R.post_bind] at h
  refine R.post_imp h (fun x k => ?_) fun _ _ _ z => z
  rw [R.post_bind] at k
  refine R.post_imp k (fun y k => ?_) fun _ _ _ z => z
  have k : (us ++ (x.1 ++ y.1)).length ≤ SZ ∧ K (us ++ (x.1 ++ y.1), y.2) := k
  rwa [← List.append_assoc] at k
theorem Cm.le {f : T → St → R (List T × St)} {ts us : List T} {st : St} {K : (List T × St) → Prop} (h : Cm f ts us st K) : us.length ≤ SZ := by
  unfold Cm at h
  cases e : compL f ts st with
  | ok r =>
    rw [e] at h
    have h1 := h.1
    rw [List.length_append] at h1
    omega
  | exc c fs s => rw [e] at h; exact h.elim
  | bad => rw [e] at h; exact h.elim
def cOne (C : Cal) (g : G) (c e : E) (Γ : Env) : T → St → R (List T × St) := fun t s => match asgG g t Γ with
  | none => .bad
  | some Γ1 => (boolR (evE C c Γ1 s)).bind fun y => if y.1 = true then (evE C e Γ1 y.2).bind fun z => .ok ([z.2.1], z.2.2) else .ok ([], y.2)
theorem pts_true0 : PTs X [] (tT ax Wx (.c (.bl true))) := pts_nil.weak fun σ H Q ⟨H0, F, μ, Γ, st, sl, w, q⟩ => q H F μ (Step.refl F μ H) w
theorem R.post_ok {α : Type} {a : α} {k : α → Prop} {x : Nat → List T → St → Prop} (h : (R.ok a).post k x) : k a := h
/-- the comprehension's turns -/
theorem comp_turns {own : List Nat} {g : G} {it : I} {c e : E} {σ : L2.St} {H : Hp} {Q : VK} (ho : ∀ i ∈ g.sl, i ∈ own)
    (h : ∃ H0 F μ Γ st q, Sl ax.fx H0 F μ Γ σ H ∧ Wd ax.fx F μ H st ∧ lkI F it σ H q ∧ PostR ax Wx false F μ H σ (evE ax.C (.comp own g it c e) Γ st) Q) : tLc (tI ax Wx true it) (tG ax g) (tT ax WN c) (tM ax WN false e) own σ H Q := by
  obtain ⟨H0, F, μ, Γ, st, q, sl, w, lk, hp⟩ := h
  have hp : R.post ((evI ax.C it Γ st).bind fun x => (R.noexc (compL (cOne ax.C g c e (wipe Γ own)) x.1 x.2)).bind fun r => if r.1.length ≤ SZ then .ok (true, .lst r.1, r.2) else .bad : X3) _ _ := hp
  rw [R.post_bind] at hp
  refine seqI sl w lk (fun z => nomatch z) (Step.refl F μ H) hp fun x J H1 F1 μ1 k s1 w1 yl sl1 s01 => ?_
  rw [R.post_bind] at k
  have k := R.post_noexc k
  obtain ⟨ts, st1⟩ := x
  have k : Cm (cOne ax.C g c e (wipe Γ own)) ts [] st1 (fun r => ∀ v H' F' μ', Step F μ H F' μ' H' → Wd ax.fx F' μ' H' r.2 → ModeR false ax.fx H F' μ' H' true (.lst r.1) v → Q v H') := by
    refine R.post_imp k (fun r k => ?_) fun _ _ _ z => z
    split at k
    · rename_i hz
      exact ⟨hz, k⟩
    · exact k.elim
  intro D hD
  refine ⟨fun i m H' => m + i = ts.length ∧ ∃ F' μ' st' us, Acc ax.fx F1 μ1 H1 D F' μ' H' st' us ∧ Cm (cOne ax.C g c e (wipe Γ own)) (ts.drop i) us st' (fun r => ∀ v H' F' μ', Step F μ H F' μ' H' → Wd ax.fx F' μ' H' r.2 → ModeR false ax.fx H F' μ' H' true (.lst r.1) v → Q v H'),
    ⟨ts.length, rfl, F1, μ1, st1, [], Acc.start w1 hD, k⟩, ?_⟩
  rintro i m H2 ⟨hm, F2, μ2, st2, us, a2, k2⟩
  have y2 := yl F2 μ2 H2 a2.step
  by_cases hi : i < ts.length
  · refine .inr ?_
    have et : ts[i]? = some ts[i] := List.getElem?_eq_getElem hi
    obtain ⟨go, yy⟩ := y2.1 i _ et
    refine ⟨go, fun H' => (m - 1) + (i + 1) = ts.length ∧ ∃ F' μ' st' us, Acc ax.fx F1 μ1 H1 D F' μ' H' st' us ∧ Cm (cOne ax.C g c e (wipe Γ own)) (ts.drop (i + 1)) us st' _, fun H' n => ⟨m - 1, by omega, n⟩, fun x H3 y => ?_⟩
    obtain ⟨s3, w3, r3⟩ := yy x H3 y
    have a3 := a2.go s3 (w3 _ a2.wd)
    rw [List.drop_eq_getElem_cons hi] at k2
    have k3 := k2.cons
    have hg : ∃ Γ1, asgG g ts[i] (wipe Γ own) = some Γ1 := by
      cases z : asgG g ts[i] (wipe Γ own) with
      | some Γ1 => exact ⟨Γ1, rfl⟩
      | none =>
        have k3 : R.post (match asgG g ts[i] (wipe Γ own) with | none => .bad | some Γ1 => _ : R (List T × St)) _ _ := k3
        rw [z] at k3; exact k3.elim
    obtain ⟨Γ1, hg⟩ := hg
    have k3 : R.post (match asgG g ts[i] (wipe Γ own) with
      | none => .bad
      | some Γ1 => (boolR (evE ax.C c Γ1 st2)).bind fun y => if y.1 = true then (evE ax.C e Γ1 y.2).bind fun z => .ok ([z.2.1], z.2.2) else .ok ([], y.2) : R (List T × St)) _ _ := k3
    rw [hg] at k3
    have k3 : R.post ((boolR (evE ax.C c Γ1 st2)).bind fun y => if y.1 = true then (evE ax.C e Γ1 y.2).bind fun z => .ok ([z.2.1], z.2.2) else .ok ([], y.2) : R (List T × St)) _ _ := k3
    rw [R.post_bind] at k3
    refine ⟨H0, F2, μ2, wipe Γ own, ts[i], Γ1, (sl1.step a3.step w1).wipe own, r3, hg, fun σ' sl' hw _ => ⟨(hw own ho).trans (wipe_wipe own σ), ?_⟩⟩
    refine seqT sl' a3.wd (Step.refl F2 μ2 H3) (R.post_imp k3 (fun _ z => z) fun _ _ _ z => z.elim) fun y H4 F4 μ4 k4 s4 w4 sl4 s04 => ?_
    have a4 := a3.go s4 w4
    split at k4
    · rename_i hy
      rw [if_pos hy]
      rw [R.post_bind] at k4
      refine seqE (m := false) sl4 w4 (Step.refl F4 μ4 H4) (R.post_imp k4 (fun _ z => z) fun _ _ _ z => z.elim) fun z v H5 F5 μ5 k5 s5 w5 r5 sl5 s05 => ?_
      replace k5 := R.post_ok k5
      dsimp only at k5
      obtain ⟨acc, h5, hl, G, a5⟩ := a4.app hD s5 w5 r5
      refine ⟨acc, h5, ?_, by omega, G, μ5, z.2.2, _, a5, k5⟩
      have := k5.le
      rw [List.length_append] at this
      have := szL (n := acc.length + 1) (by rw [hl]; simpa using this)
      omega
    · rename_i hy
      rw [if_neg hy]
      replace k4 := R.post_ok k4
      dsimp only at k4
      rw [List.append_nil] at k4
      exact ⟨by omega, F4, μ4, y.2, us, a4, k4⟩
  · have ei : i = ts.length := by omega
    subst ei
    refine .inl ⟨y2.2, ?_⟩
    rw [List.drop_length] at k2
    obtain ⟨hz, k2⟩ := k2.nil
    obtain ⟨acc, hacc, racc⟩ := a2.at_
    exact k2 _ H2 F2 μ2 (s01.trans a2.step) a2.wd (Res.own ⟨D, acc, rfl, a2.nf, a2.nm, hacc, racc⟩ ⟨D, rfl, s1.live D hD⟩)
end
end Ev
end

section
set_option autoImplicit false
set_option linter.all false
set_option maxRecDepth 100000
set_option maxHeartbeats 1000000
/-! EvP: comprehensions as values; a dict walked is locked. -/
namespace Ev
open PySem PySem.Spec PyProof.Rows L2

section
variable {fx : Fx} {F F' : Addr → Prop} {μ μ' : List Addr} {H H' H0 : Hp} {st st' : St} {d : Addr} {od : Obj} {u : HO} {Γ : Env} {σ : L2.St}
theorem Dt.notup (h : Dt u) : ∀ xs, u ≠ .tup xs := by
  rintro xs rfl
  rcases h with ⟨_, h⟩ | ⟨_, h⟩ | ⟨_, h⟩ <;> cases h
theorem Dt.nofrz (h : Dt u) : ∀ o v, u ≠ .frz o v := by
  rintro o v rfl
  rcases h with ⟨_, h⟩ | ⟨_, h⟩ | ⟨_, h⟩ <;> cases h
theorem Dt.mut (h : Dt u) : Mut (some u) := by
  rcases h with ⟨_, rfl⟩ | ⟨_, rfl⟩ | ⟨_, rfl⟩ <;> trivial
theorem Kp.lock (h : H d = some u) (hu : Dt u) : Kp F μ H F μ (upd H d (.frz od u)) where
  sub := fun _ h => h
  pre := ⟨[], (List.append_nil μ).symm⟩
  tup := fun b xs hb => by
    by_cases e : b = d
    · rw [e, h] at hb; cases hb; exact absurd rfl (hu.notup xs)
    · rw [upd_ne e]; exact hb
  xt := fun b z xs hb => by
    by_cases e : b = d
    · rw [e, h] at hb; cases hb; exact absurd rfl (hu.nofrz z _)
    · rw [upd_ne e]; exact hb
  lst := fun b v _ _ hb => by
    by_cases e : b = d
    · subst e
      rcases hb with hb | ⟨z, hb⟩
      · rw [h] at hb; cases hb; exact .inr ⟨od, upd_same⟩
      · rw [h] at hb; cases hb; exact absurd rfl (hu.nofrz z v)
    · rcases hb with hb | ⟨z, hb⟩
      · exact .inl (by rw [upd_ne e]; exact hb)
      · exact .inr ⟨z, by rw [upd_ne e]; exact hb⟩
theorem Kp.unlock (h : H d = some (.frz od u)) (hu : Dt u) : Kp F μ H F μ (upd H d u) where
  sub := fun _ h => h
  pre := ⟨[], (List.append_nil μ).symm⟩
  tup := fun b xs hb => by
    by_cases e : b = d
    · rw [e, h] at hb; cases hb
    · rw [upd_ne e]; exact hb
  xt := fun b z xs hb => by
    by_cases e : b = d
    · rw [e, h] at hb; cases hb; exact absurd rfl (hu.notup xs)
    · rw [upd_ne e]; exact hb
  lst := fun b v hv _ hb => by
    by_cases e : b = d
    · subst e
      rcases hb with hb | ⟨z, hb⟩
      · rw [h] at hb; cases hb
        exact absurd rfl (hv.nofrz od u)
      · rw [h] at hb; cases hb; exact .inl upd_same
    · rcases hb with hb | ⟨z, hb⟩
      · exact .inl (by rw [upd_ne e]; exact hb)
      · exact .inr ⟨z, by rw [upd_ne e]; exact hb⟩
theorem ORep.at {G : Hp} (k : Kp F μ H F μ G) (hs : ∀ a o, ¬ F a → H a = some o → G a = some o) : ∀ {t : T} {v : V}, ORep fx F μ H t v → ORep fx F μ G t v
  | .lst ts, v, h => let ⟨a, vs, e, f, m, ha, r⟩ := h; ⟨a, vs, e, f, m, hs a _ f ha, Reps.kp k _ _ r⟩
  | .dK ks ts, v, h => let ⟨a, ws, e, f, m, ha, r1, r⟩ := h; ⟨a, ws, e, f, m, hs a _ f ha, r1, Reps.kp k _ _ r⟩
  | .dT ks ts, v, h => let ⟨a, ws, e, f, m, ha, r1, r⟩ := h; ⟨a, ws, e, f, m, hs a _ f ha, r1, Reps.kp k _ _ r⟩
theorem Sl.at {G : Hp} (s : Sl fx H0 F μ Γ σ H) (k : Kp F μ H F μ G) (hs : ∀ a o, ¬ F a → H a = some o → G a = some o) : Sl fx H0 F μ Γ σ G where
  len := s.len
  kn := fun i t h => let ⟨v, e, r⟩ := s.kn i t h; ⟨v, e, Rep.kp k t v r⟩
  ow := fun i t h => let ⟨v, e, r, n⟩ := s.ow i t h; ⟨v, e, r.at k hs, n⟩
  ap := s.ap
theorem Wd.at {G : Hp} (w : Wd fx F μ H st) (k : Kp F μ H F μ G) (hs : ∀ a o, ¬ F a → H a = some o → G a = some o) (hl : ∀ a, H a ≠ none → G a ≠ none) : Wd fx F μ G st :=
  w.kp k w.nf (fun a f => hl a (w.ft a f)) fun a m o h => hs a o (w.nf a m) h
theorem keep_upd {v : HO} (fd : F d) : ∀ a o, ¬ F a → H a = some o → upd H d v a = some o := fun a o nf h => by
  rw [upd_ne (show a ≠ d from fun z => nf (z ▸ fd))]; exact h
/-- from the unlocked to the unlocked -/
theorem Step.unlock (s : Step F μ (upd H d (.frz od u)) F' μ' H') (h : H d = some u) (nm : d ∉ μ) : Step F μ H F' μ' (upd H' d u) where
  fr := fun b o hb m => by
    by_cases e : b = d
    · subst e; rw [h] at hb; cases hb; exact upd_same
    · rw [upd_ne e]; exact s.fr b o (by rw [upd_ne e]; exact hb) m
  sub := s.sub
  new := fun a f => by
    rcases s.new a f with z | z
    · exact .inl z
    · by_cases e : a = d
      · subst e; rw [upd_same] at z; cases z
      · rw [upd_ne e] at z; exact .inr z
  cells := by
    obtain ⟨ν, e, hn⟩ := s.cells
    refine ⟨ν, e, fun a m => ?_⟩
    have z := hn a m
    by_cases e : a = d
    · subst e; rw [upd_same] at z; cases z
    · rw [upd_ne e] at z; exact z
  live := fun b hb => by
    by_cases e : b = d
    · subst e; rw [upd_same] at hb; cases hb
    · rw [upd_ne e] at hb
      have := s.live b hb
      rw [upd_ne e] at this; exact this
theorem Res.unlock {o : Bool} {t : T} {v : V} (r : Res fx (upd H d (.frz od u)) F' μ' H' o t v) (h : H' d = some (.frz od u)) (hu : Dt u) (fd : F' d) : Res fx H F' μ' (upd H' d u) o t v := by
  unfold Res at r ⊢
  cases o with
  | false => exact Rep.kp (Kp.unlock h hu) _ _ r
  | true =>
    obtain ⟨r, a, e, n⟩ := r
    refine ⟨r.at (Kp.unlock h hu) (keep_upd fd), a, e, ?_⟩
    by_cases z : a = d
    · subst z; rw [upd_same] at n; cases n
    · rw [upd_ne z] at n; exact n
end
section
variable {ax : Ax} {X : Cx} {cc : Cc} {Wx : WX}
theorem kn_dict {H0 : Hp} {F : Addr → Prop} {μ : List Addr} {H : Hp} {Γ : Env} {σ : L2.St} {fx : Fx} {i : Nat} {t : T} (sl : Sl fx H0 F μ Γ σ H) (h : rdF Γ i = some t) (ht : (∃ ks ts, t = .dK ks ts) ∨ ∃ ks ts, t = .dT ks ts) :
    ∃ d u, σ[i]? = some (some (.ref d)) ∧ F d ∧ Dt u ∧ Rd H d u := by
  obtain ⟨v, hv, r⟩ := sl.rdF h
  rcases ht with ⟨ks, ts, rfl⟩ | ⟨ks, ts, rfl⟩
  · unfold Rep at r
    obtain ⟨a, ws, rfl, fa, ha, _⟩ := r
    exact ⟨a, _, hv, fa, .k, ha⟩
  · unfold Rep at r
    obtain ⟨a, ws, rfl, fa, ha, _⟩ := r
    exact ⟨a, _, hv, fa, .t, ha⟩
theorem keys_dict {C : Cal} {i : Nat} {Γ : Env} {st : St} {K : (List T × St) → Prop} {x : Nat → List T → St → Prop} (h : (evI C (.keys i) Γ st).post K x) : ∃ t, rdF Γ i = some t ∧ ((∃ ks ts, t = .dK ks ts) ∨ ∃ ks ts, t = .dT ks ts) ∧ ∃ r, evI C (.keys i) Γ st = .ok r := by
  have h : R.post (match rdF Γ i with
    | some (.dK ks _) => .ok (ks.map Ky.t, st)
    | some (.dT ks _) => .ok (ks.map kTup, st)
    | _ => .bad : R (List T × St)) K x := h
  cases e : rdF Γ i with
  | none => rw [e] at h; exact h.elim
  | some t =>
    rw [e] at h
    have e2 : evI C (.keys i) Γ st = match rdF Γ i with
      | some (.dK ks _) => .ok (ks.map Ky.t, st)
      | some (.dT ks _) => .ok (ks.map kTup, st)
      | _ => .bad := rfl
    rw [e] at e2
    cases t <;> first
      | exact h.elim
      | exact ⟨_, rfl, .inl ⟨_, _, rfl⟩, _, e2⟩
      | exact ⟨_, rfl, .inr ⟨_, _, rfl⟩, _, e2⟩
/-- a reading that needs the dict locked -/
theorem lock_read {e : E} {it : I} {t : TE} (hne : ∀ Γ st i, it = .keys i → (∃ r, evI ax.C it Γ st = .ok r) → ∀ c fs s, evE ax.C e Γ st ≠ .exc c fs s) (hit : ∀ Γ st K x, R.post (evE ax.C e Γ st) K x → ∃ K' x', R.post (evI ax.C it Γ st) K' x')
    (ht : ∀ σ H Q, (∃ H0 F μ Γ st q, Sl ax.fx H0 F μ Γ σ H ∧ Wd ax.fx F μ H st ∧ lkI F it σ H q ∧ PostR ax Wx false F μ H σ (evE ax.C e Γ st) Q) → t σ H Q)
    {σ : L2.St} {H : Hp} {Q : VK} (h : ∃ H0 F μ Γ st, Sl ax.fx H0 F μ Γ σ H ∧ Wd ax.fx F μ H st ∧ PostR ax Wx false F μ H σ (evE ax.C e Γ st) Q) : t σ H Q ∨ tLockE t σ H Q := by
  obtain ⟨H0, F, μ, Γ, st, sl, w, q⟩ := h
  cases it <;> first
    | exact .inl (ht σ H Q ⟨H0, F, μ, Γ, st, none, sl, w, rfl, q⟩)
    | skip
  rename_i i
  obtain ⟨K', x', qi⟩ := hit Γ st _ _ q
  obtain ⟨tt, e1, hd, r, er⟩ := keys_dict qi
  obtain ⟨d, u, hσ, fd, hu, rd⟩ := kn_dict sl e1 hd
  have nm : d ∉ μ := fun z => w.nf d z fd
  rcases rd with hH | ⟨od, hH⟩
  · refine .inr ⟨d, u, hH, hu.mut, fun od => ht σ _ _ ⟨H0, F, μ, Γ, st, some (d, od, u), sl.at (Kp.lock hH hu) (keep_upd fd), w.at (Kp.lock hH hu) (keep_upd fd) (fun a n => upd_live n), ⟨d, od, u, rfl, hσ, upd_same, fd⟩, ?_⟩⟩
    have ne := hne Γ st i rfl ⟨r, er⟩
    unfold PostR at q ⊢
    cases z : evE ax.C e Γ st with
    | bad => rw [z] at q; exact q.elim
    | exc c fs s => exact absurd z (ne c fs s)
    | ok x =>
      rw [z] at q
      intro v H' F' μ' s w' m
      have hd' : H' d = some (.frz od u) := s.fr d _ upd_same nm
      have fd' := s.sub d fd
      exact ⟨hd', q v _ F' μ' (s.unlock hH nm) (w'.at (Kp.unlock hd' hu) (keep_upd fd') fun a n => upd_live n) (Res.unlock m hd' hu fd')⟩
  · exact .inl (ht σ H Q ⟨H0, F, μ, Γ, st, some (d, od, u), sl, w, ⟨d, od, u, rfl, hσ, hH, fd⟩, q⟩)
theorem noexc_bind {α : Type} {r : R α} {f : α → X3} (hf : ∀ a c fs s, f a ≠ .exc c fs s) : ∀ c fs s, (r.noexc.bind f) ≠ .exc c fs s := by
  intro c fs s
  cases r with
  | ok a => exact hf a c fs s
  | exc _ _ _ => exact fun z => nomatch z
  | bad => exact fun z => nomatch z
theorem lst_noexc {r : List T × St} : ∀ c fs s, (if r.1.length ≤ SZ then .ok (true, .lst r.1, r.2) else .bad : X3) ≠ .exc c fs s := by
  intro c fs s
  split <;> exact fun z => nomatch z
theorem comp_read {own : List Nat} {g : G} {it : I} {c e : E} {σ : L2.St} {H : Hp} {Q : VK} (ho : ∀ i ∈ g.sl, i ∈ own) (h : tM ax Wx false (.comp own g it c e) σ H Q) :
    tLc (tI ax Wx true it) (tG ax g) (tT ax WN c) (tM ax WN false e) own σ H Q ∨ tLockE (tLc (tI ax Wx true it) (tG ax g) (tT ax WN c) (tM ax WN false e) own) σ H Q :=
  lock_read (e := .comp own g it c e) (it := it) (fun Γ st i ei ⟨r, er⟩ c' fs s => by
      show ((evI ax.C it Γ st).bind fun x => (R.noexc (compL (cOne ax.C g c e (wipe Γ own)) x.1 x.2)).bind fun r => if r.1.length ≤ SZ then .ok (true, .lst r.1, r.2) else .bad : X3) ≠ _
      rw [er]
      exact noexc_bind (fun r => lst_noexc) c' fs s)
    (fun Γ st K x q => by
      have q : R.post ((evI ax.C it Γ st).bind fun x => (R.noexc (compL (cOne ax.C g c e (wipe Γ own)) x.1 x.2)).bind fun r => if r.1.length ≤ SZ then .ok (true, .lst r.1, r.2) else .bad : X3) _ _ := q
      rw [R.post_bind] at q
      exact ⟨_, _, q⟩) (fun σ H Q h => comp_turns ho h) h
theorem blk_of (g : Gx ax X cc Wx) {scope : Scope} {own : List Nat} (h : cc.blkOk scope own = true) : BlkOk X.N X.env.scope scope (cc.own own) ∧ (cc.own own).map (·.2) = own := by
  unfold Cc.blkOk at h
  simp only [Bool.and_eq_true, decide_eq_true_eq] at h
  exact ⟨by rw [g.hN, g.hs]; exact blkOk_by h.1, h.2⟩
section
variable {own : List Nat} {gt : G} {it : I} {c e : E} {tg iter elt : Expr} {ifs : List Expr} {scope : Scope} {pos : Pos}
theorem snd_comp (g : Gx ax X cc Wx) (hb : cc.blkOk scope own = true) (hi : PI X tg iter (tI ax Wx true it)) (hg : chkG (cc.blk scope) gt tg = true) (ho : ∀ i ∈ gt.sl, i ∈ own)
    (ht : ∀ (s : Shared) (H : Hp) (C : Addr) (cl : List (Str × Addr)) (fp : List Addr), PTs (X.blk s H scope (compEnvC scope cl C X.env) fp) ifs (tT ax WN c))
    (he : ∀ (s : Shared) (H : Hp) (C : Addr) (cl : List (Str × Addr)) (fp : List Addr), PE (X.blk s H scope (compEnvC scope cl C X.env) fp) elt (tM ax WN false e)) (hs : ∀ x, foldedSetIterable iter X.env x = pure x) :
    PE X (.ListComp elt [⟨tg, iter, ifs, 0⟩] scope pos) (tM ax Wx false (.comp own gt it c e)) := by
  obtain ⟨b1, b2⟩ := blk_of g hb
  have p := pe_lc (pos := pos) g.bx.calm g.nd hi b1 (fun s H C cl fp => pg_all (gx_blk g scope s H C cl fp) hg) ht he hs
  rw [b2] at p
  exact (p.or (pe_lock p)).weak fun σ H Q h => comp_read ho h
theorem set_comp (g : Gx ax X cc Wx) {i : Nat} {y : Str} {py spos : Pos} (hy : X.N[i]? = some y) (hyl : X.env.scope.names.lookup y = some .local) (hsw : swapsWith (.ListComp elt [⟨tg, iter, ifs, 0⟩] scope pos) (some (.Name y py)) spos.line X.env = pure true)
    (hb : cc.blkOk scope own = true) (hi : PI X tg iter (tI ax Wx true it)) (hg : chkG (cc.blk scope) gt tg = true) (ho : ∀ i ∈ gt.sl, i ∈ own)
    (ht : ∀ (s : Shared) (H : Hp) (C : Addr) (cl : List (Str × Addr)) (fp : List Addr), PTs (X.blk s H scope (compEnvC scope cl C X.env) fp) ifs (tT ax WN c))
    (he : ∀ (s : Shared) (H : Hp) (C : Addr) (cl : List (Str × Addr)) (fp : List Addr), PE (X.blk s H scope (compEnvC scope cl C X.env) fp) elt (tM ax WN false e)) (hs : ∀ x, foldedSetIterable iter X.env x = pure x) :
    PS X (.Assign [.Name y py] (.ListComp elt [⟨tg, iter, ifs, 0⟩] scope pos) spos) (tAsg (tM ax Wx false (.comp own gt it c e)) (gName i)) := by
  obtain ⟨b1, b2⟩ := blk_of g hb
  have p := ps_setLc (i := i) (y := y) (py := py) (pos := pos) (spos := spos) g.bx.calm g.nd hy hyl hsw hi b1 (fun s H C cl fp => pg_all (gx_blk g scope s H C cl fp) hg) ht he hs
  rw [b2] at p
  exact (p.or (ps_lock p)).weak fun D σ H h => comp_read ho h
end
end
end Ev
end

section
set_option autoImplicit false
set_option linter.all false
set_option maxRecDepth 100000
set_option maxHeartbeats 1000000
/-! EvQ: comprehensions with two clauses. -/
namespace Ev
open PySem PySem.Spec PyProof.Rows L2
section
variable {fx : Fx} {F F1 F' F'' : Addr → Prop} {μ μ1 μ' μ'' : List Addr} {H H1 H' H'' H0 : Hp} {st st' st'' : St} {D : Addr} {Γ Γ1 : Env} {σ σ1 : L2.St}
/-- D is no own slot's -/
def NoD (Γ : Env) (σ : L2.St) (D : Addr) : Prop := ∀ (i : Nat) t v, Γ[i]? = some (some (true, t)) → σ[i]? = some (some v) → v ≠ .ref D
theorem NoD.of (s : Sl fx H0 F μ Γ σ H) (n : H D = none) : NoD Γ σ D := fun i t v h1 h2 z => by
  obtain ⟨v', e1, q, _⟩ := s.ow i t h1
  rw [h2] at e1; cases e1
  obtain ⟨c, ec, nc⟩ := q.addr
  rw [z] at ec; cases ec
  exact nc n
theorem NoD.own (n : NoD Γ σ D) (o : OwnS Γ σ Γ1 σ1) : NoD Γ1 σ1 D := fun i t v h1 h2 => n i t v (o i t v h1 h2).1 (o i t v h1 h2).2
theorem ORep.app {o u : HO} (nf : ¬ F D) (h : H D = some u) (hu : NT u) : ∀ {t : T} {v : V}, ORep fx F μ H t v → v ≠ .ref D → ORep fx F μ (upd H D o) t v
  | .lst ts, v, q, n => by
    obtain ⟨a, vs, e, f, m, ha, r⟩ := q
    exact ⟨a, vs, e, f, m, by rw [upd_ne (show a ≠ D from fun z => n (by rw [e, z]))]; exact ha, Reps.kp (Kp.app nf h hu) _ _ r⟩
  | .dK ks ts, v, q, n => by
    obtain ⟨a, ws, e, f, m, ha, r1, r⟩ := q
    exact ⟨a, ws, e, f, m, by rw [upd_ne (show a ≠ D from fun z => n (by rw [e, z]))]; exact ha, r1, Reps.kp (Kp.app nf h hu) _ _ r⟩
  | .dT ks ts, v, q, n => by
    obtain ⟨a, ws, e, f, m, ha, r1, r⟩ := q
    exact ⟨a, ws, e, f, m, by rw [upd_ne (show a ≠ D from fun z => n (by rw [e, z]))]; exact ha, r1, Reps.kp (Kp.app nf h hu) _ _ r⟩
theorem Sl.app {o u : HO} (s : Sl fx H0 F μ Γ σ H) (nd : NoD Γ σ D) (nf : ¬ F D) (h : H D = some u) (hu : NT u) : Sl fx H0 F μ Γ σ (upd H D o) where
  len := s.len
  kn := fun i t e => let ⟨v, e, r⟩ := s.kn i t e; ⟨v, e, Rep.kp (Kp.app nf h hu) t v r⟩
  ow := fun i t e => let ⟨v, e1, r, k⟩ := s.ow i t e; ⟨v, e1, r.app nf h hu (nd i t v e e1), k⟩
  ap := s.ap
end
section
variable {ax : Ax} {X : Cx} {cc : Cc} {Wx : WX}
def Cm2 (f : T → St → R (List T × St)) (ts : List T) (us : List T) (st : St) (K : List T → St → Prop) : Prop := (compL f ts st).post (fun r => K (us ++ r.1) r.2) fun _ _ _ => False
theorem Cm2.nil {f : T → St → R (List T × St)} {us : List T} {st : St} {K : List T → St → Prop} (h : Cm2 f [] us st K) : K us st := by
  have h : K (us ++ []) st := h
  rwa [List.append_nil] at h
theorem Cm2.cons {f : T → St → R (List T × St)} {t : T} {ts us : List T} {st : St} {K : List T → St → Prop} (h : Cm2 f (t :: ts) us st K) : (f t st).post (fun x => Cm2 f ts (us ++ x.1) x.2 K) fun _ _ _ => False := by
  unfold Cm2 at h
  rw [compL_cons, R.post_bind] at h
  refine R.post_imp h (fun x k => ?_) fun _ _ _ z => z
  rw [R.post_bind] at k
  refine R.post_imp k (fun y k => ?_) fun _ _ _ z => z
  have k : K (us ++ (x.1 ++ y.1)) y.2 := k
  rwa [← List.append_assoc] at k
theorem Cm2.le {f : T → St → R (List T × St)} {ts us : List T} {st : St} {K : List T → St → Prop} (hK : ∀ us st, K us st → us.length ≤ SZ) (h : Cm2 f ts us st K) : us.length ≤ SZ := by
  unfold Cm2 at h
  cases e : compL f ts st with
  | ok r =>
    rw [e] at h
    have h1 := hK _ _ h
    rw [List.length_append] at h1
    omega
  | exc c fs s => rw [e] at h; exact h.elim
  | bad => rw [e] at h; exact h.elim
def cIn (C : Cal) (g2 : G) (e : E) (Γ : Env) : T → St → R (List T × St) := fun t2 s2 => match asgG g2 t2 Γ with
  | none => .bad
  | some Γ2 => (evE C e Γ2 s2).bind fun z => .ok ([z.2.1], z.2.2)
def cOut (C : Cal) (g : G) (own2 : List Nat) (g2 : G) (it2 : I) (e : E) (Γ : Env) : T → St → R (List T × St) := fun t s => match asgG g t Γ with
  | none => .bad
  | some Γ1 => if retI Γ1 it2 = true then (evI C it2 Γ1 s).bind fun y => compL (cIn C g2 e (wipe Γ1 own2)) y.1 y.2 else .bad
theorem comp2_turns {own own2 : List Nat} {g g2 : G} {it it2 : I} {e : E} {σ : L2.St} {H : Hp} {Q : VK} (ho : ∀ i ∈ g.sl, i ∈ own) (ho2 : ∀ i ∈ g2.sl, i ∈ own2) (hk : it2.noKeys = true)
    (h : ∃ H0 F μ Γ st q, Sl ax.fx H0 F μ Γ σ H ∧ Wd ax.fx F μ H st ∧ lkI F it σ H q ∧ PostR ax Wx false F μ H σ (evE ax.C (.comp2 own g it own2 g2 it2 e) Γ st) Q) :
    tLc2 (tI ax Wx true it) (tG ax g) tYes (tI ax WN false it2) (tG ax g2) tYes (tM ax WN false e) own own2 σ H Q := by
  obtain ⟨H0, F, μ, Γ, st, q, sl, w, lk, hp⟩ := h
  have hp : R.post ((evI ax.C it Γ st).bind fun x => (R.noexc (compL (cOut ax.C g own2 g2 it2 e (wipe Γ own)) x.1 x.2)).bind fun r => if r.1.length ≤ SZ then .ok (true, .lst r.1, r.2) else .bad : X3) _ _ := hp
  rw [R.post_bind] at hp
  refine seqI sl w lk (fun z => nomatch z) (Step.refl F μ H) hp fun x J H1 F1 μ1 k s1 w1 yl sl1 s01 => ?_
  rw [R.post_bind] at k
  have k := R.post_noexc k
  obtain ⟨ts, st1⟩ := x
  have k : Cm (cOut ax.C g own2 g2 it2 e (wipe Γ own)) ts [] st1 (fun r => ∀ v H' F' μ', Step F μ H F' μ' H' → Wd ax.fx F' μ' H' r.2 → ModeR false ax.fx H F' μ' H' true (.lst r.1) v → Q v H') := by
    refine R.post_imp k (fun r k => ?_) fun _ _ _ z => z
    split at k
    · rename_i hz
      exact ⟨hz, k⟩
    · exact k.elim
  intro D hD
  refine ⟨fun i m H' => m + i = ts.length ∧ ∃ F' μ' st' us, Acc ax.fx F1 μ1 H1 D F' μ' H' st' us ∧ Cm (cOut ax.C g own2 g2 it2 e (wipe Γ own)) (ts.drop i) us st' (fun r => ∀ v H' F' μ', Step F μ H F' μ' H' → Wd ax.fx F' μ' H' r.2 → ModeR false ax.fx H F' μ' H' true (.lst r.1) v → Q v H'),
    ⟨ts.length, rfl, F1, μ1, st1, [], Acc.start w1 hD, k⟩, ?_⟩
  rintro i m H2 ⟨hm, F2, μ2, st2, us, a2, k2⟩
  have y2 := yl F2 μ2 H2 a2.step
  by_cases hi : i < ts.length
  · refine .inr ?_
    have et : ts[i]? = some ts[i] := List.getElem?_eq_getElem hi
    obtain ⟨go, yy⟩ := y2.1 i _ et
    refine ⟨go, fun H' => (m - 1) + (i + 1) = ts.length ∧ ∃ F' μ' st' us, Acc ax.fx F1 μ1 H1 D F' μ' H' st' us ∧ Cm (cOut ax.C g own2 g2 it2 e (wipe Γ own)) (ts.drop (i + 1)) us st' _, fun H' n => ⟨m - 1, by omega, n⟩, fun x H3 y => ?_⟩
    obtain ⟨s3, w3, r3⟩ := yy x H3 y
    have a3 := a2.go s3 (w3 _ a2.wd)
    rw [List.drop_eq_getElem_cons hi] at k2
    have k3 := k2.cons
    have hg : ∃ Γ1, asgG g ts[i] (wipe Γ own) = some Γ1 := by
      cases z : asgG g ts[i] (wipe Γ own) with
      | some Γ1 => exact ⟨Γ1, rfl⟩
      | none =>
        have k3 : R.post (match asgG g ts[i] (wipe Γ own) with | none => .bad | some Γ1 => _ : R (List T × St)) _ _ := k3
        rw [z] at k3; exact k3.elim
    obtain ⟨Γ1, hg⟩ := hg
    have k3 : R.post (match asgG g ts[i] (wipe Γ own) with
      | none => .bad
      | some Γ1 => if retI Γ1 it2 = true then (evI ax.C it2 Γ1 st2).bind fun y => compL (cIn ax.C g2 e (wipe Γ1 own2)) y.1 y.2 else .bad : R (List T × St)) _ _ := k3
    rw [hg] at k3
    have k3 : R.post (if retI Γ1 it2 = true then (evI ax.C it2 Γ1 st2).bind fun y => compL (cIn ax.C g2 e (wipe Γ1 own2)) y.1 y.2 else .bad : R (List T × St)) _ _ := k3
    have hret : retI Γ1 it2 = true := by
      cases z : retI Γ1 it2 with
      | true => rfl
      | false => rw [if_neg (by rw [z]; exact Bool.false_ne_true)] at k3; exact k3.elim
    rw [if_pos hret, R.post_bind] at k3
    have nd0 : NoD Γ σ D := NoD.of sl1 hD
    refine ⟨H0, F2, μ2, wipe Γ own, ts[i], Γ1, (sl1.step a3.step w1).wipe own, r3, hg, fun σ' sl' hw ow => ⟨(hw own ho).trans (wipe_wipe own σ), ?_⟩⟩
    have nd1 : NoD Γ1 σ' D := (nd0.own (OwnS.wipe own)).own ow
    show tI ax WN false it2 σ' H3 _
    have lk2 : lkI F2 it2 σ' H3 none := by cases it2 <;> first | rfl | cases hk
    refine seqI sl' a3.wd lk2 (fun _ => hret) (Step.refl F2 μ2 H3) (R.post_imp k3 (fun _ z => z) fun _ _ _ z => z.elim) fun x2 J2 H4 F4 μ4 k4 s4 w4 yl2 sl4 s04 => ?_
    obtain ⟨ts2, st4⟩ := x2
    have a4 := a3.go s4 w4
    dsimp only at k4
    have yl2 : ∀ F' μ' H', Kp F4 μ4 H4 F' μ' H' → Lk none H' → Yat ax.fx F' μ' J2 ts2 H' := yl2
    have k4 : Cm2 (cIn ax.C g2 e (wipe Γ1 own2)) ts2 us st4 (fun us st => Cm (cOut ax.C g own2 g2 it2 e (wipe Γ own)) (ts.drop (i + 1)) us st _) := k4
    refine ⟨fun j k H' => k + j = ts2.length ∧ ∃ F' μ' st' us, Acc ax.fx F1 μ1 H1 D F' μ' H' st' us ∧ Sl ax.fx H0 F' μ' Γ1 σ' H' ∧ Kp F4 μ4 H4 F' μ' H' ∧ Cm2 (cIn ax.C g2 e (wipe Γ1 own2)) (ts2.drop j) us st' (fun us st => Cm (cOut ax.C g own2 g2 it2 e (wipe Γ own)) (ts.drop (i + 1)) us st _),
      ⟨ts2.length, rfl, F4, μ4, st4, us, a4, sl4, Kp.refl F4 μ4 H4, k4⟩, ?_⟩
    rintro j kk H5 ⟨hm2, F5, μ5, st5, us5, a5, sl5, kp5, k5⟩
    have y5 := yl2 F5 μ5 H5 kp5 trivial
    by_cases hj : j < ts2.length
    · refine .inr ?_
      have et2 : ts2[j]? = some ts2[j] := List.getElem?_eq_getElem hj
      obtain ⟨go2, yy2⟩ := y5.1 j _ et2
      refine ⟨go2, fun H' => (kk - 1) + (j + 1) = ts2.length ∧ ∃ F' μ' st' us, Acc ax.fx F1 μ1 H1 D F' μ' H' st' us ∧ Sl ax.fx H0 F' μ' Γ1 σ' H' ∧ Kp F4 μ4 H4 F' μ' H' ∧ Cm2 (cIn ax.C g2 e (wipe Γ1 own2)) (ts2.drop (j + 1)) us st' _, fun H' n => ⟨kk - 1, by omega, n⟩, fun x2 H6 y6 => ?_⟩
      obtain ⟨s6, w6, r6⟩ := yy2 x2 H6 y6
      have a6 := a5.go s6 (w6 _ a5.wd)
      have sl6 := sl5.step s6 a5.wd
      rw [List.drop_eq_getElem_cons hj] at k5
      have k6 := k5.cons
      have hg2 : ∃ Γ2, asgG g2 ts2[j] (wipe Γ1 own2) = some Γ2 := by
        cases z : asgG g2 ts2[j] (wipe Γ1 own2) with
        | some Γ2 => exact ⟨Γ2, rfl⟩
        | none =>
          have k6 : R.post (match asgG g2 ts2[j] (wipe Γ1 own2) with | none => .bad | some Γ2 => _ : R (List T × St)) _ _ := k6
          rw [z] at k6; exact k6.elim
      obtain ⟨Γ2, hg2⟩ := hg2
      have k6 : R.post (match asgG g2 ts2[j] (wipe Γ1 own2) with
        | none => .bad
        | some Γ2 => (evE ax.C e Γ2 st5).bind fun z => .ok ([z.2.1], z.2.2) : R (List T × St)) _ _ := k6
      rw [hg2] at k6
      have k6 : R.post ((evE ax.C e Γ2 st5).bind fun z => .ok ([z.2.1], z.2.2) : R (List T × St)) _ _ := k6
      rw [R.post_bind] at k6
      refine ⟨H0, F5, μ5, wipe Γ1 own2, ts2[j], Γ2, sl6.wipe own2, r6, hg2, fun σ3 sl3 hw2 ow2 => ⟨(hw2 own2 ho2).trans (wipe_wipe own2 σ'), ?_⟩⟩
      show tM ax WN false e σ3 H6 _
      refine seqE (m := false) sl3 a6.wd (Step.refl F5 μ5 H6) (R.post_imp k6 (fun _ z => z) fun _ _ _ z => z.elim) fun z v H7 F7 μ7 k7 s7 w7 r7 sl7 s07 => ?_
      replace k7 := R.post_ok k7
      dsimp only at k7
      obtain ⟨G, s8, w8, kp8, r8⟩ := Res.known s7 w7 r7
      have a8 := a6.go s8 w8
      obtain ⟨acc, h8, rs8⟩ := a8.at_
      have sl8 := sl6.step s8 a6.wd
      have ka := Kp.app (o := .lst (acc ++ [v])) (μ := μ7) a8.nf h8 ⟨fun _ z => (nomatch z), fun _ _ z => (nomatch z)⟩
      refine ⟨acc, h8, ?_, by omega, G, μ7, z.2.2, us5 ++ [z.2.1], ⟨a8.step.app hD, w8.app a8.nf a8.nm h8 ⟨fun _ z => (nomatch z), fun _ _ z => (nomatch z)⟩, a8.nm, a8.nf, _, upd_same, (Reps.kp ka _ _ rs8).app (Reps.cons (Rep.kp ka _ _ r8) Reps.nil)⟩, sl8.app nd1 a8.nf h8 ⟨fun _ z => (nomatch z), fun _ _ z => (nomatch z)⟩, (((kp5.trans (s6.kp a5.wd)).trans (s8.kp a6.wd))).trans ka, k7⟩
      have hle := Cm2.le (fun us st c => c.le) k7
      rw [List.length_append] at hle
      have hl := rs8.len
      have := szL (n := acc.length + 1) (by rw [hl]; simpa using hle)
      omega
    · have ej : j = ts2.length := by omega
      subst ej
      rw [List.drop_length] at k5
      exact .inl ⟨y5.2, by omega, F5, μ5, st5, us5, a5, k5.nil⟩
  · have ei : i = ts.length := by omega
    subst ei
    refine .inl ⟨y2.2, ?_⟩
    rw [List.drop_length] at k2
    obtain ⟨hz, k2⟩ := k2.nil
    obtain ⟨acc, hacc, racc⟩ := a2.at_
    exact k2 _ H2 F2 μ2 (s01.trans a2.step) a2.wd (Res.own ⟨D, acc, rfl, a2.nf, a2.nm, hacc, racc⟩ ⟨D, rfl, s1.live D hD⟩)
theorem comp2_read {own own2 : List Nat} {g g2 : G} {it it2 : I} {e : E} {σ : L2.St} {H : Hp} {Q : VK} (ho : ∀ i ∈ g.sl, i ∈ own) (ho2 : ∀ i ∈ g2.sl, i ∈ own2) (hk : it2.noKeys = true) (h : tM ax Wx false (.comp2 own g it own2 g2 it2 e) σ H Q) :
    tLc2 (tI ax Wx true it) (tG ax g) tYes (tI ax WN false it2) (tG ax g2) tYes (tM ax WN false e) own own2 σ H Q ∨ tLockE (tLc2 (tI ax Wx true it) (tG ax g) tYes (tI ax WN false it2) (tG ax g2) tYes (tM ax WN false e) own own2) σ H Q :=
  lock_read (e := .comp2 own g it own2 g2 it2 e) (it := it) (fun Γ st i ei ⟨r, er⟩ c' fs s => by
      show ((evI ax.C it Γ st).bind fun x => (R.noexc (compL (cOut ax.C g own2 g2 it2 e (wipe Γ own)) x.1 x.2)).bind fun r => if r.1.length ≤ SZ then .ok (true, .lst r.1, r.2) else .bad : X3) ≠ _
      rw [er]
      exact noexc_bind (fun r => lst_noexc) c' fs s)
    (fun Γ st K x q => by
      have q : R.post ((evI ax.C it Γ st).bind fun x => (R.noexc (compL (cOut ax.C g own2 g2 it2 e (wipe Γ own)) x.1 x.2)).bind fun r => if r.1.length ≤ SZ then .ok (true, .lst r.1, r.2) else .bad : X3) _ _ := q
      rw [R.post_bind] at q
      exact ⟨_, _, q⟩) (fun σ H Q h => comp2_turns ho ho2 hk h) h
section
variable {own own2 : List Nat} {gt gt2 : G} {it it2 : I} {e : E} {tg iter tg2 iter2 elt : Expr} {scope : Scope} {pos : Pos}
theorem snd_comp2 (g : Gx ax X cc Wx) (hb : cc.blkOk scope own = true) (hi : PI X tg iter (tI ax Wx true it)) (hg : chkG (cc.blk scope) gt tg = true) (ho : ∀ i ∈ gt.sl, i ∈ own) (hv : ∀ i ∈ own2, i ∈ own)
    (hi2 : ∀ (s : Shared) (H : Hp) (C : Addr) (cl : List (Str × Addr)) (fp : List Addr), PI (X.blk s H scope (compEnvC scope cl C X.env) fp) tg2 iter2 (tI ax WN false it2)) (hg2 : chkG (cc.blk scope) gt2 tg2 = true) (ho2 : ∀ i ∈ gt2.sl, i ∈ own2) (hk : it2.noKeys = true)
    (he : ∀ (s : Shared) (H : Hp) (C : Addr) (cl : List (Str × Addr)) (fp : List Addr), PE (X.blk s H scope (compEnvC scope cl C X.env) fp) elt (tM ax WN false e)) (hs : ∀ x, foldedSetIterable iter X.env x = pure x) (hs2 : ∀ env x, foldedSetIterable iter2 env x = pure x) :
    PE X (.ListComp elt [⟨tg, iter, [], 0⟩, ⟨tg2, iter2, [], 0⟩] scope pos) (tM ax Wx false (.comp2 own gt it own2 gt2 it2 e)) := by
  obtain ⟨b1, b2⟩ := blk_of g hb
  have p := pe_lc2 (vs1 := own2) (pos := pos) g.bx.calm g.nd hi b1 (fun i h => by rw [b2]; exact hv i h) (fun s H C cl fp => pg_all (gx_blk g scope s H C cl fp) hg) (fun _ _ _ _ _ => pts_nil) hi2 (fun s H C cl fp => pg_all (gx_blk g scope s H C cl fp) hg2) (fun _ _ _ _ _ => pts_nil) he hs hs2
  rw [b2] at p
  exact (p.or (pe_lock p)).weak fun σ H Q h => comp2_read ho ho2 hk h
theorem set_comp2 (g : Gx ax X cc Wx) {i : Nat} {y : Str} {py spos : Pos} (hy : X.N[i]? = some y) (hyl : X.env.scope.names.lookup y = some .local) (hsw : swapsWith (.ListComp elt [⟨tg, iter, [], 0⟩, ⟨tg2, iter2, [], 0⟩] scope pos) (some (.Name y py)) spos.line X.env = pure true)
    (hb : cc.blkOk scope own = true) (hi : PI X tg iter (tI ax Wx true it)) (hg : chkG (cc.blk scope) gt tg = true) (ho : ∀ i ∈ gt.sl, i ∈ own) (hv : ∀ i ∈ own2, i ∈ own)
    (hi2 : ∀ (s : Shared) (H : Hp) (C : Addr) (cl : List (Str × Addr)) (fp : List Addr), PI (X.blk s H scope (compEnvC scope cl C X.env) fp) tg2 iter2 (tI ax WN false it2)) (hg2 : chkG (cc.blk scope) gt2 tg2 = true) (ho2 : ∀ i ∈ gt2.sl, i ∈ own2) (hk : it2.noKeys = true)
    (he : ∀ (s : Shared) (H : Hp) (C : Addr) (cl : List (Str × Addr)) (fp : List Addr), PE (X.blk s H scope (compEnvC scope cl C X.env) fp) elt (tM ax WN false e)) (hs : ∀ x, foldedSetIterable iter X.env x = pure x) (hs2 : ∀ env x, foldedSetIterable iter2 env x = pure x) :
    PS X (.Assign [.Name y py] (.ListComp elt [⟨tg, iter, [], 0⟩, ⟨tg2, iter2, [], 0⟩] scope pos) spos) (tAsg (tM ax Wx false (.comp2 own gt it own2 gt2 it2 e)) (gName i)) := by
  obtain ⟨b1, b2⟩ := blk_of g hb
  have p := ps_setLc2 (i := i) (y := y) (py := py) (pos := pos) (spos := spos) (vs1 := own2) g.bx.calm g.nd hy hyl hsw hi b1 (fun i h => by rw [b2]; exact hv i h) (fun s H C cl fp => pg_all (gx_blk g scope s H C cl fp) hg) (fun _ _ _ _ _ => pts_nil) hi2 (fun s H C cl fp => pg_all (gx_blk g scope s H C cl fp) hg2) (fun _ _ _ _ _ => pts_nil) he hs hs2
  rw [b2] at p
  exact (p.or (ps_lock p)).weak fun D σ H h => comp2_read ho ho2 hk h
end
end
end Ev
end

section
set_option autoImplicit false
set_option linter.all false
set_option maxRecDepth 1000000
set_option maxHeartbeats 0
/-! EvHash: the hashes of small tuples of ints are apart. -/
namespace Ev
open PySem PySem.Spec PyProof.Rows L2
def hB (ns : List Int) : Nat := (reduceHash (Builtin.Tuple.tupleHashOf (ns.map hashInt)) + 9223372036854775808).toNat
def boxAll : List (List Int) := [] :: ((List.range 64).map fun x : Nat => [Int.ofNat x]) ++ ((List.range 64).map fun x : Nat => (List.range 64).map fun y : Nat => [Int.ofNat x, Int.ofNat y]).flatten
def apart : List Nat → Bool
  | [] => true
  | a :: l => l.all (fun b => !Nat.beq a b) && apart l
def apartBy : Nat → List Nat → Bool
  | 0, l => apart l
  | n + 1, l => apartBy n (l.filter fun k => Nat.testBit k n) && apartBy n (l.filter fun k => !Nat.testBit k n)
theorem apart_nodup : ∀ l : List Nat, apart l = true → l.Nodup
  | [], _ => List.nodup_nil
  | a :: l, h => by
    unfold apart at h
    obtain ⟨h1, h2⟩ := Bool.and_eq_true_iff.mp h
    refine List.nodup_cons.mpr ⟨fun m => ?_, apart_nodup l h2⟩
    have := List.all_eq_true.mp h1 a m
    rw [Nat.beq_refl] at this
    cases this
theorem split_nodup (p : Nat → Bool) : ∀ l : List Nat, (l.filter p).Nodup → (l.filter fun k => !p k).Nodup → l.Nodup
  | [], _, _ => List.nodup_nil
  | a :: l, h1, h2 => by
    rw [List.filter_cons] at h1 h2
    cases e : p a with
    | true =>
      rw [e, if_pos rfl] at h1
      rw [e, if_neg (by decide)] at h2
      obtain ⟨n1, n2⟩ := List.nodup_cons.mp h1
      exact List.nodup_cons.mpr ⟨fun m => n1 (List.mem_filter.mpr ⟨m, e⟩), split_nodup p l n2 h2⟩
    | false =>
      rw [e, if_neg (by decide)] at h1
      rw [e, if_pos (by decide)] at h2
      obtain ⟨n1, n2⟩ := List.nodup_cons.mp h2
      exact List.nodup_cons.mpr ⟨fun m => n1 (List.mem_filter.mpr ⟨m, by rw [e]; rfl⟩), split_nodup p l h1 n2⟩
theorem apartBy_nodup : ∀ (n : Nat) (l : List Nat), apartBy n l = true → l.Nodup
  | 0, l, h => apart_nodup l h
  | n + 1, l, h => by
    unfold apartBy at h
    obtain ⟨h1, h2⟩ := Bool.and_eq_true_iff.mp h
    exact split_nodup _ l (apartBy_nodup n _ h1) (apartBy_nodup n _ h2)
theorem box_apart : apartBy 8 (boxAll.map hB) = true := by decide +kernel
theorem map_inj {α β : Type} {f : α → β} : ∀ {l : List α}, (l.map f).Nodup → ∀ {x y : α}, x ∈ l → y ∈ l → f x = f y → x = y
  | [], _, _, _, h, _, _ => by cases h
  | a :: l, h, x, y, hx, hy, e => by
    obtain ⟨n1, n2⟩ := List.nodup_cons.mp h
    rcases List.mem_cons.mp hx with z | z <;> rcases List.mem_cons.mp hy with z2 | z2
    · rw [z, z2]
    · exact absurd (List.mem_map.mpr ⟨y, z2, by rw [← e, z]⟩) n1
    · exact absurd (List.mem_map.mpr ⟨x, z, by rw [e, z2]⟩) n1
    · exact map_inj n2 z z2 e
theorem mem_box1 {n : Int} (h : 0 ≤ n ∧ n < 64) : [n] ∈ boxAll := by
  unfold boxAll
  refine List.mem_append_left _ (List.mem_cons_of_mem _ (List.mem_map.mpr ⟨n.toNat, List.mem_range.mpr (by omega), ?_⟩))
  show [((n.toNat : Nat) : Int)] = [n]
  rw [Int.toNat_of_nonneg h.1]
theorem mem_box2 {n m : Int} (h : 0 ≤ n ∧ n < 64) (h2 : 0 ≤ m ∧ m < 64) : [n, m] ∈ boxAll := by
  unfold boxAll
  refine List.mem_append_right _ (List.mem_flatten.mpr ⟨_, List.mem_map.mpr ⟨n.toNat, List.mem_range.mpr (by omega), rfl⟩, List.mem_map.mpr ⟨m.toNat, List.mem_range.mpr (by omega), ?_⟩⟩)
  show [((n.toNat : Nat) : Int), ((m.toNat : Nat) : Int)] = [n, m]
  rw [Int.toNat_of_nonneg h.1, Int.toNat_of_nonneg h2.1]
theorem box_ints {tab : List Str} : ∀ {k : List Ky} {kk : List Key}, kysR tab k kk → boxK k = true → ∃ ns : List Int, k = ns.map Ky.i ∧ kk = ns.map Sum.inl ∧ ns ∈ boxAll
  | [], kk, h, _ => ⟨[], rfl, h, by unfold boxAll; exact List.mem_append_left _ List.mem_cons_self⟩
  | [.i n], kk, h, b => by
    obtain ⟨q, qr, e, h1, h2⟩ := h
    have h1 : q = .inl n := h1
    have h2 : qr = [] := h2
    subst h1 h2
    have b : decide (0 ≤ n ∧ n < 64) = true := b
    exact ⟨[n], rfl, e, mem_box1 (of_decide_eq_true b)⟩
  | [.i n, .i m], kk, h, b => by
    obtain ⟨q, qr, e, h1, q2, qr2, e2, h2, h3⟩ := h
    have h1 : q = .inl n := h1
    have h2 : q2 = .inl m := h2
    have h3 : qr2 = [] := h3
    subst h1 h2 h3 e2
    have b : (decide (0 ≤ n ∧ n < 64) && decide (0 ≤ m ∧ m < 64)) = true := b
    obtain ⟨b1, b2⟩ := Bool.and_eq_true_iff.mp b
    exact ⟨[n, m], rfl, e, mem_box2 (of_decide_eq_true b1) (of_decide_eq_true b2)⟩
  | [.s _], _, _, b => nomatch b
  | [.s _, .i _], _, _, b => nomatch b
  | [.i _, .s _], _, _, b => nomatch b
  | [.s _, .s _], _, _, b => nomatch b
  | [.i _, .i _, _], _, _, b => nomatch b
  | a :: c :: d :: r, _, _, b => by
    exfalso
    revert b
    cases a <;> cases c <;> exact Bool.false_ne_true
/-- the hashes of boxed keys are apart -/
theorem hash_box {P : Program} {w : World} {tab : List Str} {k k' : List Ky} {kk kk' : List Key} (h : kysR tab k kk) (h' : kysR tab k' kk') (b : boxK k = true) (b' : boxK k' = true) (e : tupleKeyHash (mixKind P w) kk = tupleKeyHash (mixKind P w) kk') : k = k' := by
  obtain ⟨ns, rfl, rfl, m⟩ := box_ints h b
  obtain ⟨ms, rfl, rfl, m'⟩ := box_ints h' b'
  have hh : ∀ l : List Int, tupleKeyHash (mixKind P w) (l.map Sum.inl) = reduceHash (Builtin.Tuple.tupleHashOf (l.map hashInt)) := fun l => by
    unfold tupleKeyHash
    rw [List.map_map]
    rfl
  rw [hh, hh] at e
  have e2 : hB ns = hB ms := by unfold hB; rw [e]
  rw [map_inj (apartBy_nodup 8 _ box_apart) m m' e2]
end Ev
end

section
set_option autoImplicit false
set_option linter.all false
set_option maxRecDepth 1000000
set_option maxHeartbeats 0
/-! EvLcg: the probe of a set's table goes through every slot, for greater masks too. -/
namespace Ev
open PySem PySem.Spec PyProof.Rows L2
/-- the first n places from x on -/
def orbit (m : Nat) : Nat → Nat → List Nat
  | 0, _ => []
  | n + 1, x => x :: orbit m n ((x * 5 + 1) % (m + 1))
theorem orbit_len (m : Nat) : ∀ n x, (orbit m n x).length = n
  | 0, _ => rfl
  | n + 1, x => by rw [orbit, List.length_cons, orbit_len]
theorem orbit_get (m : Nat) : ∀ (n a b : Nat), b < n → (orbit m n (L2.lcgN m a))[b]? = some (L2.lcgN m (a + b))
  | 0, _, _, h => absurd h (Nat.not_lt_zero _)
  | n + 1, a, 0, _ => rfl
  | n + 1, a, b + 1, h => by
    show (orbit m n ((L2.lcgN m a * 5 + 1) % (m + 1)))[b]? = _
    have := orbit_get m n (a + 1) b (by omega)
    rw [show a + (b + 1) = a + 1 + b by omega]
    exact this
/-- a mask whose probe goes round -/
structure MaskQ (m : Nat) : Prop where
  nd : (orbit m (m + 1) 0).Nodup
  rd : L2.lcgN m (m + 1) = 0
  odd : m % 2 = 1
theorem lcgN_le (m : Nat) : ∀ k, L2.lcgN m k ≤ m
  | 0 => Nat.zero_le _
  | k + 1 => Nat.le_of_lt_succ (Nat.mod_lt _ (Nat.succ_pos m))
theorem MaskQ.all {m : Nat} (h : MaskQ m) {j : Nat} (hj : j ≤ m) : ∃ b, b ≤ m ∧ L2.lcgN m b = j := by
  apply Classical.byContradiction
  intro no
  have le := L2.nat_nodup_len (j :: orbit m (m + 1) 0) (List.range (m + 1)) (List.nodup_cons.mpr ⟨fun hm => ?_, h.nd⟩) fun x hx => ?_
  · rw [List.length_cons, orbit_len, List.length_range] at le
    omega
  · obtain ⟨b, hb⟩ := List.getElem?_of_mem hm
    have hl : b < m + 1 := by
      have := (List.getElem?_eq_some_iff.mp hb).1
      rwa [orbit_len] at this
    have e := orbit_get m (m + 1) 0 b hl
    have e : (orbit m (m + 1) 0)[b]? = some (L2.lcgN m (0 + b)) := e
    rw [hb, Nat.zero_add] at e
    exact no ⟨b, by omega, (Option.some.inj e).symm⟩
  · rw [List.mem_range]
    rcases List.mem_cons.mp hx with z | z
    · omega
    · obtain ⟨b, hb⟩ := List.getElem?_of_mem z
      have hl : b < m + 1 := by
        have := (List.getElem?_eq_some_iff.mp hb).1
        rwa [orbit_len] at this
      have e := orbit_get m (m + 1) 0 b hl
      have e : (orbit m (m + 1) 0)[b]? = some (L2.lcgN m (0 + b)) := e
      rw [hb] at e
      have := lcgN_le m (0 + b)
      rw [Option.some.inj e]
      omega
theorem round_of {m : Nat} (h : (orbit m (m + 2) 0)[m + 1]? = some 0) : L2.lcgN m (m + 1) = 0 := by
  have e := orbit_get m (m + 2) 0 (m + 1) (by omega)
  have e : (orbit m (m + 2) 0)[m + 1]? = some (L2.lcgN m (0 + (m + 1))) := e
  rw [h, Nat.zero_add] at e
  exact (Option.some.inj e).symm
theorem MaskQ.period {m : Nat} (h : MaskQ m) : ∀ n, L2.lcgN m (n + (m + 1)) = L2.lcgN m n
  | 0 => by rw [Nat.zero_add]; exact h.rd
  | n + 1 => by
    have ih := MaskQ.period h n
    rw [show n + 1 + (m + 1) = (n + (m + 1)) + 1 by omega]
    show (L2.lcgN m (n + (m + 1)) * 5 + 1) % (m + 1) = (L2.lcgN m n * 5 + 1) % (m + 1)
    rw [ih]
/-- from any place to any other, within a round -/
theorem MaskQ.goes {m : Nat} (h : MaskQ m) {x y : Nat} (hx : x ≤ m) (hy : y ≤ m) : ∃ n, n ≤ m ∧ L2.lcgI m x n = y := by
  obtain ⟨p, hp, ep⟩ := h.all hx
  obtain ⟨q, hq, eq⟩ := h.all hy
  subst ep
  by_cases c : p ≤ q
  · exact ⟨q - p, by omega, by rw [L2.lcgN_add, show p + (q - p) = q by omega]; exact eq⟩
  · exact ⟨q + (m + 1) - p, by omega, by rw [L2.lcgN_add, show p + (q + (m + 1) - p) = q + (m + 1) by omega, h.period]; exact eq⟩
/-- every slot lies on the way of every hash, soon enough -/
theorem MaskQ.meets {m : Nat} (h : MaskQ m) (hs : Int) {y : Nat} (hy : y ≤ m) : ∃ n, n < 10 * SetTable.turns m ∧ L2.way m hs n = y := by
  obtain ⟨r, hr, er⟩ := h.goes (L2.runI_le m (SetTable.bits hs) 12) hy
  have e1 : L2.runI m (SetTable.bits hs) (12 + r) = y := by rw [L2.runI_tail (L2.bits_lt hs)]; exact er
  obtain ⟨n, hn, en⟩ := L2.run_nth m (SetTable.bits hs) (12 + r)
  refine ⟨n, by unfold SetTable.turns; omega, ?_⟩
  show (L2.nth m (L2.runAt m (SetTable.bits hs % (m + 1)) (SetTable.bits hs)) n).j = y
  rw [en, e1]
  rfl
/-- a table whose entries all are found from their hashes -/
structure TabQ (t : SetTable) (hs : List Int) : Prop where
  ris : L2.Ris t.place.toList
  dm : t.dummies = #[]
  sz : t.place.size = hs.length
  mq : MaskQ t.mask
  bd : ∀ x ∈ t.place.toList, x ≤ t.mask
  reach : ∀ (i : Nat) (h : Int) (j : Nat), hs[i]? = some h → t.place.toList[i]? = some j → ∃ k, L2.way t.mask h k = j ∧ ∀ k', k' < k → L2.way t.mask h k' ∈ t.place.toList
/-- the first free slot on a hash's way -/
theorem TabQ.free {t : SetTable} {hs : List Int} (T : TabQ t hs) (few : hs.length ≤ t.mask) (h : Int) : ∃ n, n < 10 * SetTable.turns t.mask ∧ L2.way t.mask h n ∉ t.place.toList ∧ ∀ k, k < n → L2.way t.mask h k ∈ t.place.toList := by
  obtain ⟨y, hy, ny⟩ := L2.st_missing t.place.toList (t.mask + 1) (by rw [Array.length_toList, T.sz]; omega)
  obtain ⟨n, hn, en⟩ := T.mq.meets h (Nat.le_of_lt_succ hy)
  obtain ⟨n0, l0, p0, m0⟩ := L2.st_least (p := fun k => L2.way t.mask h k ∉ t.place.toList) n (by show L2.way t.mask h n ∉ _; rw [en]; exact ny)
  exact ⟨n0, Nat.lt_of_le_of_lt l0 hn, p0, fun k hk => Classical.byContradiction fun z => m0 k hk z⟩
/-- an entry of that hash stands ahead of it -/
theorem TabQ.ahead {t : SetTable} {hs : List Int} (T : TabQ t hs) {h : Int} {n i j : Nat} (hn : L2.way t.mask h n ∉ t.place.toList) (hi : hs[i]? = some h) (hj : t.place.toList[i]? = some j) : ∃ k, k < n ∧ L2.way t.mask h k = j := by
  obtain ⟨k, e, before⟩ := T.reach i h j hi hj
  have jm := List.mem_of_getElem? hj
  refine ⟨k, Classical.byContradiction fun c => ?_, e⟩
  by_cases d : k = n
  · subst d
    rw [e] at hn
    exact hn jm
  · exact hn (before n (by omega))
theorem way_in {m : Nat} (h : Int) (k : Nat) : L2.way m h k ≤ m := by
  have start : SetTable.bits h % (m + 1) ≤ m := Nat.le_of_lt_succ (Nat.mod_lt _ (Nat.succ_pos _))
  have r := L2.runEnd_bd start
  have q := L2.nth_in (m := m) k (L2.runAt m (SetTable.bits h % (m + 1)) (SetTable.bits h)) (by
    show SetTable.bits h % (m + 1) + (SetTable.runEnd m (SetTable.bits h % (m + 1)) - SetTable.bits h % (m + 1)) ≤ m
    omega)
  have q : L2.way m h k + _ ≤ m := q
  omega
theorem maskQ_7 : MaskQ 7 := ⟨apartBy_nodup 0 _ (by decide +kernel), round_of (m := 7) (by decide +kernel), rfl⟩
theorem maskQ_31 : MaskQ 31 := ⟨apartBy_nodup 2 _ (by decide +kernel), round_of (m := 31) (by decide +kernel), rfl⟩
theorem maskQ_127 : MaskQ 127 := ⟨apartBy_nodup 3 _ (by decide +kernel), round_of (m := 127) (by decide +kernel), rfl⟩
theorem maskQ_511 : MaskQ 511 := ⟨apartBy_nodup 5 _ (by decide +kernel), round_of (m := 511) (by decide +kernel), rfl⟩
theorem maskQ_2047 : MaskQ 2047 := ⟨apartBy_nodup 7 _ (by decide +kernel), round_of (m := 2047) (by decide +kernel), rfl⟩
end Ev
end

section
set_option autoImplicit false
set_option linter.all false
set_option maxRecDepth 100000
set_option maxHeartbeats 1000000
/-! EvTab: an entry is put into a set's table. -/
namespace Ev
open PySem PySem.Spec PyProof.Rows L2
/-- what a table keeps beside its places -/
structure Same5 (t t' : SetTable) : Prop where
  mask : t'.mask = t.mask
  led : t'.led = t.led
  plain : t'.plain = t.plain
  moves : t'.moves = t.moves
  finger : t'.finger = t.finger
theorem TabQ.put {t : SetTable} {hs : List Int} (T : TabQ t hs) {h : Int} {n y : Nat} (ey : way t.mask h n = y) (free : y ∉ t.place.toList) (full : ∀ k, k < n → way t.mask h k ∈ t.place.toList) :
    (t.put y).2 = SetTable.below t.place y ∧ SetTable.below t.place y ≤ hs.length ∧ Same5 t (t.put y).1 ∧ (t.put y).1.fill = hs.length + 1 ∧
    TabQ (t.put y).1 (hs.take (SetTable.below t.place y) ++ h :: hs.drop (SetTable.below t.place y)) := by
  have ym : y ≤ t.mask := ey ▸ way_in h n
  have cut := (below_cut T.ris y).1
  have b1 : SetTable.below t.place y ≤ hs.length := T.sz ▸ cut
  have b2 : SetTable.below t.place y ≤ t.place.toList.length := by rw [Array.length_toList]; exact cut
  have pl := put_place t y
  have sz1 : (t.put y).1.place.size = hs.length + 1 := by
    have e := congrArg List.length pl
    rw [len_ins _ b2, Array.length_toList, Array.length_toList, T.sz] at e
    exact e
  have dm1 := put_dm T.dm y
  have more : ∀ x, x ∈ t.place.toList → x ∈ (t.put y).1.place.toList := fun x hx => by rw [pl]; exact mem_ins.2 (.inr hx)
  have off : t.place[SetTable.below t.place y]? ≠ some y := fun z => free (List.mem_of_getElem? (i := SetTable.below t.place y) (by rw [Array.getElem?_toList]; exact z))
  refine ⟨rfl, b1, ⟨rfl, rfl, rfl, rfl, rfl⟩, ?_, ?_⟩
  · show (t.put y).1.place.size + (t.put y).1.dummies.size = _
    rw [sz1, dm1]
    rfl
  · refine { ris := ris_insert T.ris off, dm := dm1, sz := by rw [sz1, len_ins _ b1], mq := T.mq, bd := fun x hx => ?_, reach := fun i h1 j e1 e2 => ?_ }
    · rw [pl] at hx
      exact (mem_ins.1 hx).elim (fun z => z ▸ ym) fun z => T.bd x z
    · have go : ∀ i0, hs[i0]? = some h1 → t.place.toList[i0]? = some j → ∃ k, way t.mask h1 k = j ∧ ∀ k', k' < k → way t.mask h1 k' ∈ (t.put y).1.place.toList := fun i0 z1 z2 =>
        let ⟨k, w1, w2⟩ := T.reach i0 h1 j z1 z2
        ⟨k, w1, fun k' lt => more _ (w2 k' lt)⟩
      rw [tins_get _ b1] at e1
      rw [pl, tins_get _ b2] at e2
      show ∃ k, way t.mask h1 k = j ∧ ∀ k', k' < k → way t.mask h1 k' ∈ (t.put y).1.place.toList
      rcases Nat.lt_trichotomy i (SetTable.below t.place y) with c | c | c
      · rw [if_pos c] at e1 e2
        exact go i e1 e2
      · subst c
        rw [if_neg (Nat.lt_irrefl _), if_pos rfl] at e1 e2
        cases e1
        cases e2
        exact ⟨n, ey, fun k' lt => more _ (full k' lt)⟩
      · rw [if_neg (by omega), if_neg (by omega)] at e1 e2
        exact go (i - 1) e1 e2
/-! ### laying anew -/
theorem MaskQ.runs {m : Nat} (h : MaskQ m) (hs : Int) {y : Nat} (hy : y ≤ m) : ∃ n, n ≤ m + 12 ∧ runI m (SetTable.bits hs) n = y := by
  obtain ⟨r, hr, er⟩ := h.goes (runI_le m (SetTable.bits hs) 12) hy
  exact ⟨12 + r, by omega, by rw [runI_tail (bits_lt hs)]; exact er⟩
theorem MaskQ.finds {m : Nat} (q : MaskQ m) (owner : Array (Option Nat)) (h : Int) {y : Nat} (hy : y ≤ m) (free : oAt owner y = none) :
    ∃ n, SetTable.layClean.free m owner (SetTable.turns m) (SetTable.bits h % (m + 1)) (SetTable.bits h) = some (way m h n) ∧ oAt owner (way m h n) = none ∧ ∀ k, k < n → oAt owner (way m h k) ≠ none := by
  obtain ⟨r, hr, er⟩ := q.runs h hy
  have at_y : way m h (off m (SetTable.bits h % (m + 1)) (SetTable.bits h) r) = y := by
    show (nth m (runAt m (SetTable.bits h % (m + 1)) (SetTable.bits h)) (off m (SetTable.bits h % (m + 1)) (SetTable.bits h) r)).j = y
    rw [nth_off, itL_run]
    exact er
  obtain ⟨n, le, fr, before⟩ := st_least (p := fun k => oAt owner (way m h k) = none) (off m (SetTable.bits h % (m + 1)) (SetTable.bits h) r) (by
    show oAt owner (way m h _) = none
    rw [at_y]; exact free)
  have bf : ∀ k, k < n → (oAt owner (way m h k)).isNone = false := fun k lt => by
    cases z : oAt owner (way m h k) with
    | some _ => rfl
    | none => exact absurd z (before k lt)
  refine ⟨n, free_spec m owner (SetTable.turns m) r _ _ n (by unfold SetTable.turns; omega) le bf ?_, fr, before⟩
  have fr : oAt owner (nth m (runAt m (SetTable.bits h % (m + 1)) (SetTable.bits h)) n).j = none := fr
  rw [fr]
  rfl
end Ev
end

section
set_option autoImplicit false
set_option linter.all false
set_option maxRecDepth 100000
set_option maxHeartbeats 1000000
/-! EvLay: a set's table is laid anew. -/
namespace Ev
open PySem PySem.Spec PyProof.Rows L2
theorem own_more {m : Nat} (q : MaskQ m) {done : List Int} {ow : Array (Option Nat)} (o : Own m done ow) (few : done.length ≤ m) (h : Int) :
    ∃ y, SetTable.layClean.free m ow (SetTable.turns m) (SetTable.bits h % (m + 1)) (SetTable.bits h) = some y ∧ Own m (done ++ [h]) (ow.setIfInBounds y (some done.length)) := by
  obtain ⟨taken, lt, cover⟩ := o.ps
  obtain ⟨y0, r0, out0⟩ := st_missing taken (m + 1) (by omega)
  have le0 : y0 ≤ m := Nat.le_of_lt_succ r0
  have fr0 : oAt ow y0 = none := Classical.byContradiction fun z => out0 (cover y0 le0 z)
  obtain ⟨n, found, fr, before⟩ := q.finds ow h le0 fr0
  generalize ey : way m h n = y at found fr
  have yle : y ≤ m := ey ▸ way_in h n
  have yin : y < ow.size := by have := o.sz; omega
  have here : oAt (ow.setIfInBounds y (some done.length)) y = some done.length := oAt_set_self _ yin
  have stay : ∀ x, oAt ow x ≠ none → oAt (ow.setIfInBounds y (some done.length)) x ≠ none := fun x hx => by
    by_cases c : x = y
    · subst c; rw [here]; exact fun z => nomatch z
    · rw [oAt_set_ne _ c]; exact hx
  refine ⟨y, found, ⟨?_, fun x k hx e => ?_, fun k hk => ?_, y :: taken, ?_, fun x hx e => ?_⟩⟩
  · rw [Array.size_setIfInBounds, o.sz]
  · by_cases c : x = y
    · subst c
      rw [here] at e
      cases e
      exact ⟨h, n, by simp, ey, fun k' l' => stay _ (before k' l')⟩
    · rw [oAt_set_ne _ c] at e
      obtain ⟨h1, n1, d1, w1, b1⟩ := o.at_ x k hx e
      exact ⟨h1, n1, by rw [List.getElem?_append_left (List.getElem?_eq_some_iff.mp d1).1]; exact d1, w1, fun k' l' => stay _ (b1 k' l')⟩
  · rcases Nat.lt_or_ge k done.length with c | c
    · obtain ⟨x, hx, e⟩ := o.all k c
      have ne : x ≠ y := fun z => by rw [z, fr] at e; cases e
      exact ⟨x, hx, by rw [oAt_set_ne _ ne]; exact e⟩
    · have ek : k = done.length := by
        rw [List.length_append] at hk
        simp at hk
        omega
      exact ⟨y, yle, by rw [ek]; exact here⟩
  · simp [lt]
  · by_cases c : x = y
    · exact c ▸ List.mem_cons_self
    · rw [oAt_set_ne _ c] at e
      exact List.mem_cons_of_mem _ (cover x hx e)
theorem own_fold {m : Nat} (q : MaskQ m) : ∀ (rest done : List Int) (ow : Array (Option Nat)), Own m done ow → done.length + rest.length ≤ m → ∃ ow2, rest.foldl (stepF m) (some (ow, done.length)) = some (ow2, done.length + rest.length) ∧ Own m (done ++ rest) ow2
  | [], done, ow, o, _ => ⟨ow, rfl, by rw [List.append_nil]; exact o⟩
  | h :: rest, done, ow, o, le => by
    have le' : done.length + (rest.length + 1) ≤ m := le
    obtain ⟨y, e, o1⟩ := own_more q o (by omega) h
    have l1 : (done ++ [h]).length = done.length + 1 := by simp
    obtain ⟨ow2, f, o2⟩ := own_fold q rest (done ++ [h]) _ o1 (by rw [l1]; omega)
    rw [l1] at f
    rw [List.append_assoc] at o2
    refine ⟨ow2, ?_, o2⟩
    rw [List.foldl_cons, stepF_some e, f, List.length_cons]
    congr 2
    omega
theorem own_lay {m : Nat} (q : MaskQ m) {hs : Array Int} (few : hs.size ≤ m) : ∃ ow, SetTable.layClean m hs = some ow ∧ Own m hs.toList ow := by
  obtain ⟨ow, f, o⟩ := own_fold q hs.toList [] _ (Own.init m) (by simpa using few)
  have f : hs.toList.foldl (stepF m) (some (Array.replicate (m + 1) none, 0)) = _ := f
  exact ⟨ow, by rw [layClean_eq, f]; rfl, o⟩
theorem relaid_q (t : SetTable) {hs : Array Int} {wanted M : Nat} (ew : SetTable.sizeAbove wanted - 1 = M) (q : MaskQ M) (few : hs.size ≤ M) :
    ∃ t2 ord, t.relaid hs wanted = some (t2, ord) ∧ ord.toList.Perm (List.range hs.size) ∧ t2.mask = M ∧ t2.led = t.led ∧ t2.plain = t.plain ∧ TabQ t2 (ord.toList.map fun i => hs.getD i 0) := by
  obtain ⟨ow, e, o⟩ := own_lay q few
  have lv := @mem_live M ow o.sz
  have rr := ris_live (fun y => ow.getD y none) (List.range (M + 1)) (by unfold Ris; exact List.pairwise_lt_range)
  have up : Ris ((liveOf M ow).map (·.1)) := rr.1
  have inn : ∀ x ∈ (liveOf M ow).map (·.1), x ∈ List.range (M + 1) := rr.2
  have cnt : (liveOf M ow).length = hs.size := by
    obtain ⟨ps, l1, l2⟩ := o.ps
    have nd1 : ((liveOf M ow).map (·.1)).Nodup := List.Pairwise.imp (fun z => Nat.ne_of_lt z) up
    have le1 := nat_nodup_len ((liveOf M ow).map (·.1)) ps nd1 fun x hx => by
      obtain ⟨⟨x', k⟩, mm, ex⟩ := List.mem_map.mp hx
      have ex : x' = x := ex
      subst ex
      obtain ⟨u1, u2⟩ := lv.1 mm
      exact l2 x' u1 (by rw [u2]; exact fun z => nomatch z)
    have le2 := nat_nodup_len (List.range hs.size) ((liveOf M ow).map (·.2)) List.nodup_range fun k hk => by
      obtain ⟨x, u1, u2⟩ := o.all k (by simpa using hk)
      exact List.mem_map.mpr ⟨(x, k), lv.2 ⟨u1, u2⟩, rfl⟩
    simp at le1 le2 l1
    omega
  refine ⟨tabOf t M ow, ((liveOf M ow).map (·.2)).toArray, by rw [relaid_eq, ew, e]; rfl, ?_, rfl, rfl, rfl, ?_⟩
  · refine perm_range hs.size _ (by show ((liveOf M ow).map (·.2)).length = _; rw [List.length_map, cnt]) fun k hk => ?_
    obtain ⟨x, u1, u2⟩ := o.all k (by simpa using hk)
    exact List.mem_map.mpr ⟨(x, k), lv.2 ⟨u1, u2⟩, rfl⟩
  · refine { ris := up, dm := rfl, sz := ?_, mq := q, bd := fun x hx => Nat.le_of_lt_succ (List.mem_range.mp (inn x hx)), reach := fun i h j e1 e2 => ?_ }
    · show ((liveOf M ow).map (·.1)).toArray.size = (((liveOf M ow).map (·.2)).map fun i => hs.getD i 0).length
      simp
    · have e1 : (((liveOf M ow).map (·.2)).map fun i => hs.getD i 0)[i]? = some h := e1
      have e2 : ((liveOf M ow).map (·.1))[i]? = some j := e2
      rw [List.getElem?_map] at e1 e2
      rw [List.getElem?_map] at e1
      rcases z : (liveOf M ow)[i]? with _ | ⟨x, k⟩
      · rw [z] at e2; cases e2
      · rw [z] at e1 e2
        have ex : x = j := Option.some.inj e2
        have eh : hs.getD k 0 = h := Option.some.inj e1
        subst ex
        obtain ⟨u1, u2⟩ := lv.1 (List.mem_of_getElem? z)
        obtain ⟨h0, n, d, wy, bf⟩ := o.at_ x k u1 u2
        have e0 : h0 = h := by
          rw [← eh, Array.getD_eq_getD_getElem?, ← Array.getElem?_toList, d]
          rfl
        subst e0
        refine ⟨n, wy, fun k' l' => ?_⟩
        show way M h0 k' ∈ (liveOf M ow).map (·.1)
        rcases zz : oAt ow (way M h0 k') with _ | k2
        · exact absurd zz (bf k' l')
        · exact List.mem_map.mpr ⟨(way M h0 k', k2), lv.2 ⟨way_in h0 k', zz⟩, rfl⟩
theorem size_after_7 : SetTable.sizeAbove (SetTable.grown 5) = 32 := by decide +kernel
theorem size_after_31 : SetTable.sizeAbove (SetTable.grown 19) = 128 := by decide +kernel
theorem size_after_127 : SetTable.sizeAbove (SetTable.grown 77) = 512 := by decide +kernel
theorem size_after_511 : SetTable.sizeAbove (SetTable.grown 307) = 2048 := by decide +kernel
end Ev
end

section
set_option autoImplicit false
set_option linter.all false
set_option maxRecDepth 100000
set_option maxHeartbeats 1000000
/-! EvSeek: a tuple is sought in a set of tuples. -/
namespace Ev
open PySem PySem.Spec PyProof.Rows L2
/-- the probe's c-th place -/
abbrev pr (m : Nat) (h : Int) (c : Nat) : SetTable.Probe := nth m (runAt m (SetTable.bits h % (m + 1)) (SetTable.bits h)) c
theorem pr_way (m : Nat) (h : Int) (c : Nat) : (pr m h c).j = way m h c := rfl
theorem pr_dummy (m : Nat) (h : Int) (c : Nat) : (pr m h c).dummy = none := by
  have go : ∀ (n : Nat) (p : SetTable.Probe), p.dummy = none → (nth m p n).dummy = none := by
    intro n
    induction n with
    | zero => exact fun p z => z
    | succ n ih => exact fun p z => ih _ (by unfold adv; split <;> exact z)
  exact go c _ rfl
theorem pr_add (m : Nat) (h : Int) (c q : Nat) : nth m (pr m h c) q = pr m h (c + q) := (nth_add m c _ q).symm
/-- the set at a: the tuples L in its table's order -/
structure SetTQ (P : Program) (w : World) (h : Heap) (a : Addr) (L : List (Addr × List Int)) (es : Array (Int × Value)) (ep : Nat) (t : SetTable) : Prop where
  ob : ∃ o, h.get? a = some o ∧ o.ExactSet ∧ o.data = .set es ep t
  rows : es.toList = rowsOf P w L
  tab : TabQ t (L.map fun p => thash P w p.2)
  nd : (L.map (·.2)).Nodup
  tup : ∀ p ∈ L, IsT P w h p.2 p.1
  plain : t.plain = true
  led : w.params.followText "set-order" = true ∨ t.led = true
  room : L.length * 5 < t.mask * 3
  msk : t.mask = 7 ∨ t.mask = 31 ∨ t.mask = 127 ∨ t.mask = 511 ∨ t.mask = 2047
section
variable {P : Program} {w : World} {A : Around} {E : Value → Shared → Prop} {s : Shared} {a : Addr} {L : List (Addr × List Int)} {es : Array (Int × Value)} {ep : Nat} {t : SetTable}
theorem SetTQ.size (R : SetTQ P w s.heap a L es ep t) : es.size = L.length := by
  have e := congrArg List.length R.rows
  unfold rowsOf at e
  simpa using e
theorem SetTQ.cnt (R : SetTQ P w s.heap a L es ep t) : t.place.size = L.length := by
  have e := R.tab.sz
  simpa using e
theorem SetTQ.fits (R : SetTQ P w s.heap a L es ep t) : t.fits es.size = true := by
  have e1 := R.cnt
  have e2 := R.size
  have e3 := R.room
  unfold SetTable.fits SetTable.fill
  rw [R.tab.dm, e2, e1]
  have e4 : L.length ≤ t.mask := by omega
  simpa using e4
theorem SetTQ.row (R : SetTQ P w s.heap a L es ep t) {i : Nat} {p : Addr × List Int} (h : L[i]? = some p) : es[i]? = some (thash P w p.2, Value.ref p.1) := by
  rw [← Array.getElem?_toList, R.rows]
  show (L.map _)[i]? = _
  rw [List.getElem?_map, h]
  rfl
theorem SetTQ.way0 (R : SetTQ P w s.heap a L es ep t) : ¬ t.gaveWay = true := by
  unfold SetTable.gaveWay
  rw [R.tab.mq.odd]
  decide
theorem seek_from (R : SetTQ P w s.heap a L es ep t) {x : Addr} {k : List Int} (hx : IsT P w s.heap k x) (hu : A.units < cLine) {n : Nat} (nf : n < 10 * SetTable.turns t.mask)
    (free : way t.mask (thash P w k) n ∉ t.place.toList) (full : ∀ c, c < n → way t.mask (thash P w k) c ∈ t.place.toList) {Q : SetFound → Shared → Prop}
    (yes : k ∈ L.map (·.2) → Q (.there none) s) (no : k ∉ L.map (·.2) → Q (.free (way t.mask (thash P w k) n) false) s) :
    ∀ (f c : Nat) (st : Option SetTable.Probe), st.getD (t.probeStart (thash P w k)) = pr t.mask (thash P w k) c → c ≤ n → n - c < f →
      (∀ (i : Nat) p, L[i]? = some p → p.2 = k → ∃ c', c ≤ c' ∧ c' < n ∧ t.place.toList[i]? = some (way t.mask (thash P w k) c')) →
      wpAny (model P w) A (setSearchFrom a (.ref x) (thash P w k) true f st) Q E s
  | 0, c, st, _, _, lt, _ => absurd lt (Nat.not_lt_zero _)
  | f + 1, c, st, est, cn, lt, ahead => by
    obtain ⟨o, ho, hex, hd⟩ := R.ob
    generalize eh : thash P w k = h at *
    rw [setSearchFrom_succ]
    refine wpAny_bind (wpAny_setState_of ho hd R.fits ?_)
    dsimp only
    refine wp_if_neg R.way0 ?_
    try refine wpAny_bind (wpAny_pure ?_)
    have hashOf : ∀ (i : Nat) p, L[i]? = some p → ((es[i]?.map (·.1)).getD 0) = thash P w p.2 := fun i p hp => by rw [R.row hp]; rfl
    have places : ∀ q, (nth t.mask (pr t.mask h c) q).j = way t.mask h (c + q) := fun q => by rw [pr_add]
    have ans := go_spec t R.tab.ris R.tab.dm (fun i => (es[i]?.map (·.1)).getD 0) h (10 * SetTable.turns t.mask) (n - c) (pr t.mask h c) (pr_dummy _ _ _) (by omega)
      (fun q lq => by rw [places]; exact full _ (by omega)) (by rw [places, show c + (n - c) = n by omega]; exact free)
    rcases ans with ⟨q, i, lq, hi, hh, first, found⟩ | ⟨none_, found⟩
    · have found' : t.probe (fun i => (es[i]?.map (·.1)).getD 0) h (st.getD (t.probeStart h)) = some (.candidate (way t.mask h (c + q)) i (pr t.mask h (c + (q + 1)))) := by
        rw [est, ← places, ← pr_add]
        exact found
      rw [found']
      dsimp only
      rw [places] at hi
      have il : i < L.length := by
        have e1 := (List.getElem?_eq_some_iff.mp hi).1
        rw [Array.length_toList, R.cnt] at e1
        exact e1
      obtain ⟨p, hp⟩ : ∃ p, L[i]? = some p := ⟨L[i], List.getElem?_eq_getElem il⟩
      have pm := List.mem_of_getElem? hp
      have live := slot_live R.tab.ris hi
      have go_on : wpAny (model P w) A (searchRest a (.ref x) h true f es t (way t.mask h (c + q)) i (pr t.mask h (c + (q + 1)))) Q E s := by
        unfold searchRest
        rw [R.row hp]
        dsimp only
        refine wpAny_bind (wpAny_holding (wpAny_eqBool_tuple hu (R.tup p pm) hx ?_))
        refine wpAny_bind (wpAny_setState_of ho hd R.fits ?_)
        dsimp only
        by_cases same : p.2 = k
        · refine wp_if_pos (by simp [same]) ?_
          exact wpAny_pure (yes (List.mem_map.mpr ⟨p, pm, same⟩))
        · refine wp_if_neg (by simp [same]) ?_
          try refine wpAny_bind (wpAny_pure ?_)
          rw [sameMem]
          dsimp only
          simp only [if_true, live, R.row hp]
          refine wpAny_bind (wpAny_isSame_ref_self (wpAny_bind (wpAny_pure ?_)))
          simp only [if_true]
          refine wp_if_neg (by simp [same]) ?_
          subst eh
          refine seek_from R hx hu nf free full yes no f (c + (q + 1)) _ rfl (by omega) (by omega) fun i0 p0 h0 k0 => ?_
          obtain ⟨c', le1, lt1, pl1⟩ := ahead i0 p0 h0 k0
          refine ⟨c', Classical.byContradiction fun z => ?_, lt1, pl1⟩
          by_cases y : c' = c + q
          · subst y
            have s0 := slot_live R.tab.ris pl1
            rw [live] at s0
            injection s0 with s0
            rw [← s0, hp] at h0
            cases h0
            exact same k0
          · refine first (c' - c) i0 (by omega) (by rw [places, show c + (c' - c) = c' by omega]; exact pl1) ?_
            show (es[i0]?.map (·.1)).getD 0 = _
            rw [hashOf i0 p0 h0, k0]
      by_cases hl : t.led = true
      · refine wp_if_neg (by simp [hl]) ?_
        try refine wpAny_bind (wpAny_pure ?_)
        exact go_on
      · refine wp_if_pos (by simp [hl]) ?_
        refine wpAny_bind (seen_tup hx (fun y hy => ?_) ?_)
        · obtain ⟨e, me, ee⟩ := List.mem_map.mp hy
          have me1 : e ∈ es.toList := by
            have z : e ∈ es ∧ e.1 = h := by simpa using me
            simpa using z.1
          rw [R.rows] at me1
          obtain ⟨p2, m2, e2⟩ := List.mem_map.mp me1
          exact ⟨p2.2, p2.1, by rw [← ee, ← e2], R.tup p2 m2⟩
        · refine wp_if_neg (by decide) ?_
          try refine wpAny_bind (wpAny_pure ?_)
          exact go_on
    · have found' : t.probe (fun i => (es[i]?.map (·.1)).getD 0) h (st.getD (t.probeStart h)) = some (.empty (way t.mask h n) none) := by
        have e2 : way t.mask h n = (nth t.mask (pr t.mask h c) (n - c)).j := by rw [places, show c + (n - c) = n by omega]
        rw [est, e2]
        exact found
      rw [found']
      dsimp only
      refine wpAny_pure (no fun m => ?_)
      obtain ⟨p0, m0, k0⟩ := List.mem_map.mp m
      obtain ⟨i0, h0⟩ := List.getElem?_of_mem m0
      obtain ⟨c', le1, lt1, pl1⟩ := ahead i0 p0 h0 k0
      refine none_ (c' - c) i0 (by omega) (by rw [places, show c + (c' - c) = c' by omega]; exact pl1) ?_
      show (es[i0]?.map (·.1)).getD 0 = _
      rw [hashOf i0 p0 h0, k0, eh]
theorem seek_at (R : SetTQ P w s.heap a L es ep t) {x : Addr} {k : List Int} (hx : IsT P w s.heap k x) (hu : A.units < cLine) {Q : SetFound → Shared → Prop}
    (yes : k ∈ L.map (·.2) → Q (.there none) s)
    (no : ∀ n, k ∉ L.map (·.2) → way t.mask (thash P w k) n ∉ t.place.toList → (∀ c, c < n → way t.mask (thash P w k) c ∈ t.place.toList) → Q (.free (way t.mask (thash P w k) n) false) s) :
    wpAny (model P w) A (setSearch a (.ref x) (thash P w k) true) Q E s := by
  have rm := R.room
  obtain ⟨n, nf, free, full⟩ := R.tab.free (by rw [List.length_map]; omega) (thash P w k)
  have n5 : n < 100000 := by
    have e : SetTable.turns t.mask = t.mask + 15 := rfl
    rcases R.msk with z | z | z | z | z <;> omega
  unfold setSearch
  refine seek_from R hx hu nf free full yes (fun z => no n z free full) 100000 0 none rfl (Nat.zero_le _) (by omega) fun i p hp kp => ?_
  have hi : (L.map fun p => thash P w p.2)[i]? = some (thash P w k) := by rw [List.getElem?_map, hp, ← kp]; rfl
  have il : i < t.place.toList.length := by
    rw [Array.length_toList, R.cnt]
    exact (List.getElem?_eq_some_iff.mp hp).1
  obtain ⟨c, lc, ec⟩ := R.tab.ahead free hi (List.getElem?_eq_getElem il)
  exact ⟨c, Nat.zero_le _, lc, by rw [List.getElem?_eq_getElem il, ec]⟩
/-- the table laid anew -/
theorem relay_q {o : Obj} (ho : s.heap.get? a = some o) (hex : o.ExactSet) (hd : o.data = .set es ep t) (rows : es.toList = rowsOf P w L) (tb : TabQ t (L.map fun p => thash P w p.2)) (lf : L.length ≤ t.mask)
    (nd : (L.map (·.2)).Nodup) (tup : ∀ p ∈ L, IsT P w s.heap p.2 p.1) (pl : t.plain = true) (ld : w.params.followText "set-order" = true ∨ t.led = true) {wanted M : Nat}
    (ew : SetTable.sizeAbove wanted = M + 1) (q : MaskQ M) (hM : M = 7 ∨ M = 31 ∨ M = 127 ∨ M = 511 ∨ M = 2047) (fits : L.length * 5 < M * 3) {Q : Unit → Shared → Prop}
    (hQ : ∀ h' L' es' ep' t', Heap.SameBut a s.heap h' → SetTQ P w h' a L' es' ep' t' → L'.Perm L → Q () { s with heap := h' }) : wpAny (model P w) A (setRelay a wanted) Q E s := by
  have n1 : es.size = L.length := by
    have e := congrArg List.length rows
    unfold rowsOf at e
    simpa using e
  have n2 : t.place.size = L.length := by simpa using tb.sz
  have ft : t.fits es.size = true := by
    unfold SetTable.fits SetTable.fill
    rw [tb.dm, n1, n2]
    simpa using lf
  obtain ⟨t2, ord, er, pm, m2, l2, p2, T2⟩ := relaid_q t (hs := es.map (·.1)) (wanted := wanted) (by rw [ew]; rfl) q (by rw [Array.size_map, n1]; omega)
  rw [Array.size_map, n1] at pm
  obtain ⟨L2, r1, r2, r3⟩ := order_rows L es ord rows pm
  rw [← r3] at T2
  have n3 : (ord.filterMap (es[·]?)).size = es.size := by
    have e := congrArg List.length r1
    unfold rowsOf at e
    rw [Array.length_toList, List.length_map, r2.length_eq] at e
    omega
  rw [setRelay_eq]
  refine wpAny_bind (wpAny_setState_of ho hd ft ?_)
  dsimp only
  refine wp_if_neg (by rw [sizeLine_eq, ew]; omega) ?_
  try refine wpAny_bind (wpAny_pure ?_)
  rw [er]
  dsimp only
  refine wpAny_bind ?_
  refine wp_if_neg (by rw [n3]; simp) ?_
  try refine wpAny_bind (wpAny_pure ?_)
  refine wpAny_pure ?_
  dsimp only
  refine wpAny_storeSet_of ho hd ?_ (by rw [n3, n1, sizeLine_eq]; omega)
  have sb : Heap.SameBut a s.heap (s.heap.update a (Obj.putSet (ord.filterMap (es[·]?)) t2)) := Heap.SameBut.update ..
  exact hQ _ L2 _ (ep + 1) t2 sb { ob := ⟨_, store_at ho hd, ⟨hex.1, hex.2.1, hex.2.2⟩, rfl⟩, rows := r1, tab := T2, nd := (r2.map (·.2)).nodup_iff.mpr nd, tup := fun p hp => isT_same (tup p (r2.mem_iff.mp hp)) ho hd sb, plain := by rw [p2]; exact pl, led := by rw [l2]; exact ld, room := by rw [r2.length_eq, m2]; exact fits, msk := by rw [m2]; exact hM } r2
end
end Ev
end

section
set_option autoImplicit false
set_option linter.all false
set_option maxRecDepth 100000
set_option maxHeartbeats 1000000
/-! EvAdd: a tuple is added to a set of tuples. -/
namespace Ev
open PySem PySem.Spec PyProof.Rows L2
section
variable {P : Program} {w : World} {A : Around} {E : Value → Shared → Prop} {s : Shared} {a : Addr} {L : List (Addr × List Int)} {es : Array (Int × Value)} {ep : Nat} {t : SetTable}
/-- where the table is full it grows to the next mask -/
theorem next_mask (n m : Nat) (hm : m = 7 ∨ m = 31 ∨ m = 127 ∨ m = 511 ∨ m = 2047) (rm : n * 5 < m * 3) (full : (n + 1) * 5 ≥ m * 3) (few : n + 1 < 1229) :
    ∃ M, SetTable.sizeAbove (SetTable.grown (n + 1)) = M + 1 ∧ MaskQ M ∧ (M = 7 ∨ M = 31 ∨ M = 127 ∨ M = 511 ∨ M = 2047) ∧ (n + 1) * 5 < M * 3 ∧ n + 1 ≤ m := by
  rcases hm with z | z | z | z | z <;> subst z
  · have e : n = 4 := by omega
    subst e
    exact ⟨31, size_after_7, maskQ_31, .inr (.inl rfl), by decide, by decide⟩
  · have e : n = 18 := by omega
    subst e
    exact ⟨127, size_after_31, maskQ_127, .inr (.inr (.inl rfl)), by decide, by decide⟩
  · have e : n = 76 := by omega
    subst e
    exact ⟨511, size_after_127, maskQ_511, .inr (.inr (.inr (.inl rfl))), by decide, by decide⟩
  · have e : n = 306 := by omega
    subst e
    exact ⟨2047, size_after_511, maskQ_2047, .inr (.inr (.inr (.inr rfl))), by decide, by decide⟩
  · omega
theorem add_q (R : SetTQ P w s.heap a L es ep t) {x : Addr} {k : List Int} (hx : IsT P w s.heap k x) (hu : A.units < cLine) (few : L.length + 1 < 1229) {Q : Bool → Shared → Prop}
    (hQ : ∀ b h' L' es' ep' t', Heap.SameBut a s.heap h' → SetTQ P w h' a L' es' ep' t' → (k ∈ L.map (·.2) → L' = L) → (k ∉ L.map (·.2) → L'.Perm ((x, k) :: L)) → Q b { s with heap := h' }) :
    wpAny (model P w) A (setAddHashed a (.ref x) (thash P w k)) Q E s := by
  obtain ⟨o, ho, hex, hd⟩ := R.ob
  have n1 := R.size
  have rm := R.room
  unfold setAddHashed
  refine wpAny_holding ?_
  rw [show (100000 : Nat) = 99999 + 1 from rfl, setAddHashedIn_succ]
  refine wpAny_bind (wpAny_setState_of ho hd R.fits ?_)
  dsimp only
  refine wp_if_neg (by simp [byScan, Value.scannable]) ?_
  try refine wpAny_bind (wpAny_pure ?_)
  refine wpAny_bind (seek_at R hx hu (fun there => ?_) fun n out free full => ?_) <;> dsimp only
  · exact wpAny_pure (hQ false s.heap L es ep t (Heap.SameBut.refl a s.heap) R (fun _ => rfl) fun z => absurd there z)
  refine wpAny_bind (wpAny_setState_of ho hd R.fits ?_)
  dsimp only
  obtain ⟨u1, u2, u5, uf, ut⟩ := R.tab.put rfl free full
  have upl : (t.put (way t.mask (thash P w k) n)).1.plain = true := u5.plain.trans R.plain
  generalize ey : way t.mask (thash P w k) n = y at u1 u2 u5 uf ut upl ⊢
  rcases et : t.put y with ⟨t1, p⟩
  rw [et] at u1 u5 uf ut upl
  dsimp only at u1 u5 uf ut upl ⊢
  subst u1
  first
    | (refine wpAny_bind ?_; refine wp_if_pos upl ?_; refine hashBy_tup hx ?_)
    | refine wp_if_pos upl (wpAny_bind (hashBy_tup hx ?_))
  simp only [if_true]
  have rows1 : (SetTable.insertAt es (SetTable.below t.place y) (thash P w k, Value.ref x)).toList = rowsOf P w (L.take (SetTable.below t.place y) ++ (x, k) :: L.drop (SetTable.below t.place y)) := by
    rw [SetTable.toList_insertAt, rows_put, R.rows]
  generalize SetTable.below t.place y = p at u2 ut rows1 ⊢
  have pm := put_perm L p (x, k)
  have n2 : (L.take p ++ (x, k) :: L.drop p).length = L.length + 1 := pm.length_eq
  have hs1 : (L.take p ++ (x, k) :: L.drop p).map (fun p => thash P w p.2) = (L.map fun p => thash P w p.2).take p ++ thash P w k :: (L.map fun p => thash P w p.2).drop p := by simp
  rw [← hs1] at ut
  have nd1 : ((L.take p ++ (x, k) :: L.drop p).map (·.2)).Nodup := (pm.map (·.2)).nodup_iff.mpr (List.nodup_cons.mpr ⟨out, R.nd⟩)
  have n3 : (SetTable.insertAt es p (thash P w k, Value.ref x)).size = L.length + 1 := by
    have e := congrArg List.length rows1
    unfold rowsOf at e
    rw [Array.length_toList, List.length_map, n2] at e
    exact e
  generalize SetTable.insertAt es p (thash P w k, Value.ref x) = es1 at rows1 n3 ⊢
  generalize L.take p ++ (x, k) :: L.drop p = L1 at pm n2 ut nd1 rows1
  refine wpAny_bind (wpAny_storeSet_of ho hd ?_ (by rw [n3, sizeLine_eq]; omega))
  have sb : Heap.SameBut a s.heap (s.heap.update a (Obj.putSet es1 t1)) := Heap.SameBut.update ..
  have ho1 := store_at (es' := es1) (t' := t1) ho hd
  generalize s.heap.update a (Obj.putSet es1 t1) = h1 at sb ho1 ⊢
  have tup1 : ∀ p ∈ L1, IsT P w h1 p.2 p.1 := fun p hp => by
    have z := pm.mem_iff.mp hp
    rcases List.mem_cons.mp z with z | z
    · subst z; exact isT_same hx ho hd sb
    · exact isT_same (R.tup p z) ho hd sb
  have ld1 : w.params.followText "set-order" = true ∨ t1.led = true := by rw [u5.led]; exact R.led
  rw [List.length_map] at uf
  by_cases full1 : t1.tooFull = true
  · first
      | (refine wpAny_bind ?_; refine wp_if_pos (by simp [full1]) ?_)
      | (refine wp_if_pos (by simp [full1]) ?_; refine wpAny_bind ?_)
    have big : (L.length + 1) * 5 ≥ t.mask * 3 := by
      have z := full1
      unfold SetTable.tooFull at z
      rw [decide_eq_true_eq, uf, u5.mask] at z
      exact z
    obtain ⟨M, eM, qM, kM, fM, lM⟩ := next_mask L.length t.mask R.msk rm big few
    rw [n1]
    refine relay_q (s := { s with heap := h1 }) ho1 ⟨hex.1, hex.2.1, hex.2.2⟩ rfl rows1 ut (by rw [n2, u5.mask]; exact lM) nd1 tup1 upl ld1 eM qM kM (by rw [n2]; exact fM) ?_
    intro h2 L2 es2 ep2 t2 sb2 R2 pm2
    exact wpAny_pure (hQ true h2 L2 es2 ep2 t2 (sb.trans sb2) R2 (fun z => absurd z out) fun _ => pm2.trans pm)
  · first
      | refine wp_if_neg (by simp [full1]) ?_
      | (refine wpAny_bind ?_; refine wp_if_neg (by simp [full1]) ?_; refine wpAny_pure ?_)
    have rm1 : L1.length * 5 < t1.mask * 3 := by
      have z := full1
      unfold SetTable.tooFull at z
      rw [decide_eq_true_eq, uf] at z
      rw [n2]
      omega
    exact wpAny_pure (hQ true h1 L1 es1 (ep + 1) t1 sb { ob := ⟨_, ho1, ⟨hex.1, hex.2.1, hex.2.2⟩, rfl⟩, rows := rows1, tab := ut, nd := nd1, tup := tup1, plain := upl, led := ld1, room := rm1, msk := by rw [u5.mask]; exact R.msk } (fun z => absurd z out) fun _ => pm)
end
end Ev
end

section
set_option autoImplicit false
set_option linter.all false
set_option maxRecDepth 100000
set_option maxHeartbeats 1000000
/-! EvLoop: a list of tuples goes into a set. -/
namespace Ev
open PySem PySem.Spec PyProof.Rows L2
/-- fewer than 1228 distinct ones -/
def Few (ks : List (Addr × List Int)) : Prop := ∀ l : List (List Int), l.Nodup → (∀ k ∈ l, k ∈ ks.map (·.2)) → l.length < 1228
section
variable {P : Program} {w : World} {A : Around} {E : Value → Shared → Prop} {s : Shared}
theorem SetTQ.keep {h h' : Heap} {a : Addr} {L : List (Addr × List Int)} {es : Array (Int × Value)} {ep : Nat} {t : SetTable} (R : SetTQ P w h a L es ep t) (ha : ∀ o, h.get? a = some o → h'.get? a = some o) (ht : ∀ p ∈ L, IsT P w h' p.2 p.1) : SetTQ P w h' a L es ep t :=
  { R with ob := let ⟨o, ho, r⟩ := R.ob; ⟨o, ha o ho, r⟩, tup := ht }
theorem setTQ_new {h : Heap} {a : Addr} (ho : h.get? a = some { cls := .type "set", dict := none, data := .set #[] 0 (.fresh 0 0 (!w.params.followText "set-order")) }) : SetTQ P w h a [] #[] 0 (.fresh 0 0 (!w.params.followText "set-order")) where
  ob := ⟨_, ho, ⟨rfl, rfl, rfl⟩, rfl⟩
  rows := rfl
  tab := { ris := List.Pairwise.nil, dm := rfl, sz := rfl, mq := maskQ_7, bd := fun x hx => (nomatch hx), reach := fun i h j hi => by simp at hi }
  nd := List.nodup_nil
  tup := fun p hp => nomatch hp
  plain := rfl
  led := by
    show _ ∨ (!w.params.followText "set-order") = true
    cases w.params.followText "set-order" <;> simp
  room := by show 0 * 5 < 7 * 3; decide
  msk := .inl rfl
theorem fill_loop {I : Addr} {fp wr : List Addr} {G : Array GenState → Array GenState → Prop} {n : Nat} {Pv : Nat → Value → Prop} {St : Nat → Shared → Prop} {R : Result → Shared → Prop}
    (W : WalksS P w A.in1 I fp wr G n Pv St) (S : Addr) (out : S ∉ fp) (ks : List (Addr × List Int)) (hn : n = ks.length) (few : Few ks) (val : ∀ i v, Pv i v → ∃ p, ks[i]? = some p ∧ v = .ref p.1)
    (h0 : Heap) (tup : ∀ p ∈ ks, IsT P w h0 p.2 p.1) (S0 : h0.get? S = none) (w0 : ∀ b ∈ wr, h0.get? b = none) (hu : A.in1.units < cLine) :
    ∀ (left i : Nat) (s : Shared), n - i = left → i ≤ n → St i s → (∀ b o, h0.get? b = some o → s.heap.get? b = some o) → (∃ L es ep t, SetTQ P w s.heap S L es ep t ∧ Got ks i L) →
      (∀ s' L es ep t, Moved (S :: wr) G s s' → SetTQ P w s'.heap S L es ep t → Got ks n L → (∀ b o, h0.get? b = some o → s'.heap.get? b = some o) → R (.ok (.ret .none)) s') →
      codeAny (model P w) A (.builtin "set.update.loop" ⟨[.ref S, .ref I], []⟩) R s := by
  have Sw : S ∉ wr := fun z => out (W.sub _ z)
  have old : ∀ {s s' : Shared}, Moved wr G s s' → (∀ b o, h0.get? b = some o → s.heap.get? b = some o) → ∀ b o, h0.get? b = some o → s'.heap.get? b = some o := fun mv k b o e => mv.heap b o (fun z => by rw [w0 b z] at e; cases e) (k b o e)
  have mem : ∀ {i : Nat} {L : List (Addr × List Int)}, Got ks i L → ∀ p ∈ L, p ∈ ks := fun g p hp => List.mem_of_mem_take (g.sub p hp)
  intro left
  induction left with
  | zero =>
    intro i s e0 le st k0 ⟨L, es, ep, t, hS, g⟩ hR
    have ei : i = n := by omega
    subst ei
    refine codeAny_builtin F.entry_set_update_loop ?_
    rw [Around.under_plainId F.plain_set_update_loop _]
    show wpAny _ A.in1 (pyNext (.ref I) >>= _) _ _ s
    refine wpAny_bind (W.done s _ _ st fun s1 mv => ?_)
    show wpAny _ A.in1 (ret Value.none) _ _ s1
    have k1 := old mv k0
    exact wpAny_pure (hR s1 L es ep t (mv.mono fun b hb => List.mem_cons_of_mem _ hb) (hS.keep (fun o e => mv.heap S o Sw e) fun p hp => isT_keep (tup p (mem g p hp)) k1) g k1)
  | succ left ih =>
    intro i s e0 le st k0 ⟨L, es, ep, t, hS, g⟩ hR
    have lt : i < n := by omega
    refine codeAny_builtin F.entry_set_update_loop ?_
    rw [Around.under_plainId F.plain_set_update_loop _]
    show wpAny _ A.in1 (pyNext (.ref I) >>= _) _ _ s
    refine wpAny_bind (W.item i s _ _ lt st fun v s1 hv st1 mv => ?_)
    obtain ⟨p, hp, rfl⟩ := val i v hv
    have k1 := old mv k0
    have S1 : SetTQ P w s1.heap S L es ep t := hS.keep (fun o e => mv.heap S o Sw e) fun q hq => isT_keep (tup q (mem g q hq)) k1
    have hx : IsT P w s1.heap p.2 p.1 := isT_keep (tup p (List.mem_of_getElem? hp)) k1
    show wpAny _ A.in1 (holding [Value.ref p.1] (setAdd S (.ref p.1)) >>= _) _ _ s1
    refine wpAny_bind (wpAny_holding ?_)
    unfold setAdd
    refine wpAny_holding ?_
    refine wpAny_bind (wpAny_pyHash_tuple hu hx ?_)
    have lenL : L.length < 1228 := by
      have z := few (L.map (·.2)) hS.nd fun k hk => by
        obtain ⟨q, mq, eq⟩ := List.mem_map.mp hk
        exact List.mem_map.mpr ⟨q, mem g q mq, eq⟩
      rwa [List.length_map] at z
    refine add_q (s := { s1 with toks := s1.toks + (p.2.length + 1) }) S1 hx hu (by omega) fun b h' L' es' ep' t' sb S2 c1 c2 => ?_
    have g2 : Got ks (i + 1) L' := by
      by_cases c : p.2 ∈ L.map (·.2)
      · rw [c1 c]; exact g.same hp c
      · exact g.more hp (c2 c)
    have k2 : ∀ b o, h0.get? b = some o → h'.get? b = some o := fun b o e => (sb.2 b (fun z => by rw [z, S0] at e; cases e)).trans (k1 b o e)
    refine wpAny_pure ⟨plainId_quiet F.plain_set_update_loop _, ih (i + 1) _ (by omega) lt (W.frame _ s1 _ _ st1 (Nat.le_add_right _ _) fun b hb o e => ?_) k2 ⟨L', es', ep', t', S2, g2⟩ fun s2 L2 es2 ep2 t2 mv2 S3 g3 k3 => ?_⟩
    · rw [sb.2 b (fun z : b = S => out (z ▸ hb))]; exact e
    · refine hR s2 L2 es2 ep2 t2 (Moved.trans W.gtrans ((mv.mono fun b hb => List.mem_cons_of_mem _ hb).then_heap (Nat.le_add_right _ _) fun b o hb e => ?_) mv2) S3 g3 k3
      rw [sb.2 b (fun z : b = S => hb (by rw [z]; exact List.mem_cons_self))]; exact e
end
end Ev
end

section
set_option autoImplicit false
set_option linter.all false
set_option maxRecDepth 100000
set_option maxHeartbeats 4000000
/-! EvCall: set(xs), xs a list of tuples of ints. -/
namespace Ev
open PySem PySem.Spec PyProof.Rows L2
section
variable {P : Program} {w : World} {A : Around} {E : Value → Shared → Prop} {s : Shared}
/-- a new set -/
abbrev sob (w : World) : Obj := { cls := .type "set", dict := none, data := .set #[] 0 (.fresh 0 0 (!w.params.followText "set-order")) }
theorem call_set_q {l : Addr} {items : Array Value} (ks : List (Addr × List Int)) {Q : Value → Shared → Prop} (hh : A.handled = none) (hl : s.heap.IsList l items) (it : items.toList = ks.map fun p => Value.ref p.1)
    (tup : ∀ p ∈ ks, IsT P w s.heap p.2 p.1) (few : Few ks) (hu : A.units + 3 < cLine)
    (hq : ∀ (h' : Heap) (tk : Nat) L es ep t, SetTQ P w h' s.heap.objs.size L es ep t → Got ks ks.length L → (∀ b o, s.heap.get? b = some o → h'.get? b = some o) → Q (.ref s.heap.objs.size) { s with heap := h', toks := tk }) :
    wpAny (model P w) A (call (.type "set") [.ref l]) Q E s := by
  have n1 : items.size = ks.length := by
    have e := congrArg List.length it
    simpa using e
  obtain ⟨c, tl, hmro⟩ := F.called_set.mro
  have f1 := F.called_set.made
  have f2 := F.called_set.sub
  refine wpAny_call (codeAny_of_tree ?_)
  show wpAny _ _ (callAny (.type "set") _) _ _ _
  refine wpAny_pure ⟨Code.quiet_builtin _ (by decide +kernel), codeAny_builtin F.entry_type_call ?_⟩
  rw [Around.under_plain (weight_type_call_type "set" [.ref l] []) rfl]
  have f3 := F.called_set.notType
  have f4 := F.called_set.canCreate
  have f5 := F.typeCall_set_1 (.ref l)
  repeat (any_goals (first | assumption | wp_step))
  refine codeAny_mono (code_set_led1 (.ref l) (E := E) (Q₁ := fun y z => y = .ref s.heap.objs.size ∧ z = { s with heap := s.heap.push (sob w) }) ⟨rfl, rfl⟩) fun r z hr => ?_
  cases r with
  | error e => exact hr
  | ok fl =>
    cases fl <;> first
      | exact hr.elim
      | skip
    obtain ⟨rfl, rfl⟩ := hr
    have there : (s.heap.push (sob w)).get? s.heap.objs.size = some (sob w) := Heap.get?_push_size _ rfl
    have ty : Shared.TypeIs { s with heap := s.heap.push (sob w) } (.ref s.heap.objs.size) "set" := ⟨_, there, rfl⟩
    have g1 := F.called_set.init.lookup
    have g2 := F.called_set.init.bind (.ref s.heap.objs.size)
    repeat (any_goals (first | assumption | wp_step))
    refine codeAny_mono (codeAny_call_builtin (R := wants (fun y z => y = .none ∧ ∃ h' tk L es ep t, z = { s with heap := h', toks := tk } ∧ SetTQ P w h' s.heap.objs.size L es ep t ∧ Got ks ks.length L ∧
        (∀ b o, s.heap.get? b = some o → h'.get? b = some o)) E) F.called_set.init.plain F.entry_set_init (check_set_init_1 ty ?_)) fun r2 z2 hr2 => ?_
    rotate_left
    · cases r2 with
      | error e => exact hr2
      | ok fl2 =>
        cases fl2 <;> first
          | exact hr2.elim
          | skip
        obtain ⟨rfl, h', tk, L, es, ep, t, rfl, R, g, k⟩ := hr2
        repeat (any_goals (first | assumption | wp_step))
        exact hq _ _ _ _ _ _ R g k
    · obtain ⟨ol, hol, hcl, nl, hdl⟩ := hl
      obtain ⟨oc, od, dt, sl⟩ := ol
      simp only at hcl hdl
      subst hcl hdl
      have hol1 : (s.heap.push (sob w)).get? l = some { cls := .type "list", dict := od, data := .seq items nl, slots := sl } := Heap.get?_push_of_some _ hol
      have k1 := F.sub_list_set
      have k2 := F.sub_list_frozenset
      have k3 : (Value.type "list" == Value.type "dict") = false := by decide
      have hl1 : (s.heap.push (sob w)).IsList l items := ⟨_, hol1, rfl, nl, rfl⟩
      have lt0 : l < s.heap.objs.size := Heap.lt_size hol
      unfold Builtin.«set.__init__» noKeywords Builtin.Frozenset.updateFrom
      generalize hPI : pyIter = PI
      wp_walk
      subst hPI
      refine wpAny_pyIter_list hl1 ?_
      refine wpAny_bind (wpAny_runValue ?_)
      have hh3 : A.in1.in1.in1.handled = none := by simp [hh]
      have gone : ∀ b, s.heap.objs.size ≤ b → s.heap.get? b = none := fun b le => Heap.get?_none_of_le le
      have far : l ≠ (s.heap.push (sob w)).objs.size := by rw [Heap.size_push]; exact Nat.ne_of_lt (Nat.lt_succ_of_lt lt0)
      have out : s.heap.objs.size ∉ [(s.heap.push (sob w)).objs.size, l] := by
        rw [Heap.size_push]
        simp only [List.mem_cons, List.not_mem_nil, or_false, not_or]
        exact ⟨Nat.ne_of_lt (Nat.lt_succ_self _), Nat.ne_of_gt lt0⟩
      have val : ∀ (i : Nat) (v : Value), items[i]? = some v → ∃ p, ks[i]? = some p ∧ v = .ref p.1 := fun i v hv => by
        have e : items.toList[i]? = some v := by rw [Array.getElem?_toList]; exact hv
        rw [it, List.getElem?_map] at e
        rcases z : ks[i]? with _ | p
        · rw [z] at e; cases e
        · rw [z] at e
          exact ⟨p, rfl, (Option.some.inj e).symm⟩
      refine fill_loop ((Walks.list hh3 _ l far items).toS) s.heap.objs.size out ks n1 few val s.heap tup (gone _ (Nat.le_refl _)) (fun b hb => gone b (by rw [List.mem_singleton.mp hb, Heap.size_push]; exact Nat.le_succ _)) hu (items.size - 0) 0 _ (by omega) (Nat.zero_le _)
        ⟨⟨_, Heap.get?_push_size _ rfl, rfl, rfl⟩, hl1.push _⟩ (fun b o e => Heap.get?_push_of_some _ (Heap.get?_push_of_some _ e)) ⟨[], #[], 0, _, setTQ_new (Heap.get?_push_of_some _ there), Got.zero ks⟩ ?_
      intro z1 L es ep t mv R g k
      obtain ⟨h', gg, dd, tk, oo⟩ := z1
      have e1 : gg = s.gens := mv.gens
      have e2 : dd = s.drawn := mv.drawn
      have e3 : oo = s.os := mv.os
      subst e1 e2 e3
      show wpAny _ _ _ _ _ _
      refine wpAny_pure ?_
      show wpAny _ _ (ret Value.none) _ _ _
      rw [n1] at g
      exact wpAny_pure ⟨rfl, h', tk, L, es, ep, t, rfl, R, g, k⟩
end
end Ev
end

section
set_option autoImplicit false
set_option linter.all false
set_option maxRecDepth 100000
set_option maxHeartbeats 1000000
/-! EvSob: a set of tuples as a tracked object. -/
namespace Ev
open PySem PySem.Spec PyProof.Rows L2
/-- the set at a, without its tuples -/
def SetQ0 (P : Program) (w : World) (h : Heap) (a : Addr) (L : List (Addr × List Int)) : Prop :=
  ∃ (es : Array (Int × Value)) (ep : Nat) (t : SetTable), (∃ o, h.get? a = some o ∧ o.ExactSet ∧ o.data = .set es ep t) ∧ ∀ h2, (∃ o, h2.get? a = some o ∧ o.ExactSet ∧ o.data = .set es ep t) → (∀ p ∈ L, IsT P w h2 p.2 p.1) → SetTQ P w h2 a L es ep t
theorem SetTQ.q0 {P : Program} {w : World} {h : Heap} {a : Addr} {L : List (Addr × List Int)} {es : Array (Int × Value)} {ep : Nat} {t : SetTable} (R : SetTQ P w h a L es ep t) : SetQ0 P w h a L :=
  ⟨es, ep, t, R.ob, fun h2 o2 t2 => { R with ob := o2, tup := t2 }⟩
def SetQO (P : Program) (w : World) (a : Addr) (L : List (Addr × List Int)) : HO := .ext fun h => SetQ0 P w h a L
theorem setQO_new {P : Program} {w : World} {H : Hp} {h : Heap} {a : Addr} {L : List (Addr × List Int)} (R : SetQ0 P w h a L) : ObjOk P w H h a (SetQO P w a L) := by
  have R0 := R
  obtain ⟨es, ep, t, ⟨o, ho, r⟩, _⟩ := R0
  refine ⟨R, ⟨o, ho⟩, fun h1 h2 p k => ?_⟩
  have p : SetQ0 P w h1 a L := p
  obtain ⟨es', ep', t', ⟨o', ho', r'⟩, f⟩ := p
  exact ⟨es', ep', t', ⟨o', k o' ho', r'⟩, f⟩
section
variable {X : Cx}
/-- set(xs), xs a list of tuples of ints -/
def rSetQ (K : PySem.W.Frag) (P : Program) (w : World) : List V → Hp → VK → Prop := fun xs H Q => ∃ (l : Addr) (ks : List (Addr × List Int)), xs = [V.ref l] ∧ SqL K H l (ks.map fun p => V.ref p.1) ∧ (∀ p ∈ ks, SqT K H p.1 (p.2.map V.int)) ∧ Few ks ∧
  ∀ a L, H a = none → (L.map (·.2)).Nodup → (∀ p ∈ L, p ∈ ks) → (∀ p ∈ ks, p.2 ∈ L.map (·.2)) → Q (.ref a) (upd H a (SetQO P w a L))
theorem cr_setQ (hc : X.calm = true) (hu : X.A.units + 64 < cLine) : CallR X (.type "set") (rSetQ X.K X.prog X.w) := by
  intro pins s σ H xs us Q I r h
  obtain ⟨l, ks, rfl, hl, tp, few, q⟩ := h
  rw [Vals.ref1 r]
  obtain ⟨its, rv, pl, hz⟩ := I.list hl
  have n0 : H s.heap.objs.size = none := I.hok.fresh (Nat.le_refl _)
  refine call_set_q (P := X.prog) (w := X.w) ks (I.ok.hd hc) pl.isList (by simpa using refs_of_vals rv) (fun p hp => I.isT (tp p hp)) few (by omega) fun h' tk L es ep t R g k => ?_
  refine ⟨.ref s.heap.objs.size, _, I.laid (t' := tk) k (Nat.le_refl _) (setQO_new R.q0), rfl, q _ L n0 R.nd (fun p hp => List.mem_of_mem_take (g.sub p hp)) fun p hp => g.all p (by rw [List.take_length]; exact hp)⟩
end
end Ev
end

section
set_option autoImplicit false
set_option linter.all false
set_option maxRecDepth 100000
set_option maxHeartbeats 4000000
/-! EvSrt: sorted of a set of tuples of ints, any number of them. -/
namespace Ev
open PySem PySem.Spec PyProof.Rows L2 SrtO
theorem lexLt_irr : ∀ x : List Int, lexLt x x = false
  | [] => rfl
  | a :: x => by unfold lexLt; rw [if_pos rfl]; exact lexLt_irr x
theorem lexLt_trans : ∀ {x y z : List Int}, lexLt x y = true → lexLt y z = true → lexLt x z = true
  | [], [], _, h, _ => by cases h
  | [], _ :: _, [], _, h => by cases h
  | [], _ :: _, _ :: _, _, _ => rfl
  | _ :: _, [], _, h, _ => by cases h
  | _ :: _, _ :: _, [], _, h => by cases h
  | a :: x, b :: y, c :: z, h1, h2 => by
    unfold lexLt at h1 h2 ⊢
    by_cases e1 : a = b
    · subst e1
      rw [if_pos rfl] at h1
      by_cases e2 : a = c
      · subst e2
        rw [if_pos rfl] at h2 ⊢
        exact lexLt_trans h1 h2
      · rw [if_neg e2] at h2 ⊢
        exact h2
    · rw [if_neg e1] at h1
      have l1 := of_decide_eq_true h1
      by_cases e2 : b = c
      · subst e2
        rw [if_neg e1]
        exact h1
      · rw [if_neg e2] at h2
        have l2 := of_decide_eq_true h2
        rw [if_neg (by omega)]
        exact decide_eq_true (by omega)
theorem lexLt_tot : ∀ {x y : List Int}, lexLt x y = false → x ≠ y → lexLt y x = true
  | [], [], _, h => absurd rfl h
  | [], _ :: _, h, _ => by cases h
  | _ :: _, [], _, _ => rfl
  | a :: x, b :: y, h, n => by
    unfold lexLt at h ⊢
    by_cases e : a = b
    · subst e
      rw [if_pos rfl] at h ⊢
      exact lexLt_tot h fun z => n (by rw [z])
    · rw [if_neg e] at h
      have l := of_decide_eq_false h
      rw [if_neg fun z => e z.symm]
      exact decide_eq_true (by omega)
theorem swo_lexL (k : Value → List Int) : Swo fun v u => lexLt (k v) (k u) := by
  have key : ∀ x y : List Int, lexLt x y = true → lexLt y x = false := fun x y h => by
    cases z : lexLt y x with
    | false => rfl
    | true => have := lexLt_trans h z; rw [lexLt_irr] at this; cases this
  refine ⟨fun x y h => key _ _ h, fun x y z h1 h2 => ?_⟩
  cases q : lexLt (k z) (k x) with
  | false => rfl
  | true =>
    exfalso
    by_cases e : k z = k y
    · rw [e, h1] at q; cases q
    · have := lexLt_trans (lexLt_tot h2 e) q
      rw [h1] at this; cases this
section
variable {prog : Program} {w : World} {A : Around} {E : Value → Shared → Prop} {s : Shared}
theorem lex_kat {Q : Bool → Shared → Prop} {fin : Bool} : ∀ {ns ms : List Int} {us vs : List Value} (i : Nat), IntsAre us ns → IntsAre vs ms → fin = decide (us.length < vs.length) → Q (lexLt ns ms) s → PySem.W.KatLex prog w A true fin Q (us.zip vs) i s
  | _, _, _, _, i, .nil, .nil, hf, h => PySem.W.kat_nil (by rw [hf]; exact h)
  | _, _, _, _, i, .nil, .cons m t r, hf, h => PySem.W.kat_nil (by rw [hf]; exact h)
  | _, _, _, _, i, .cons n t r, .nil, hf, h => PySem.W.kat_nil (by rw [hf]; exact h)
  | _, _, _, _, i, .cons (ns := ns) (vs := us) x t r, .cons (ns := ms) (vs := vs) y u r2, hf, h => by
    rw [List.zip_cons_cons]
    refine PySem.W.kat_cons (SeqAt.EqAt.int_int x t y u prog w _ _ ?_)
    refine PySem.W.kat_go (fun e1 => ?_) (fun e1 => ?_)
    · have ex : x = y := by simpa using e1
      refine PySem.W.kat_yes (lex_kat (i + 1) r r2 (by rw [hf]; simp) ?_)
      unfold lexLt at h
      rw [if_pos ex] at h
      exact h
    · have ex : ¬ x = y := by simpa using e1
      unfold lexLt at h
      rw [if_neg ex] at h
      exact PySem.W.kat_no (TS.oneLt_ints _ h)
theorem tups_cmp {vs : List Value} {k : Value → List Int} (hp : ∀ v ∈ vs, TS.TupInts s.heap v (k v)) : Cmp prog w A s (tuples' true) (fun p => p.1 ∈ vs) (lt2 fun v u => lexLt (k v) (k u)) := by
  intro p q hm hm'
  have h1 := hp _ hm
  have h2 := hp _ hm'
  show wpAny (model prog w) A (keyLt' (tuples' true) p.1 q.1) (fun r s' => s' = s ∧ r = lexLt (k p.1) (k q.1)) (fun _ _ => False) s
  generalize k p.1 = x at h1 ⊢
  generalize k q.1 = y at h2 ⊢
  obtain ⟨a, xs, e, ⟨o, ho, hc, n, hd⟩, i1⟩ := h1
  obtain ⟨a', xs', e', ⟨o', ho', hc', n', hd'⟩, i2⟩ := h2
  rw [e, e']
  exact PySem.W.kat_lt ho hd ho' hd' (lex_kat 0 i1 i2 (by simp) ⟨rfl, rfl⟩)
theorem firsts_l {h : Heap} {k : Value → List Int} : ∀ vs : List Value, (∀ v ∈ vs, TS.TupInts h v (k v) ∧ k v ≠ []) → ∃ fs, PySem.W.KatTups h vs fs ∧ fs.length = vs.length ∧ ∀ f ∈ fs, ∃ n t, f = Value.int n t
  | [], _ => ⟨[], PySem.W.KatTups.nil, rfl, fun f hf => by simp at hf⟩
  | v :: vs, x => by
    obtain ⟨fs, kt, hl, hi⟩ := firsts_l vs fun u hu => x u (List.mem_cons_of_mem _ hu)
    obtain ⟨⟨a, xs, e0, ⟨o, ho, hc, n, hdt⟩, i⟩, hn⟩ := x v List.mem_cons_self
    subst e0
    obtain ⟨y, ys, e⟩ : ∃ y ys, xs.toList = y :: ys := by
      cases q : xs.toList with
      | nil =>
        rw [q] at i
        have l := i.length
        exact absurd (List.eq_nil_of_length_eq_zero (by rw [← l]; rfl)) hn
      | cons y ys => exact ⟨y, ys, rfl⟩
    obtain ⟨m, t, hy⟩ := i.all y (by rw [e]; exact List.mem_cons_self)
    refine ⟨y :: fs, PySem.W.KatTups.cons ho hc hdt ?_ kt, by simp [hl], ?_⟩
    · have z := congrArg (fun l : List Value => l[0]?) e
      simpa using z
    · intro f hf
      rcases List.mem_cons.mp hf with rfl | hf
      · exact ⟨m, t, hy⟩
      · exact hi f hf
theorem tups_sortable {a : Addr} {vs : List Value} {k : Value → List Int} (h0 : 0 < vs.length) (hp : ∀ v ∈ vs, TS.TupInts s.heap v (k v) ∧ k v ≠ []) (ha : ∀ o, s.heap.get? a = some o → o.cls ≠ .type "tuple") : SortableO prog w A s a vs fun v u => lexLt (k v) (k u) := by
  intro h' keep
  have hp' : ∀ v ∈ vs, TS.TupInts h' v (k v) ∧ k v ≠ [] := fun v hm => ⟨(hp v hm).1.keeps fun b o e c => keep b o (fun z => by subst z; exact ha o e c) e, (hp v hm).2⟩
  obtain ⟨fs, h1, h2, h3⟩ := firsts_l vs hp'
  refine ⟨tuples' true, fun Q E hq => ?_, tups_cmp fun v hm => (hp' v hm).1⟩
  refine PySem.W.kat_kind (T := .type "int") h1 (by omega) (fun f hm => ?_) (by rfl) ?_
  · obtain ⟨x, t, rfl⟩ := h3 f hm
    exact PySem.W.Looks.now
  · have e : (Value.type "int" != Value.type "tuple") = true := by first | decide +kernel | rfl | decide
    rw [e]
    exact hq
end
section
variable {P : Program} {w : World} {A : Around} {E : Value → Shared → Prop} {s : Shared}
theorem sorted_setQ {a : Addr} {L : List (Addr × List Int)} {es : Array (Int × Value)} {ep : Nat} {t : SetTable} {Q : Value → Shared → Prop} (R : SetTQ P w s.heap a L es ep t) (hh : A.handled = none) (hsmall : L.length < 2000) (hne : ∀ p ∈ L, p.2 ≠ [])
    (hQ : ∀ s' p (out : Array Value) (c : Nat) (L' : List (Addr × List Int)), (∀ b o, s.heap.get? b = some o → s'.heap.get? b = some o) → s'.gens = s.gens → s'.os = s.os → s.heap.objs.size ≤ p →
      s'.heap.get? p = some (seqObj "list" out c) → out.toList = L'.map (fun q => Value.ref q.1) → L'.Perm L → L'.Pairwise (fun q r => lexLt r.2 q.2 = false) → Q (.ref p) s') :
    wpAny (model P w) A (call (.builtin "sorted") [.ref a]) Q E s := by
  obtain ⟨o, ho, hex, hd⟩ := R.ob
  have hsz := R.size
  refine Calls.call_function_entry kind_sorted plain_sorted entry_sorted (args_sorted1 _) ?_
  unfold Builtin.«sorted»
  refine wpAny_bind (m := checkCount "sorted" 1 1 _) (wpAny_pure ?_)
  refine wpAny_bind (collect_set (A := A.in1) hh ⟨o, ho, hex.1, hd⟩ R.fits (by unfold scanBound; omega) R.tab.ris R.led fun s1 vs k1 hz g1 o1 pm => ?_)
  have hes : es.toList.map (·.2) = L.map fun q => Value.ref q.1 := by
    rw [R.rows]
    unfold rowsOf
    rw [List.map_map] <;> rfl
  rw [hes] at pm
  have ord : ∀ vs : List Value, (∀ v ∈ vs, ∃ q ∈ L, v = Value.ref q.1) → ∃ L1 : List (Addr × List Int), vs = L1.map (fun q => Value.ref q.1) ∧ ∀ q ∈ L1, q ∈ L := by
    intro us
    induction us with
    | nil => intro _; exact ⟨[], rfl, fun q hq => (by cases hq)⟩
    | cons v us ih =>
      intro hv
      obtain ⟨q, hq, e⟩ := hv v List.mem_cons_self
      obtain ⟨L1, e1, hs⟩ := ih fun u hu => hv u (List.mem_cons_of_mem _ hu)
      refine ⟨q :: L1, by rw [List.map_cons, e, e1], fun r hr => ?_⟩
      rcases List.mem_cons.mp hr with z | z
      · rw [z]; exact hq
      · exact hs r z
  have one : ∀ q ∈ L, ∀ r ∈ L, q.1 = r.1 → q = r := fun q hq r hr e => by
    have a1 := R.tup q hq
    have a2 := R.tup r hr
    rw [e] at a1
    exact Prod.ext e (a1.inj a2)
  have perm_of : ∀ L1 : List (Addr × List Int), (∀ q ∈ L1, q ∈ L) → (L1.map (fun q => Value.ref q.1)).Perm (L.map fun q => Value.ref q.1) → L1.Perm L := by
    intro L1 hs pm1
    have nL : L.Nodup := nodup_of_map R.nd
    have nref : (L.map fun q => Value.ref q.1).Nodup := by
      refine List.pairwise_map.mpr (List.Pairwise.imp_of_mem (fun {q r} hq hr hne e => ?_) nL)
      injection e with e
      exact hne (one q hq r hr e)
    have n1 : L1.Nodup := nodup_of_map (pm1.nodup_iff.mpr nref)
    refine (List.perm_ext_iff_of_nodup n1 nL).mpr fun q => ⟨hs q, fun hq => ?_⟩
    have hm : Value.ref q.1 ∈ L1.map (fun q => Value.ref q.1) := pm1.mem_iff.mpr (List.mem_map.mpr ⟨q, hq, rfl⟩)
    obtain ⟨r, hr, e⟩ := List.mem_map.mp hm
    injection e with e
    rw [← one r (hs r hr) q hq e]
    exact hr
  have hvl : vs.length < 2000 := by rw [pm.length_eq, List.length_map]; exact hsmall
  refine wpAny_bind (wpAny_newList ?_ (by rw [sizeLine_eq]; omega))
  have hoL : (s1.heap.push (seqObj "list" vs.toArray 0)).get? s1.heap.objs.size = some (seqObj "list" vs.toArray 0) := Heap.get?_push_size _ rfl
  have tk : ∀ q ∈ L, TS.TupInts (s1.heap.push (seqObj "list" vs.toArray 0)) (.ref q.1) q.2 := fun q hq => tupInts_of (P := P) (w := w) (isT_keep (R.tup q hq) fun b u e => Heap.get?_push_of_some _ (k1 b u e))
  have hp : ∀ v ∈ vs, TS.TupInts (s1.heap.push (seqObj "list" vs.toArray 0)) v (TS.intsOf (s1.heap.push (seqObj "list" vs.toArray 0)) v) ∧ TS.intsOf (s1.heap.push (seqObj "list" vs.toArray 0)) v ≠ [] := fun v hv => by
    obtain ⟨q, hq, e⟩ := List.mem_map.mp (pm.mem_iff.mp hv)
    subst e
    have ti := tk q hq
    rw [ti.ints]
    exact ⟨ti, hne q hq⟩
  refine wpAny_bind (wpAny_holding (wpAny_call_entry slot_list_sort ⟨_, hoL, rfl⟩ entry_list_sort (list_sort_ord (s := { s1 with heap := s1.heap.push (seqObj "list" vs.toArray 0) }) (swo_lexL (TS.intsOf (s1.heap.push (seqObj "list" vs.toArray 0)))) hoL (by rw [sizeLine_eq]; omega) (fun h2 => tups_sortable (by omega) hp fun o e => ?_) fun out a1 a2 => ⟨_, rfl, ?_⟩) (args_list_sort _)))
  · have e' : some o = some (seqObj "list" vs.toArray 0) := e.symm.trans hoL
    cases e'
    intro c
    exact absurd (Value.type.inj c) (by decide)
  · obtain ⟨c, hc⟩ := sortedHeap_at (vs := vs) (out := out.toArray) hoL
    have a2 := a2.perm
    obtain ⟨L', e', hs'⟩ := ord out fun v hv => by
      obtain ⟨q, hq, e⟩ := List.mem_map.mp (pm.mem_iff.mp (a2.mem_iff.mp hv))
      exact ⟨q, hq, e.symm⟩
    have pL : L'.Perm L := perm_of L' hs' (by rw [← e']; exact a2.trans pm)
    have pw : L'.Pairwise (fun q r => lexLt r.2 q.2 = false) := by
      rw [e'] at a1
      refine List.Pairwise.imp_of_mem (fun {q r} hq hr hle => ?_) (List.pairwise_map.mp a1)
      have f1 : TS.intsOf (s1.heap.push (seqObj "list" vs.toArray 0)) (.ref q.1) = q.2 := (tk q (hs' q hq)).ints
      have f2 : TS.intsOf (s1.heap.push (seqObj "list" vs.toArray 0)) (.ref r.1) = r.2 := (tk r (hs' r hr)).ints
      rw [← f1, ← f2]
      exact hle
    refine wpAny_pure ⟨_, rfl, hQ _ s1.heap.objs.size out.toArray c L' (fun b u e => ?_) g1 o1 hz hc (by rw [← e']) pL pw⟩
    have q := k1 b u e
    have hlt := Heap.lt_size q
    show (sortedHeap (s1.heap.push (seqObj "list" vs.toArray 0)) s1.heap.objs.size vs out.toArray).get? b = some u
    rw [sortedHeap_old (Nat.ne_of_lt hlt) (by rw [size_push']; exact Nat.lt_succ_of_lt hlt)]
    exact Heap.get?_push_of_some _ q
end
section
variable {X : Cx}
/-- sorted(set) of tuples of ints -/
def rSortQ (K : PySem.W.Frag) (P : Program) (w : World) : List V → Hp → VK → Prop := fun vs H Q => ∃ (a : Addr) (L : List (Addr × List Int)), vs = [V.ref a] ∧ H a = some (SetQO P w a L) ∧ (∀ p ∈ L, SqT K H p.1 (p.2.map V.int)) ∧ L.length < 2000 ∧ (∀ p ∈ L, p.2 ≠ []) ∧
  ∀ (L' : List (Addr × List Int)) (p : Addr), L'.Perm L → L'.Pairwise (fun q r => lexLt r.2 q.2 = false) → H p = none → Q (.ref p) (upd H p (.lst (L'.map fun q => V.ref q.1)))
theorem cr_sortQ (hc : X.calm = true) : CallR X (.builtin "sorted") (rSortQ X.K X.prog X.w) := by
  intro pins s σ H vs us Q I r h
  obtain ⟨a, L, rfl, ha, hk, hs, hne, q⟩ := h
  have R0 : SetQ0 X.prog X.w s.heap a L := (I.hok a _ ha).1
  obtain ⟨es, ep, t, ob, f⟩ := R0
  have R := f s.heap ob fun p hp => I.isT (hk p hp)
  rw [Vals.ref1 r]
  refine sorted_setQ R (I.ok.hd hc) hs hne fun s' p out c L' k g o hp hg hout pm pw => ?_
  have hfew : L'.length < 2000 := by rw [pm.length_eq]; exact hs
  have hlen : (L'.map fun q => V.ref q.1).length ≤ sizeLine := by rw [List.length_map, sizeLine_eq]; omega
  have hn : H p = none := I.hok.fresh hp
  have hv : Vals (L'.map fun q => V.ref q.1) out.toList := by rw [hout]; exact vals_of_refs L'
  have J : Inv X pins σ (upd H p (.lst (L'.map fun q => V.ref q.1))) { s with heap := s'.heap, gens := s'.gens, drawn := s'.drawn, toks := s'.toks } :=
    I.call (ch := []) (Un.laid k hp hn) (I.hok.laid k hp ⟨hlen, out.toList, c, hv, hg⟩) (by rw [g]; exact I.bare) (fun _ z => nomatch z)
  have e : s' = { s with heap := s'.heap, gens := s'.gens, drawn := s'.drawn, toks := s'.toks } := by
    cases s'
    cases s
    cases o
    rfl
  rw [e]
  exact ⟨.ref p, _, J, rfl, q L' p pm pw hn⟩
end
end Ev
end

section
set_option autoImplicit false
set_option linter.all false
set_option maxRecDepth 100000
set_option maxHeartbeats 4000000
/-! EvSetI: set(xs), sorted of it: ints, fewer than 4095. -/
namespace Ev
open PySem PySem.Spec PyProof.Rows L2 SrtO
section
variable {P : Program} {w : World} {A : Around} {E : Value → Shared → Prop} {s : Shared}
theorem call_set_i {l : Addr} {items : Array Value} (ns : List Int) {Q : Value → Shared → Prop} (hh : A.handled = none) (hl : s.heap.IsList l items) (it : IntsAre items.toList ns) (few : ns.length + 1 < scanBound)
    (hq : ∀ (h' : Heap) (tk c : Nat), SetR w h' s.heap.objs.size (fun j => decide (j ∈ ns)) c → c ≤ ns.length → (∀ b o, s.heap.get? b = some o → h'.get? b = some o) → Q (.ref s.heap.objs.size) { s with heap := h', toks := tk }) :
    wpAny (model P w) A (call (.type "set") [.ref l]) Q E s := by
  have n1 : items.size = ns.length := by
    have q := IntsAre.length it
    rw [Array.length_toList] at q
    exact q
  obtain ⟨c, tl, hmro⟩ := F.called_set.mro
  have f1 := F.called_set.made
  have f2 := F.called_set.sub
  refine wpAny_call (codeAny_of_tree ?_)
  show wpAny _ _ (callAny (.type "set") _) _ _ _
  refine wpAny_pure ⟨Code.quiet_builtin _ (by decide +kernel), codeAny_builtin F.entry_type_call ?_⟩
  rw [Around.under_plain (weight_type_call_type "set" [.ref l] []) rfl]
  have f3 := F.called_set.notType
  have f4 := F.called_set.canCreate
  have f5 := F.typeCall_set_1 (.ref l)
  repeat (any_goals (first | assumption | wp_step))
  refine codeAny_mono (code_set_led1 (.ref l) (E := E) (Q₁ := fun y z => y = .ref s.heap.objs.size ∧ z = { s with heap := s.heap.push (sob w) }) ⟨rfl, rfl⟩) fun r z hr => ?_
  cases r with
  | error e => exact hr
  | ok fl =>
    cases fl <;> first
      | exact hr.elim
      | skip
    obtain ⟨rfl, rfl⟩ := hr
    have there : (s.heap.push (sob w)).get? s.heap.objs.size = some (sob w) := Heap.get?_push_size _ rfl
    have ty : Shared.TypeIs { s with heap := s.heap.push (sob w) } (.ref s.heap.objs.size) "set" := ⟨_, there, rfl⟩
    have g1 := F.called_set.init.lookup
    have g2 := F.called_set.init.bind (.ref s.heap.objs.size)
    repeat (any_goals (first | assumption | wp_step))
    refine codeAny_mono (codeAny_call_builtin (R := wants (fun y z => y = .none ∧ ∃ h' tk c, z = { s with heap := h', toks := tk } ∧ SetR w h' s.heap.objs.size (fun j => decide (j ∈ ns)) c ∧ c ≤ ns.length ∧
        (∀ b o, s.heap.get? b = some o → h'.get? b = some o)) E) F.called_set.init.plain F.entry_set_init (check_set_init_1 ty ?_)) fun r2 z2 hr2 => ?_
    rotate_left
    · cases r2 with
      | error e => exact hr2
      | ok fl2 =>
        cases fl2 <;> first
          | exact hr2.elim
          | skip
        obtain ⟨rfl, h', tk, c', rfl, R, g, k⟩ := hr2
        repeat (any_goals (first | assumption | wp_step))
        exact hq _ _ _ R g k
    · obtain ⟨ol, hol, hcl, nl, hdl⟩ := hl
      obtain ⟨oc, od, dt, sl⟩ := ol
      simp only at hcl hdl
      subst hcl hdl
      have hol1 : (s.heap.push (sob w)).get? l = some { cls := .type "list", dict := od, data := .seq items nl, slots := sl } := Heap.get?_push_of_some _ hol
      have k1 := F.sub_list_set
      have k2 := F.sub_list_frozenset
      have k3 : (Value.type "list" == Value.type "dict") = false := by decide
      have hl1 : (s.heap.push (sob w)).IsList l items := ⟨_, hol1, rfl, nl, rfl⟩
      have lt0 : l < s.heap.objs.size := Heap.lt_size hol
      unfold Builtin.«set.__init__» noKeywords Builtin.Frozenset.updateFrom
      generalize hPI : pyIter = PI
      wp_walk
      subst hPI
      refine wpAny_pyIter_list hl1 ?_
      refine wpAny_bind (wpAny_runValue ?_)
      have hh3 : A.in1.in1.in1.handled = none := by simp [hh]
      have far : l ≠ (s.heap.push (sob w)).objs.size := by rw [Heap.size_push]; exact Nat.ne_of_lt (Nat.lt_succ_of_lt lt0)
      have out : s.heap.objs.size ∉ [(s.heap.push (sob w)).objs.size, l] := by
        rw [Heap.size_push]
        simp only [List.mem_cons, List.not_mem_nil, or_false, not_or]
        exact ⟨Nat.ne_of_lt (Nat.lt_succ_self _), Nat.ne_of_gt lt0⟩
      have val : ∀ (i : Nat) (v : Value), items[i]? = some v → ∃ k t, ns[i]? = some k ∧ v = .int k t := fun i v hv => by
        have hi : i < ns.length := by rw [← n1]; exact (Array.getElem?_eq_some_iff.mp hv).1
        obtain ⟨t, e⟩ := PyProof.Rows.IntsAre.int_at it i v (by rw [Array.getElem?_toList]; exact hv)
        refine ⟨ns[i], t, List.getElem?_eq_getElem hi, ?_⟩
        rw [e, List.getD_eq_getElem?_getD, List.getElem?_eq_getElem hi] <;> rfl
      have new0 : ((s.heap.push (sob w)).push { cls := .type "list_iterator", data := .fields #[.ref l, .int 0 0] }).get? s.heap.objs.size = some (sob w) := Heap.get?_push_of_some _ there
      refine set_update_ints ((Walks.list hh3 _ l far items).toS) s.heap.objs.size out ns n1 few val (items.size - 0) 0 _ (by omega) (Nat.zero_le _)
        ⟨⟨_, Heap.get?_push_size _ rfl, rfl, rfl⟩, hl1.push _⟩ ⟨0, Nat.le_refl 0, setR_new_at new0⟩ ?_
      intro z1 c' mv le R
      obtain ⟨h', gg, dd, tk, oo⟩ := z1
      have e1 : gg = s.gens := mv.gens
      have e2 : dd = s.drawn := mv.drawn
      have e3 : oo = s.os := mv.os
      subst e1 e2 e3
      show wpAny _ _ _ _ _ _
      refine wpAny_pure ?_
      show wpAny _ _ (ret Value.none) _ _ _
      rw [n1] at le
      refine wpAny_pure ⟨rfl, h', tk, c', rfl, R, le, fun b o e => ?_⟩
      have b0 : b < s.heap.objs.size := Heap.lt_size e
      have b2 : b ≠ (s.heap.push (sob w)).objs.size := by rw [Heap.size_push]; exact Nat.ne_of_lt (Nat.lt_succ_of_lt b0)
      exact mv.heap b o (by simp only [List.mem_cons, List.mem_singleton, List.not_mem_nil, or_false, not_or]; exact ⟨Nat.ne_of_lt b0, b2⟩) (Heap.get?_push_of_some _ (Heap.get?_push_of_some _ e))
theorem sorted_seti {a : Addr} {S : Int → Bool} {n : Nat} {Q : Value → Shared → Prop} (R : SetR w s.heap a S n) (hh : A.handled = none)
    (hQ : ∀ s' p (out : Array Value) (c : Nat) (ns : List Int), (∀ b o, s.heap.get? b = some o → s'.heap.get? b = some o) → s'.gens = s.gens → s'.os = s.os → s.heap.objs.size ≤ p →
      s'.heap.get? p = some (seqObj "list" out c) → IntsAre out.toList ns → ns.Pairwise (· < ·) → (∀ k, k ∈ ns ↔ S k = true) → ns.length = n → Q (.ref p) s') :
    wpAny (model P w) A (call (.builtin "sorted") [.ref a]) Q E s := by
  obtain ⟨o, es, ep, t, ho, hex, hd, g, nd, hm, hb, hf, hn, hr, hl⟩ := R
  refine Calls.call_function_entry kind_sorted plain_sorted entry_sorted (args_sorted1 _) ?_
  unfold Builtin.«sorted»
  refine wpAny_bind (m := checkCount "sorted" 1 1 _) (wpAny_pure ?_)
  refine wpAny_bind (collect_set (A := A.in1) hh ⟨o, ho, hex.1, hd⟩ hf hb hr hl fun s1 vs k1 hz g1 o1 pm => ?_)
  have hvl : vs.length = n := by rw [pm.length_eq, List.length_map, Array.length_toList]; exact hn
  have hI : IntsAre vs (vs.map Builtin.Re.reRawOf) := ints_of vs fun v hv => by
    obtain ⟨e, he, q⟩ := List.mem_map.mp (pm.mem_iff.mp hv)
    obtain ⟨k, tk, h1, _⟩ := g e he
    exact ⟨k, tk, by rw [← q]; exact h1⟩
  have pk : (vs.map Builtin.Re.reRawOf).Perm (es.toList.map keyOf) := by
    have q := pm.map Builtin.Re.reRawOf
    rw [List.map_map] at q
    exact q
  have hb' : n < 4096 := by have := hb; unfold scanBound at this; omega
  refine wpAny_bind (wpAny_newList ?_ (by rw [hvl, sizeLine_eq]; omega))
  have hoL : (s1.heap.push (seqObj "list" vs.toArray 0)).get? s1.heap.objs.size = some (seqObj "list" vs.toArray 0) := Heap.get?_push_size _ rfl
  refine wpAny_bind (wpAny_holding (wpAny_call_entry slot_list_sort ⟨_, hoL, rfl⟩ entry_list_sort (list_sort_ord (s := { s1 with heap := s1.heap.push (seqObj "list" vs.toArray 0) }) swo_int hoL (by rw [hvl, sizeLine_eq]; omega) (fun h2 => ints_sortable hI h2) fun out h1 h2 => ⟨_, rfl, ?_⟩) (args_list_sort _)))
  obtain ⟨a1, a2, a3⟩ := ints_out hI h1 h2
  obtain ⟨c, hc⟩ := sortedHeap_at (vs := vs) (out := out.toArray) hoL
  have pn : (out.map iv).Perm (es.toList.map keyOf) := a2.trans pk
  refine wpAny_pure ⟨_, rfl, hQ _ s1.heap.objs.size out.toArray c (out.map iv) (fun b u e => ?_) g1 o1 hz hc a1 (lt_of_le_nodup _ a3 (pn.nodup_iff.mpr nd)) (fun k => by rw [pn.mem_iff, ← hm k]) ?_⟩
  · have q := k1 b u e
    have hlt := Heap.lt_size q
    show (sortedHeap (s1.heap.push (seqObj "list" vs.toArray 0)) s1.heap.objs.size vs out.toArray).get? b = some u
    rw [sortedHeap_old (Nat.ne_of_lt hlt) (by rw [size_push']; exact Nat.lt_succ_of_lt hlt)]
    exact Heap.get?_push_of_some _ q
  · rw [pn.length_eq, List.length_map, Array.length_toList]; exact hn
end
section
variable {X : Cx}
/-- set(xs), xs a list of ints -/
def rSetI (K : PySem.W.Frag) (w : World) : List V → Hp → VK → Prop := fun xs H Q => ∃ (l : Addr) (ns : List Int), xs = [V.ref l] ∧ SqL K H l (ns.map V.int) ∧ ns.length + 1 < scanBound ∧
  ∀ a c, H a = none → Q (.ref a) (upd H a (SetO w a (fun j => decide (j ∈ ns)) c))
theorem cr_setI (hc : X.calm = true) : CallR X (.type "set") (rSetI X.K X.w) := by
  intro pins s σ H xs us Q I r h
  obtain ⟨l, ns, rfl, hl, few, q⟩ := h
  rw [Vals.ref1 r]
  obtain ⟨its, rv, pl, hz⟩ := I.list hl
  have n0 : H s.heap.objs.size = none := I.hok.fresh (Nat.le_refl _)
  refine call_set_i (P := X.prog) (w := X.w) ns (I.ok.hd hc) pl.isList (by simpa using rv.ints) few fun h' tk c R _ k => ?_
  exact ⟨.ref s.heap.objs.size, _, I.laid (t' := tk) k (Nat.le_refl _) (setO_new R), rfl, q _ c n0⟩
/-- sorted(set) of ints -/
def rSortI2 (w : World) : List V → Hp → VK → Prop := fun vs H Q => ∃ (a : Addr) (S : Int → Bool) (n : Nat), vs = [V.ref a] ∧ H a = some (SetO w a S n) ∧
  ∀ (ns : List Int) (p : Addr), ns.Pairwise (· < ·) → (∀ k, k ∈ ns ↔ S k = true) → H p = none → Q (.ref p) (upd H p (.lst (ns.map V.int)))
theorem cr_sortI2 (hc : X.calm = true) : CallR X (.builtin "sorted") (rSortI2 X.w) := by
  intro pins s σ H vs us Q I r h
  obtain ⟨a, S, n, rfl, ha, q⟩ := h
  have R := setO_get I ha
  rw [Vals.ref1 r]
  refine sorted_seti R (I.ok.hd hc) fun s' p out c ns k g o hp hg hi hs hm hl => ?_
  have hn : H p = none := I.hok.fresh hp
  have hv : Vals (ns.map V.int) out.toList := vals_of_ints hi
  have nb : n < 4096 := by
    obtain ⟨o, es, ep, t, ho, hex, hd, g, nd, hm, hb, hf, hn, hr, hl⟩ := R
    unfold scanBound at hb
    omega
  have hlen : (ns.map V.int).length ≤ sizeLine := by rw [List.length_map, sizeLine_eq]; omega
  have J : Inv X pins σ (upd H p (.lst (ns.map V.int))) { s with heap := s'.heap, gens := s'.gens, drawn := s'.drawn, toks := s'.toks } :=
    I.call (ch := []) (Un.laid k hp hn) (I.hok.laid k hp ⟨hlen, out.toList, c, hv, hg⟩) (by rw [g]; exact I.bare) (fun _ z => nomatch z)
  have e : s' = { s with heap := s'.heap, gens := s'.gens, drawn := s'.drawn, toks := s'.toks } := by
    cases s'
    cases s
    cases o
    rfl
  rw [e]
  exact ⟨.ref p, _, J, rfl, q ns p hs hm hn⟩
end
end Ev
end

section
set_option autoImplicit false
set_option linter.all false
set_option maxRecDepth 100000
set_option maxHeartbeats 1000000
/-! EvSet: sorted(set(x)). -/
namespace Ev
open PySem PySem.Spec PyProof.Rows L2
theorem nodup_len {α : Type} [DecidableEq α] : ∀ (l D : List α), l.Nodup → (∀ x ∈ l, x ∈ D) → l.length ≤ D.length
  | [], _, _, _ => Nat.zero_le _
  | x :: l, D, hn, hs => by
    obtain ⟨h1, h2⟩ := List.nodup_cons.mp hn
    have hx : x ∈ D := hs x List.mem_cons_self
    have ih := nodup_len l (D.erase x) h2 fun y hy => (List.mem_erase_of_ne (fun e => h1 (by rw [← e]; exact hy))).2 (hs y (List.mem_cons_of_mem _ hy))
    have e := List.length_erase_of_mem hx
    have hp : 0 < D.length := List.length_pos_of_mem hx
    rw [List.length_cons]
    omega
theorem mem_insUT {x y : List Int} : ∀ {l : List (List Int)}, y ∈ insUT x l ↔ y = x ∨ y ∈ l
  | [] => by simp [insUT]
  | z :: l => by
    unfold insUT
    split
    · simp
    · split
      · rename_i h; rw [h]; simp
      · rw [List.mem_cons, mem_insUT, List.mem_cons]
        constructor
        · rintro (h | h | h)
          · exact .inr (.inl h)
          · exact .inl h
          · exact .inr (.inr h)
        · rintro (h | h | h)
          · exact .inr (.inl h)
          · exact .inl h
          · exact .inr (.inr h)
theorem mem_setT {y : List Int} : ∀ {l : List (List Int)}, y ∈ setT l ↔ y ∈ l
  | [] => by simp [setT]
  | x :: l => by rw [setT, mem_insUT, mem_setT, List.mem_cons]
theorem insUT_pw {x : List Int} : ∀ {l : List (List Int)}, l.Pairwise (fun a b => lexLt a b = true) → (insUT x l).Pairwise (fun a b => lexLt a b = true)
  | [], _ => by simp [insUT]
  | z :: l, h => by
    obtain ⟨h1, h2⟩ := List.pairwise_cons.mp h
    unfold insUT
    split
    · rename_i q
      refine List.pairwise_cons.mpr ⟨fun y hy => ?_, h⟩
      rcases List.mem_cons.mp hy with e | hy
      · rw [e]; exact q
      · exact lexLt_trans q (h1 y hy)
    · rename_i q
      split
      · exact h
      · rename_i n
        refine List.pairwise_cons.mpr ⟨fun y hy => ?_, insUT_pw h2⟩
        rcases mem_insUT.mp hy with e | hy
        · rw [e]
          exact lexLt_tot (by cases z' : lexLt x z with
            | true => exact absurd z' q
            | false => rfl) n
        · exact h1 y hy
theorem setT_pw : ∀ l : List (List Int), (setT l).Pairwise (fun a b => lexLt a b = true)
  | [] => List.Pairwise.nil
  | x :: l => insUT_pw (setT_pw l)
/-- two strictly rising lists with the same members are one -/
theorem rising_one {α : Type} {lt : α → α → Prop} (irr : ∀ x, ¬ lt x x) (tr : ∀ x y z, lt x y → lt y z → lt x z) : ∀ {l m : List α}, l.Pairwise lt → m.Pairwise lt → (∀ x, x ∈ l ↔ x ∈ m) → l = m
  | [], [], _, _, _ => rfl
  | [], y :: m, _, _, h => absurd ((h y).mpr List.mem_cons_self) (by simp)
  | x :: l, [], _, _, h => absurd ((h x).mp List.mem_cons_self) (by simp)
  | x :: l, y :: m, h1, h2, h => by
    obtain ⟨a1, a2⟩ := List.pairwise_cons.mp h1
    obtain ⟨b1, b2⟩ := List.pairwise_cons.mp h2
    have e : x = y := by
      rcases List.mem_cons.mp ((h x).mp List.mem_cons_self) with e | hx
      · exact e
      · rcases List.mem_cons.mp ((h y).mpr List.mem_cons_self) with e | hy
        · exact e.symm
        · exact absurd (tr _ _ _ (a1 y hy) (b1 x hx)) (irr x)
    subst e
    rw [rising_one irr tr a2 b2 fun z => ?_]
    constructor
    · intro hz
      rcases List.mem_cons.mp ((h z).mp (List.mem_cons_of_mem _ hz)) with e | hz'
      · exact absurd (a1 z hz) (by rw [e]; exact irr x)
      · exact hz'
    · intro hz
      rcases List.mem_cons.mp ((h z).mpr (List.mem_cons_of_mem _ hz)) with e | hz'
      · exact absurd (b1 z hz) (by rw [e]; exact irr x)
      · exact hz'
theorem mem_insU {x y : Int} : ∀ {l : List Int}, y ∈ insU x l ↔ y = x ∨ y ∈ l
  | [] => by simp [insU]
  | z :: l => by
    unfold insU
    split
    · simp
    · split
      · rename_i e; rw [e]; simp
      · rw [List.mem_cons, mem_insU, List.mem_cons]
        constructor
        · rintro (h | h | h)
          · exact .inr (.inl h)
          · exact .inl h
          · exact .inr (.inr h)
        · rintro (h | h | h)
          · exact .inr (.inl h)
          · exact .inl h
          · exact .inr (.inr h)
theorem mem_setI {y : Int} : ∀ {l : List Int}, y ∈ setI l ↔ y ∈ l
  | [] => by simp [setI]
  | x :: l => by rw [setI, mem_insU, mem_setI, List.mem_cons]
theorem insU_pw {x : Int} : ∀ {l : List Int}, l.Pairwise (· < ·) → (insU x l).Pairwise (· < ·)
  | [], _ => by simp [insU]
  | z :: l, h => by
    obtain ⟨h1, h2⟩ := List.pairwise_cons.mp h
    unfold insU
    split
    · rename_i q
      refine List.pairwise_cons.mpr ⟨fun y hy => ?_, h⟩
      rcases List.mem_cons.mp hy with e | hy
      · omega
      · have := h1 y hy; omega
    · split
      · exact h
      · refine List.pairwise_cons.mpr ⟨fun y hy => ?_, insU_pw h2⟩
        rcases mem_insU.mp hy with e | hy
        · omega
        · exact h1 y hy
theorem setI_pw : ∀ l : List Int, (setI l).Pairwise (· < ·)
  | [] => List.Pairwise.nil
  | x :: l => insU_pw (setI_pw l)
section
variable {F : Addr → Prop} {μ : List Addr} {H : Hp} {fx : Fx}
theorem reps_tups : ∀ {nss : List (List Int)} {ts : List T} {vs : List V}, tupsOf ts = some nss → Reps fx F μ H ts vs → ∃ ks : List (Addr × List Int), vs = ks.map (fun p => V.ref p.1) ∧ ks.map (·.2) = nss ∧ ∀ p ∈ ks, H p.1 = some (.tup (p.2.map V.int))
  | nss, [], vs, h, r => by
    rw [reps_nil] at r
    cases h
    exact ⟨[], r, rfl, fun p hp => absurd hp (by simp)⟩
  | nss, t :: ts, vs, h, r => by
    rw [reps_cons] at r
    obtain ⟨v, vr, e, r1, r2⟩ := r
    cases t <;> try cases h
    rename_i us
    have h : (intsOf us).bind (fun n => (tupsOf ts).map fun ns => n :: ns) = some nss := h
    cases q : intsOf us with
    | none => rw [q] at h; cases h
    | some ns =>
      rw [q] at h
      cases q2 : tupsOf ts with
      | none => rw [q2] at h; cases h
      | some ms =>
        rw [q2] at h
        cases h
        rw [rep_tup] at r1
        obtain ⟨a, ws, ev, ha, rw'⟩ := r1
        obtain ⟨ks, e1, e2, e3⟩ := reps_tups q2 r2
        rw [reps_ints q rw'] at ha
        refine ⟨(a, ns) :: ks, by rw [e, ev, e1]; rfl, by rw [List.map_cons, e2], fun p hp => ?_⟩
        rcases List.mem_cons.mp hp with z | z
        · rw [z]; exact ha
        · exact e3 p z
theorem tups_reps : ∀ (L : List (Addr × List Int)), (∀ p ∈ L, H p.1 = some (.tup (p.2.map V.int))) → Reps fx F μ H ((L.map (·.2)).map fun n => T.tup (n.map T.int)) (L.map fun p => V.ref p.1)
  | [], _ => by rw [List.map_nil, List.map_nil, List.map_nil, reps_nil]
  | p :: L, h => by
    rw [List.map_cons, List.map_cons, List.map_cons, reps_cons]
    exact ⟨_, _, rfl, by rw [rep_tup]; exact ⟨p.1, _, rfl, h p List.mem_cons_self, ints_reps _⟩, tups_reps L fun q hq => h q (List.mem_cons_of_mem _ hq)⟩
end
section
variable {ax : Ax} {X : Cx}
/-- a new list at p, behind another new object at a -/
theorem finLst2 {F : Addr → Prop} {μ : List Addr} {H : Hp} {st : St} {Q : VK} {a p : Addr} {o : HO} {ts : List T} {vs : List V} (w : Wd ax.fx F μ H st) (h : Want ax F μ H st true (.lst ts) Q) (n1 : H a = none) (r : Reps ax.fx F μ (upd H a o) ts vs) (n2 : upd H a o p = none) : Q (.ref p) (upd (upd H a o) p (.lst vs)) := by
  have s1 : Step F μ H F μ (upd H a o) := Step.lay n1
  have w1 := w.lay (o := o) n1
  have s2 : Step F μ (upd H a o) F μ (upd (upd H a o) p (.lst vs)) := Step.lay n2
  have n0 : H p = none := by
    by_cases e : p = a
    · rw [e, upd_same] at n2; cases n2
    · rw [upd_ne e] at n2; exact n2
  exact h _ _ F μ (s1.trans s2) (w1.lay n2) (Res.own ⟨p, vs, rfl, fun f => w1.ft p f n2, w1.fresh n2, upd_same, Reps.kp (s2.kp w1) _ _ r⟩ ⟨p, rfl, n0⟩)
theorem r_setT {x : V} {H : Hp} {Q : VK} (b : Bx ax X) (h : rO1 ax (fun st => op1 st .setT) x H Q) : rSetQ X.K X.prog X.w [x] H fun y H2 => rSortQ X.K X.prog X.w [y] H2 Q := by
  obtain ⟨F, μ, st, t, w, hx, hp⟩ := h
  cases t <;> first
    | exact hp.elim
    | skip
  rename_i ts
  dsimp only [op1] at hp
  cases e : tupsOf ts with
  | none => rw [e] at hp; exact hp.elim
  | some ns =>
    rw [e] at hp
    dsimp only at hp
    split at hp
    · rename_i hc
      obtain ⟨l, vs, ex, ml, hl, rs⟩ := hx
      obtain ⟨ks, e1, e2, e3⟩ := reps_tups e rs
      subst ex
      rw [e1] at hl
      have few : Few ks := fun l' nd hm => by
        refine Nat.lt_of_le_of_lt ?_ hc.1
        refine nodup_len l' (setT ns) nd fun y hy => mem_setT.mpr ?_
        rw [← e2]; exact hm y hy
      refine ⟨l, ks, rfl, .inl hl, fun p hp => .inl (.inl (e3 p hp)), few, fun a L na nd hs hall => ?_⟩
      have hne : ∀ p ∈ L, p.2 ≠ [] := fun p hp z => hc.2 (by
        rw [← e2]
        exact List.mem_map.mpr ⟨p, hs p hp, z⟩)
      have hL : ∀ p ∈ L, upd H a (SetQO X.prog X.w a L) p.1 = some (.tup (p.2.map V.int)) := fun p hp => by
        have q := e3 p (hs p hp)
        rw [upd_ne (ne_of_none q na)]; exact q
      have hsz : L.length < 2000 := by
        have := few (L.map (·.2)) nd fun k hk => by
          obtain ⟨p, hp, e⟩ := List.mem_map.mp hk
          exact List.mem_map.mpr ⟨p, hs p hp, e⟩
        rw [List.length_map] at this
        omega
      refine ⟨a, L, rfl, upd_same, fun p hp => .inl (.inl (hL p hp)), hsz, hne, fun L' p pm pw n2 => ?_⟩
      have nd' : (L'.map (·.2)).Nodup := (pm.map (·.2)).nodup_iff.mpr nd
      have eset : L'.map (·.2) = setT ns := by
        refine rising_one (lt := fun a b => lexLt a b = true) (fun x z => by rw [lexLt_irr] at z; cases z) (fun x y z => lexLt_trans) ?_ (setT_pw ns) fun k => ?_
        · have p1 : (L'.map (·.2)).Pairwise (fun a b => lexLt b a = false) := List.pairwise_map.mpr pw
          exact (p1.and nd').imp fun {a b} h => lexLt_tot h.1 fun z => h.2 z.symm
        · rw [mem_setT, (pm.map (·.2)).mem_iff, ← e2]
          constructor
          · intro hk
            obtain ⟨p, hp, e⟩ := List.mem_map.mp hk
            exact List.mem_map.mpr ⟨p, hs p hp, e⟩
          · intro hk
            obtain ⟨p, hp, e⟩ := List.mem_map.mp hk
            rw [← e]; exact hall p hp
      refine finLst2 w hp na ?_ n2
      rw [← eset]
      exact tups_reps L' fun p hp => hL p (pm.mem_iff.mp hp)
    · exact hp.elim
theorem r_setI {x : V} {H : Hp} {Q : VK} (b : Bx ax X) (h : rO1 ax (fun st => op1 st .setI) x H Q) : rSetI X.K X.w [x] H fun y H2 => rSortI2 X.w [y] H2 Q := by
  obtain ⟨F, μ, st, t, w, hx, hp⟩ := h
  cases t <;> first
    | exact hp.elim
    | skip
  rename_i ts
  dsimp only [op1] at hp
  cases e : intsOf ts with
  | none => rw [e] at hp; exact hp.elim
  | some ns =>
    rw [e] at hp
    dsimp only at hp
    split at hp
    · rename_i hc
      obtain ⟨l, ex, hl⟩ := ints_list e hx
      subst ex
      refine ⟨l, ns, rfl, .inl hl, by unfold scanBound; omega, fun a c na => ⟨a, _, c, rfl, upd_same, fun ms p pw hm n2 => ?_⟩⟩
      have eset : ms = setI ns := rising_one (lt := (· < ·)) (fun x => Int.lt_irrefl x) (fun x y z => Int.lt_trans) pw (setI_pw ns) fun k => by rw [hm k, mem_setI, decide_eq_true_eq]
      refine finLst2 w hp na ?_ n2
      rw [eset]
      exact ints_reps _
    · exact hp.elim
end
section
variable {ax : Ax} {X : Cx} {cc : Cc} {Wx : WX}
theorem snd_set2 (g : Gx ax X cc Wx) {o : U1} {r1 r2 : List V → Hp → VK → Prop} {f h : Str} {a : E} {pa : Expr} {p1 p2 p3 pos : Pos} (hf : f = "sorted") (hg : cc.gl f = true) (hf2 : h = "set") (hg2 : cc.gl h = true) (fa : okForm pa = true) (ha : PE X pa (tM ax Wx true a))
    (c1 : CallR X (.type "set") r1) (c2 : CallR X (.builtin "sorted") r2) (hr : ∀ x H Q, rO1 ax (fun st => op1 st o) x H Q → r1 [x] H fun y H2 => r2 [y] H2 Q) :
    PE X (.Call (.Name f p1) [.Call (.Name h p2) [pa] [] p3] [] pos) (tM ax Wx false (.u o a)) := by
  subst hf hf2
  obtain ⟨g1, g2, g3⟩ := g.gl hg
  obtain ⟨k1, k2, k3⟩ := g.gl hg2
  have hm1 : ("sorted" : Str) ∈ blt := by decide +kernel
  have hm2 : ("set" : Str) ∈ blt := by decide +kernel
  have inner : PE X (.Call (.Name "set" p2) [pa] [] p3) (tUn (fun x H Q => r1 [x] H Q) (tM ax Wx true a)) :=
    (pe_callTy c1 k1 (g.free _ hm2) (by decide +kernel) (pa_cons ha pa_nil (form_star fa [] _)) k3 k2 (form_star fa [] _)).weak fun σ H Q h => h
  have outer : PE X (.Call (.Name "sorted" p1) [.Call (.Name "set" p2) [pa] [] p3] [] pos) (tUn (fun x H Q => r1 [x] H fun y H2 => r2 [y] H2 Q) (tM ax Wx true a)) :=
    (pe_callB c2 g1 (g.free _ hm1) (by decide +kernel) (pa_cons inner pa_nil (form_star rfl [] _)) g3 g2 (form_star rfl [] _)).weak fun σ H Q h => h
  exact snd_op1 (pa := pa) hr outer
theorem sndSetI (g : Gx ax X cc Wx) {f h : Str} {a : E} {pa : Expr} {p1 p2 p3 pos : Pos} (hf : f = "sorted") (hg : cc.gl f = true) (hf2 : h = "set") (hg2 : cc.gl h = true) (fa : okForm pa = true) (ha : PE X pa (tM ax Wx true a)) :
    PE X (.Call (.Name f p1) [.Call (.Name h p2) [pa] [] p3] [] pos) (tM ax Wx false (.u .setI a)) :=
  snd_set2 g hf hg hf2 hg2 fa ha (cr_setI g.bx.calm) (cr_sortI2 g.bx.calm) fun x H Q h => r_setI g.bx h
theorem sndSetT (g : Gx ax X cc Wx) {f h : Str} {a : E} {pa : Expr} {p1 p2 p3 pos : Pos} (hf : f = "sorted") (hg : cc.gl f = true) (hf2 : h = "set") (hg2 : cc.gl h = true) (fa : okForm pa = true) (ha : PE X pa (tM ax Wx true a)) :
    PE X (.Call (.Name f p1) [.Call (.Name h p2) [pa] [] p3] [] pos) (tM ax Wx false (.u .setT a)) :=
  snd_set2 g hf hg hf2 hg2 fa ha (cr_setQ g.bx.calm g.bx.un) (cr_sortQ g.bx.calm) fun x H Q h => r_setT g.bx h
end
end Ev
end

section
set_option autoImplicit false
set_option linter.all false
set_option maxRecDepth 100000
set_option maxHeartbeats 1000000
/-! EvR: every expression. -/
namespace Ev
open PySem PySem.Spec PyProof.Rows L2
structure Snd (ax : Ax) (X : Cx) (Wx : WX) (e : E) (py : Expr) : Prop where
  pe : PE X py (tM ax Wx false e)
  pt : PT X py (tT ax Wx e)
  pw : ∀ op vs pos, py = .BoolOp op vs pos → PW X py (tT ax Wx e)
theorem Snd.plain {ax : Ax} {X : Cx} {Wx : WX} {e : E} {py : Expr} (p : PE X py (tM ax Wx false e)) (he : ∀ whole, isTrue py X.env whole = (do let v ← whole; standAt py.pos; holding [v] (truthy v)) := by intro _; rfl) (hn : ∀ op vs pos, py ≠ .BoolOp op vs pos := by intro _ _ _ z; cases z) : Snd ax X Wx e py :=
  ⟨p, pt_def p he, fun op vs pos z => absurd z (hn op vs pos)⟩
theorem Snd.b {ax : Ax} {X : Cx} {cc : Cc} {Wx : WX} {e : E} {py : Expr} (s : Snd ax X Wx e py) (g : Gx ax X cc Wx) (h : chkE cc e py = true) : PE X py (tM ax Wx true e) := snd_b g h s.pe
theorem tM_never {ax : Ax} {X : Cx} {Wx : WX} {e : E} {py : Expr} (h : ∀ Γ st, evE ax.C e Γ st = .bad) : Snd ax X Wx e py := by
  refine ⟨⟨fun pins s σ H Q I ⟨H0, F, μ, Γ, st, sl, w, q⟩ => ?_⟩, ⟨fun pins s σ H Q I ⟨H0, F, μ, Γ, st, sl, w, q⟩ => ?_⟩, fun _ _ _ _ => ⟨fun wh pins s σ H Q I ⟨H0, F, μ, Γ, st, sl, w, q⟩ => ?_⟩⟩
  · unfold PostR evM at q
    rw [if_neg Bool.false_ne_true, h] at q
    exact q.elim
  · unfold boolR at q
    rw [h] at q
    exact q.elim
  · unfold boolR at q
    rw [h] at q
    exact q.elim
theorem is_false {b : Bool} (h : false = b) (hb : b = true) {P : Prop} : P := by rw [hb] at h; cases h
theorem all_mem {l : List Nat} {own : List Nat} (h : (l.all fun i => own.contains i) = true) : ∀ i ∈ l, i ∈ own := fun i hi => by
  have := List.all_eq_true.mp h i hi
  simpa using this
theorem chkI_fold {cc : Cc} {it : I} {py tg : Expr} (h : chkI cc it py tg = true) : ∀ env x, foldedSetIterable py env x = pure x := by
  cases it <;> unfold chkI at h
  · exact form_fold (chk_form h)
  all_goals
    split at h
    · exact fun _ _ => rfl
    · exact absurd h Bool.false_ne_true
variable {ax : Ax}
mutual
theorem sndE : ∀ (e : E) {X : Cx} {cc : Cc} {Wx : WX} {py : Expr}, Gx ax X cc Wx → chkE cc e py = true → Snd ax X Wx e py
  | .c t, X, cc, Wx, py, g, h => by
    unfold chkE at h
    have p := snd_c g h
    cases py <;> first
      | exact .plain p
      | (exfalso; revert h; simp [chkC]; done)
  | .v i, X, cc, Wx, py, g, h => by
    unfold chkE at h
    split at h
    · exact .plain (snd_v g h false)
    · cases h
  | .tup es, X, cc, Wx, py, g, h => by
    unfold chkE at h
    split at h
    · exact .plain (snd_tup (sndEs es g h))
    · cases h
  | .xt es, X, cc, Wx, py, g, h => by
    unfold chkE at h
    split at h
    · exact .plain (snd_xt (sndEs es g h))
    · cases h
  | .lst es, X, cc, Wx, py, g, h => by
    unfold chkE at h
    split at h
    · exact .plain (snd_lst (sndEs es g h))
    · cases h
  | .cell es, X, cc, Wx, py, g, h => by
    unfold chkE at h
    split at h
    · exact .plain (snd_cell (sndEs es g h))
    · cases h
  | .u o a, X, cc, Wx, py, g, h => by
    unfold chkE at h
    split at h
    · rename_i op p pos
      obtain ⟨h1, h2⟩ := Bool.and_eq_true_iff.mp h
      have s := sndE a g h2
      split at h1
      · exact ⟨snd_not (s.b g h2), pt_notE s.pt, fun _ _ _ z => nomatch z⟩
      · exact .plain (snd_neg (s.b g h2))
      · cases h1
    · rename_i f p1 q pos
      split at h
      · split at h
        · rename_i g2 p2 p p3
          simp only [Bool.and_eq_true, decide_eq_true_eq] at h
          obtain ⟨⟨⟨⟨h1, h2⟩, h3⟩, h4⟩, h5⟩ := h
          exact .plain (sndSetI g h1 h2 h3 h4 (chk_form h5) ((sndE a g h5).b g h5))
        · cases h
      · split at h
        · rename_i g2 p2 p p3
          simp only [Bool.and_eq_true, decide_eq_true_eq] at h
          obtain ⟨⟨⟨⟨h1, h2⟩, h3⟩, h4⟩, h5⟩ := h
          exact .plain (sndSetT g h1 h2 h3 h4 (chk_form h5) ((sndE a g h5).b g h5))
        · cases h
      · simp only [Bool.and_eq_true, decide_eq_true_eq] at h
        obtain ⟨⟨h1, h2⟩, h3⟩ := h
        exact .plain (snd_call1 g h1 h2 (chk_form h3) ((sndE a g h3).b g h3))
    · rename_i f p1 p gg p2 pos
      simp only [Bool.and_eq_true, decide_eq_true_eq] at h
      obtain ⟨⟨⟨⟨h1, h2⟩, h3⟩, h4⟩, h5⟩ := h
      exact .plain (snd_is g h1 h2 h3 h4 (chk_form h5) ((sndE a g h5).b g h5))
    · cases h
  | .b o a b, X, cc, Wx, py, g, h => by
    unfold chkE at h
    split at h
    · rename_i p op q pos
      simp only [Bool.and_eq_true, decide_eq_true_eq] at h
      obtain ⟨⟨h1, h2⟩, h3⟩ := h
      exact .plain (snd_op2 ((sndE a g h2).b g h2) ((sndE b g h3).b g h3) (fun _ _ _ _ z => z) (pe_op (o2_bin g.bx h1) ((sndE a g h2).b g h2) ((sndE b g h3).b g h3)))
    · rename_i p op q pos
      simp only [Bool.and_eq_true, decide_eq_true_eq] at h
      obtain ⟨⟨h1, h2⟩, h3⟩ := h
      have sa := (sndE a g h2).b g h2
      have sb := (sndE b g h3).b g h3
      exact ⟨snd_op2 sa sb (fun _ _ _ _ z => z) (pe_cmpR (o2_cmp g.bx h1) sa sb (form_beh (chk_form h3) op)), pt_o2 g h1 (chk_form h3) sa sb, fun _ _ _ z => nomatch z⟩
    · rename_i p q pos
      simp only [Bool.and_eq_true] at h
      obtain ⟨⟨h1, h2⟩, h3⟩ := h
      have sa := (sndE a g h2).b g h2
      have sb := (sndE b g h3).b g h3
      split at h1
      · exact .plain (snd_op2 sa sb (fun _ _ _ _ z => z) (pe_ix (o_item g.bx) sa sb (form_ix (chk_form h3))))
      · cases h1
    · rename_i f p1 p q pos
      simp only [Bool.and_eq_true, decide_eq_true_eq] at h
      obtain ⟨⟨⟨h1, h2⟩, h3⟩, h4⟩ := h
      exact .plain (snd_call2 g h1 h2 (chk_form h3) (chk_form h4) ((sndE a g h3).b g h3) ((sndE b g h4).b g h4))
    · cases h
  | .and a b, X, cc, Wx, py, g, h => by
    unfold chkE at h
    split at h
    · rename_i p q rest pos
      obtain ⟨h1, h2⟩ := Bool.and_eq_true_iff.mp h
      have s1 := sndE a g h1
      have s2 := sndE b g h2
      cases rest with
      | nil =>
        have s2 : Snd ax X Wx b q := s2
        have w := pw_andE (pos := pos) s1.pt (pw_and1 s2.pt)
        exact ⟨snd_and s1.pe (pe_one s2.pe), w.pt, fun _ _ _ _ => w⟩
      | cons r rest =>
        have s2 : Snd ax X Wx b (.BoolOp .And (q :: r :: rest) pos) := s2
        have w := pw_andE s1.pt (s2.pw _ _ _ rfl)
        exact ⟨snd_and s1.pe s2.pe, w.pt, fun _ _ _ _ => w⟩
    · cases h
  | .or a b, X, cc, Wx, py, g, h => by
    unfold chkE at h
    split at h
    · rename_i p q rest pos
      obtain ⟨h1, h2⟩ := Bool.and_eq_true_iff.mp h
      have s1 := sndE a g h1
      have s2 := sndE b g h2
      cases rest with
      | nil =>
        have s2 : Snd ax X Wx b q := s2
        have w := pw_orE (pos := pos) s1.pt (pw_or1 s2.pt)
        exact ⟨snd_or s1.pe (pe_one s2.pe), w.pt, fun _ _ _ _ => w⟩
      | cons r rest =>
        have s2 : Snd ax X Wx b (.BoolOp .Or (q :: r :: rest) pos) := s2
        have w := pw_orE s1.pt (s2.pw _ _ _ rfl)
        exact ⟨snd_or s1.pe s2.pe, w.pt, fun _ _ _ _ => w⟩
    · cases h
  | .ite c a b, X, cc, Wx, py, g, h => by
    unfold chkE at h
    split at h
    · simp only [Bool.and_eq_true] at h
      obtain ⟨⟨h1, h2⟩, h3⟩ := h
      have s1 := sndE c g h1
      have s2 := sndE a g h2
      have s3 := sndE b g h3
      exact ⟨snd_ite s1.pt s2.pe s3.pe, pt_iteE s1.pt s2.pt s3.pt, fun _ _ _ z => nomatch z⟩
    · cases h
  | .chain o o' a b c, X, cc, Wx, py, g, h => by
    unfold chkE at h
    split at h
    · simp only [Bool.and_eq_true, decide_eq_true_eq] at h
      obtain ⟨⟨⟨⟨h1, h2⟩, h3⟩, h4⟩, h5⟩ := h
      exact ⟨snd_chain g h1 h2 (chk_form h4) (chk_form h5) (sndE a g h3).pe (sndE b g h4).pe (sndE c g h5).pe, pt_chainE g h1 h2 (chk_form h5) (sndE a g h3).pe (sndE b g h4).pe (sndE c g h5).pe, fun _ _ _ z => nomatch z⟩
    · cases h
  | .slTo a hi, X, cc, Wx, py, g, h => by
    unfold chkE at h
    split at h
    · obtain ⟨h1, h2⟩ := Bool.and_eq_true_iff.mp h
      exact .plain (snd_slTo g ((sndE a g h1).b g h1) (sndE hi g h2).pe)
    · cases h
  | .slFrom a lo, X, cc, Wx, py, g, h => by
    unfold chkE at h
    split at h
    · obtain ⟨h1, h2⟩ := Bool.and_eq_true_iff.mp h
      exact .plain (snd_slFrom g ((sndE a g h1).b g h1) (sndE lo g h2).pe)
    · cases h
  | .max3 a b c, X, cc, Wx, py, g, h => by
    unfold chkE at h
    split at h
    · simp only [Bool.and_eq_true, decide_eq_true_eq] at h
      obtain ⟨⟨⟨⟨h1, h2⟩, h3⟩, h4⟩, h5⟩ := h
      exact .plain (snd_max3 g h1 h2 (chk_form h3) (chk_form h4) (chk_form h5) (sndE a g h3).pe (sndE b g h4).pe (sndE c g h5).pe)
    · cases h
  | .call f es, X, cc, Wx, py, g, h => by
    unfold chkE at h
    split at h
    · rename_i x p1 p ps pos
      simp only [Bool.and_eq_true, decide_eq_true_eq] at h
      obtain ⟨⟨h1, h2⟩, h3⟩ := h
      have fm : okForm p = true ∧ ∀ pos : Pos, (backTo pos (starEach ps X.env)).any (·.1) = false := by
        cases es with
        | nil => unfold chkEs at h3; cases h3
        | cons e es =>
          unfold chkEs at h3
          obtain ⟨k1, k2⟩ := Bool.and_eq_true_iff.mp h3
          exact ⟨chk_form k1, chks_star k2⟩
      exact .plain (snd_call g h1 h2 fm.1 fm.2 (sndEs es g h3))
    · cases h
  | .comp own gt it c e, X, cc, Wx, py, g, h => by
    unfold chkE at h
    split at h
    · rename_i elt tg iter ifs scope pos
      simp only [Bool.and_eq_true] at h
      obtain ⟨⟨⟨⟨⟨h1, h2⟩, h3⟩, h4⟩, h5⟩, h6⟩ := h
      refine .plain (snd_comp g h1 (sndI it true g h2) h3 (all_mem h4) (fun s H C cl fp => ?_) (fun s H C cl fp => (sndE e (gx_blk g scope s H C cl fp) h6).pe) fun x => chkI_fold h2 _ x)
      split at h5
      · split at h5
        · exact pts_true0
        · cases h5
      · exact pts_one (sndE c (gx_blk g scope s H C cl fp) h5).pt
      · cases h5
    · cases h
  | .comp2 own gt it own2 gt2 it2 e, X, cc, Wx, py, g, h => by
    unfold chkE at h
    split at h
    · rename_i elt tg iter tg2 iter2 scope pos
      simp only [Bool.and_eq_true] at h
      obtain ⟨⟨⟨⟨⟨⟨⟨⟨⟨h1, h2⟩, h3⟩, h4⟩, h5⟩, h6⟩, h7⟩, h8⟩, h9⟩, h10⟩ := h
      exact .plain (snd_comp2 g h1 (sndI it true g h2) h3 (all_mem h4) (all_mem h5) (fun s H C cl fp => sndI it2 false (gx_blk g scope s H C cl fp) h7) h8 (all_mem h9) h6 (fun s H C cl fp => (sndE e (gx_blk g scope s H C cl fp) h10).pe) (fun x => chkI_fold h2 _ x)
        fun env x => chkI_fold h7 env x)
    · cases h
  | .get d k z, X, cc, Wx, py, g, h => by
    unfold chkE at h
    split at h
    · rename_i o at_ apos p q cpos
      simp only [Bool.and_eq_true, decide_eq_true_eq] at h
      obtain ⟨⟨⟨⟨⟨h1, h2⟩, h3⟩, h4⟩, h5⟩, h6⟩ := h
      subst h1
      exact .plain (snd_get g h3 h2 (chk_form h5) (chk_form h6) ((sndE d g h4).b g h4) (sndE k g h5).pe (sndE z g h6).pe)
    · cases h
  | .dK0, X, cc, Wx, py, g, h => by
    unfold chkE at h
    split at h
    · exact .plain snd_dK0
    · cases h
  | .dT0, X, cc, Wx, py, g, h => by
    unfold chkE at h
    split at h
    · exact .plain snd_dT0
    · cases h
  | .dK1 k e, X, cc, Wx, py, g, h => by
    unfold chkE at h
    split at h
    · obtain ⟨h1, h2⟩ := Bool.and_eq_true_iff.mp h
      exact .plain (snd_dK1 (sndE k g h1).pe (sndE e g h2).pe)
    · cases h
  | .dT1 k e, X, cc, Wx, py, g, h => by
    unfold chkE at h
    cases h
  | .never, X, cc, Wx, py, g, h => tM_never fun _ _ => rfl
  | .rng a, X, cc, Wx, py, g, h => by
    unfold chkE at h
    split at h
    · simp only [Bool.and_eq_true, decide_eq_true_eq] at h
      obtain ⟨⟨⟨⟨h1, h2⟩, h3⟩, h4⟩, h5⟩ := h
      exact .plain (snd_rng g h1 h2 h3 h4 (chk_form h5) (sndE a g h5).pe)
    · cases h
theorem sndEs : ∀ (es : List E) {X : Cx} {cc : Cc} {Wx : WX} {ps : List Expr}, Gx ax X cc Wx → chkEs cc es ps = true → PA X ps (tAs ax Wx es)
  | [], X, cc, Wx, ps, g, h => by
    unfold chkEs at h
    cases ps with
    | nil => exact snd_nil
    | cons p ps => cases h
  | e :: es, X, cc, Wx, ps, g, h => by
    unfold chkEs at h
    cases ps with
    | nil => cases h
    | cons p ps =>
      obtain ⟨h1, h2⟩ := Bool.and_eq_true_iff.mp h
      exact snd_cons (sndE e g h1).pe (sndEs es g h2) (chk_form h1)
theorem sndI : ∀ (it : I) (m : Bool) {X : Cx} {cc : Cc} {Wx : WX} {py tg : Expr}, Gx ax X cc Wx → chkI cc it py tg = true → PI X tg py (tI ax Wx m it)
  | .seq e, m, X, cc, Wx, py, tg, g, h => by
    unfold chkI at h
    have s := sndE e g h
    cases m with
    | true => exact pi_seqL (s.b g h) g.bx.hK
    | false => exact pi_seqL s.pe g.bx.hK
  | .rng1 a, m, X, cc, Wx, py, tg, g, h => by
    unfold chkI at h
    split at h
    · simp only [Bool.and_eq_true, decide_eq_true_eq] at h
      obtain ⟨⟨h1, h2⟩, h3⟩ := h
      exact pi_rng1L g h1 h2 (chk_form h3) (sndE a g h3).pe
    · cases h
  | .rng2 a b, m, X, cc, Wx, py, tg, g, h => by
    unfold chkI at h
    split at h
    · simp only [Bool.and_eq_true, decide_eq_true_eq] at h
      obtain ⟨⟨⟨h1, h2⟩, h3⟩, h4⟩ := h
      exact pi_rng2L g h1 h2 (chk_form h3) (chk_form h4) (sndE a g h3).pe (sndE b g h4).pe
    · cases h
  | .rev e, m, X, cc, Wx, py, tg, g, h => by
    unfold chkI at h
    split at h
    · simp only [Bool.and_eq_true, decide_eq_true_eq] at h
      obtain ⟨⟨h1, h2⟩, h3⟩ := h
      exact pi_revL g h1 h2 (chk_form h3) ((sndE e g h3).b g h3)
    · cases h
  | .enum e, m, X, cc, Wx, py, tg, g, h => by
    unfold chkI at h
    split at h
    · simp only [Bool.and_eq_true, decide_eq_true_eq] at h
      obtain ⟨⟨⟨h1, h2⟩, h3⟩, h4⟩ := h
      cases tg <;> first
        | exact pi_enumL g h1 h2 (chk_form h3) ((sndE e g h3).b g h3)
        | cases h4
    · cases h
  | .keys i, m, X, cc, Wx, py, tg, g, h => by
    unfold chkI at h
    split at h
    · exact pi_keysL g h
    · cases h
end
end Ev
end

section
set_option autoImplicit false
set_option linter.all false
set_option maxRecDepth 100000
set_option maxHeartbeats 1000000
/-! EvS: statements: what is kept; sequence, assignment, return, if, while. -/
namespace Ev
open PySem PySem.Spec PyProof.Rows L2

/-- what is known since the def's entry -/
structure Bs (H0 : Hp) (B : (Addr → Prop) → List Addr → Hp → Prop) : Prop where
  step : ∀ {fx : Fx} {st : St} {F : Addr → Prop} {μ : List Addr} {H : Hp} {F' : Addr → Prop} {μ' : List Addr} {H' : Hp}, B F μ H → Wd fx F μ H st → Step F μ H F' μ' H' → B F' μ' H'
  own : ∀ {F : Addr → Prop} {μ : List Addr} {H : Hp} {a : Addr} {o : HO}, B F μ H → H a ≠ none → H0 a = none → ¬ F a → B F μ (upd H a o)
  cell : ∀ {F : Addr → Prop} {μ : List Addr} {H : Hp} {a : Addr} {o : HO}, B F μ H → H a ≠ none → a ∈ μ → ¬ F a → B F μ (upd H a o)
  kn : ∀ {F : Addr → Prop} {μ : List Addr} {H : Hp} {a : Addr}, B F μ H → H0 a = none → B (addF F a) μ H
  live : ∀ {F : Addr → Prop} {μ : List Addr} {H : Hp} {a : Addr}, B F μ H → H a = none → H0 a = none
theorem upd_comm {H : Hp} {a b : Addr} {o u : HO} (n : a ≠ b) : upd (upd H a o) b u = upd (upd H b u) a o := by
  funext c
  by_cases h1 : c = a
  · subst h1
    rw [upd_ne n, upd_same, upd_same]
  · by_cases h2 : c = b
    · subst h2
      rw [upd_same, upd_ne h1, upd_same]
    · rw [upd_ne h2, upd_ne h1, upd_ne h1, upd_ne h2]
theorem bs_step (F0 : Addr → Prop) (μ0 : List Addr) (H0 : Hp) : Bs H0 (fun F μ H => Step F0 μ0 H0 F μ H) where
  step := fun b _ s => b.trans s
  own := fun b _ n _ => b.app n
  cell := fun {F μ H a o} b ha m _ => by
    obtain ⟨ν, e, hn⟩ := b.cells
    refine ⟨fun c u h hm => ?_, b.sub, b.new, b.cells, fun c h => ?_⟩
    · have ne : c ≠ a := fun z => by
        subst z
        rw [e] at m
        rcases List.mem_append.mp m with m | m
        · exact hm m
        · rw [hn c m] at h; cases h
      rw [upd_ne ne]
      exact b.fr c u h hm
    · by_cases z : c = a
      · rw [z, upd_same] at h; cases h
      · rw [upd_ne z] at h; exact b.live c h
  kn := fun {F μ H a} b n => ⟨b.fr, fun c z => .inl (b.sub c z), fun c z => by
    rcases z with z | z
    · exact b.new c z
    · exact .inr (by rw [z]; exact n), b.cells, b.live⟩
  live := fun b h => b.live _ h
section
variable {F F' : Addr → Prop} {μ μ' : List Addr} {H H' : Hp} {d : Addr} {od : Obj} {u : HO}
theorem Step.unl (s : Step F μ H F' μ' H') (h : H d = some (.frz od u)) (nm : d ∉ μ) : Step F μ (upd H d u) F' μ' (upd H' d u) := by
  have e : upd (upd H d u) d (.frz od u) = H := by
    funext c
    by_cases z : c = d
    · rw [z, upd_same, h]
    · rw [upd_ne z, upd_ne z]
  exact Step.unlock (H := upd H d u) (by rw [e]; exact s) upd_same nm
end
/-- .. while the dict at d is locked -/
def lkB (B : (Addr → Prop) → List Addr → Hp → Prop) (d : Addr) (od : Obj) (u : HO) : (Addr → Prop) → List Addr → Hp → Prop := fun F μ H => F d ∧ H d = some (.frz od u) ∧ B F μ (upd H d u)
theorem bs_lock {H0 : Hp} {B : (Addr → Prop) → List Addr → Hp → Prop} (b : Bs H0 B) (d : Addr) (od : Obj) (u : HO) (hu : Dt u) : Bs H0 (lkB B d od u) where
  step := fun {fx st F μ H F' μ' H'} ⟨fd, hd, q⟩ w s => by
    have nm : d ∉ μ := fun z => w.nf d z fd
    exact ⟨s.sub d fd, s.fr d _ hd nm, b.step q (w.at (Kp.unlock hd hu) (keep_upd fd) fun a n => upd_live n) (s.unl hd nm)⟩
  own := fun {F μ H a o} ⟨fd, hd, q⟩ hl n nf => by
    have ne : a ≠ d := fun z => nf (z ▸ fd)
    refine ⟨fd, by rw [upd_ne (Ne.symm ne)]; exact hd, ?_⟩
    rw [upd_comm ne]
    exact b.own q (upd_live hl) n nf
  cell := fun {F μ H a o} ⟨fd, hd, q⟩ hl m nf => by
    have ne : a ≠ d := fun z => nf (z ▸ fd)
    refine ⟨fd, by rw [upd_ne (Ne.symm ne)]; exact hd, ?_⟩
    rw [upd_comm ne]
    exact b.cell q (upd_live hl) m nf
  kn := fun {F μ H a} ⟨fd, hd, q⟩ n => ⟨.inl fd, hd, b.kn q n⟩
  live := fun {F μ H a} ⟨fd, hd, q⟩ h => b.live q (by rw [upd_ne (show a ≠ d from fun z => by rw [z, hd] at h; cases h)]; exact h)

section
variable {fx : Fx} {H0 : Hp} {F : Addr → Prop} {μ : List Addr} {Γ : Env} {σ : L2.St} {H : Hp}
theorem Sl.set_own (s : Sl fx H0 F μ Γ σ H) (i : Nat) {t : T} {v : V} (r : ORep fx F μ H t v) (n : ∃ a, v = .ref a ∧ H0 a = none) (ap : ∀ (j : Nat) u, j ≠ i → Γ[j]? = some (some (true, u)) → σ[j]? = some (some v) → False) : Sl fx H0 F μ (Γ.set i (some (true, t))) (σ.set i (some v)) H where
  len := by rw [List.length_set, List.length_set, s.len]
  kn := fun j u h => by
    by_cases e : i = j
    · subst e
      have hl : i < Γ.length := by
        have := (List.getElem?_eq_some_iff.mp h).1
        rwa [List.length_set] at this
      rw [List.getElem?_set_self hl] at h
      cases h
    · rw [List.getElem?_set_ne e] at h ⊢
      exact s.kn j u h
  ow := fun j u h => by
    by_cases e : i = j
    · subst e
      have hl : i < Γ.length := by
        have := (List.getElem?_eq_some_iff.mp h).1
        rwa [List.length_set] at this
      rw [List.getElem?_set_self hl] at h
      cases h
      exact ⟨v, List.getElem?_set_self (by rw [← s.len]; exact hl), r, n⟩
    · rw [List.getElem?_set_ne e] at h ⊢
      exact s.ow j u h
  ap := fun j k t1 t2 w hjk h1 h2 h3 h4 => by
    have hl : ∀ {x : Nat} {y : T}, (Γ.set i (some (true, t)))[x]? = some (some (true, y)) → x < Γ.length := fun {x y} h => by
      have := (List.getElem?_eq_some_iff.mp h).1
      rwa [List.length_set] at this
    by_cases e : i = j
    · subst e
      rw [List.getElem?_set_self (by rw [← s.len]; exact hl h1)] at h3
      cases h3
      rw [List.getElem?_set_ne hjk] at h2 h4
      exact ap k t2 (Ne.symm hjk) h2 h4
    · by_cases e2 : i = k
      · subst e2
        rw [List.getElem?_set_self (by rw [← s.len]; exact hl h2)] at h4
        cases h4
        rw [List.getElem?_set_ne e] at h1 h3
        exact ap j t1 hjk h1 h3
      · rw [List.getElem?_set_ne e] at h1 h3
        rw [List.getElem?_set_ne e2] at h2 h4
        exact s.ap j k t1 t2 w hjk h1 h2 h3 h4
end

def fpost (r : F) (nx : Env → St → Prop) (rt : Bool → T → St → Prop) (x : Nat → List T → St → Prop) : Prop :=
  match r with
  | .nx Γ st => nx Γ st
  | .ret o t st => rt o t st
  | .exc c fs st => x c fs st
  | .bad => False
theorem fpost_f {α : Type} {r : R α} {k : α → F} {nx : Env → St → Prop} {rt : Bool → T → St → Prop} {x : Nat → List T → St → Prop} (h : fpost (r.f k) nx rt x) : r.post (fun a => fpost (k a) nx rt x) x := by cases r <;> exact h
theorem fpost_then {r : F} {k : Env → St → F} {nx : Env → St → Prop} {rt : Bool → T → St → Prop} {x : Nat → List T → St → Prop} (h : fpost (r.then k) nx rt x) : fpost r (fun Γ st => fpost (k Γ st) nx rt x) rt x := by cases r <;> exact h
theorem fpost_imp {r : F} {nx nx' : Env → St → Prop} {rt rt' : Bool → T → St → Prop} {x x' : Nat → List T → St → Prop} (h : fpost r nx rt x) (h1 : ∀ Γ st, nx Γ st → nx' Γ st) (h2 : ∀ o t st, rt o t st → rt' o t st) (h3 : ∀ c fs st, x c fs st → x' c fs st) : fpost r nx' rt' x' := by
  cases r with
  | nx Γ st => exact h1 _ _ h
  | ret o t st => exact h2 _ _ _ h
  | exc c fs st => exact h3 _ _ _ h
  | bad => exact h
section
variable (ax : Ax) (Wx : WX)
def nxK (H0 : Hp) (B : (Addr → Prop) → List Addr → Hp → Prop) (F : Addr → Prop) (μ : List Addr) (H : Hp) (N : L2.St → Hp → Prop) : Env → St → Prop := fun Γ' st' => ∀ σ' H' F' μ', Sl ax.fx H0 F' μ' Γ' σ' H' → Wd ax.fx F' μ' H' st' → B F' μ' H' → Kp F μ H F' μ' H' → N σ' H'
def rtK (H0 : Hp) (B : (Addr → Prop) → List Addr → Hp → Prop) (N : VK) : Bool → T → St → Prop := fun o t st' => ∀ v H' F' μ', Wd ax.fx F' μ' H' st' → B F' μ' H' → Res ax.fx H0 F' μ' H' o t v → N v H'
def xcK (B : (Addr → Prop) → List Addr → Hp → Prop) : Nat → List T → St → Prop := fun c fs st' => ∀ cls d σ' H' F' μ', Wd ax.fx F' μ' H' st' → B F' μ' H' → XRep ax.fx ax.ex F' μ' H' c fs cls d → Wx cls d σ' H'
def tSt (ev : Env → St → F) : TS := fun D σ H => ∃ H0 B F μ Γ st, Bs H0 B ∧ Sl ax.fx H0 F μ Γ σ H ∧ Wd ax.fx F μ H st ∧ B F μ H ∧ fpost (ev Γ st) (nxK ax H0 B F μ H D.nx) (rtK ax H0 B D.rt) (xcK ax Wx B)
end
section
variable {ax : Ax} {X : Cx} {cc : Cc} {Wx : WX} {H0 : Hp} {B : (Addr → Prop) → List Addr → Hp → Prop} {F F1 : Addr → Prop} {μ μ1 : List Addr} {H H1 : Hp} {Γ : Env} {st : St} {σ : L2.St}
theorem nxK.kp {N : L2.St → Hp → Prop} (k : Kp F μ H F1 μ1 H1) {Γ' : Env} {st' : St} (h : nxK ax H0 B F μ H N Γ' st') : nxK ax H0 B F1 μ1 H1 N Γ' st' := fun σ' H' F' μ' s w b k' => h σ' H' F' μ' s w b (k.trans k')
theorem xcK.exk (b : Bs H0 B) (hB : B F μ H) (w : Wd ax.fx F μ H st) {c : Nat} {fs : List T} {s : St} (h : xcK ax Wx B c fs s) : exk ax Wx F μ H σ c fs s := fun cls d H' F' μ' st' w' x => h cls d σ H' F' μ' w' (b.step hB w st') x
/-- an expression within a statement -/
theorem inE {m : Bool} {e : E} {K : (Bool × T × St) → Prop} {Q : VK} (bs : Bs H0 B) (sl : Sl ax.fx H0 F μ Γ σ H) (w : Wd ax.fx F μ H st) (hB : B F μ H) (h : (evM ax m e Γ st).post K (xcK ax Wx B))
    (hk : ∀ x v H1 F1 μ1, K x → Step F μ H F1 μ1 H1 → Wd ax.fx F1 μ1 H1 x.2.2 → ModeR m ax.fx H F1 μ1 H1 x.1 x.2.1 v → Sl ax.fx H0 F1 μ1 Γ σ H1 → B F1 μ1 H1 → Q v H1) : tM ax Wx m e σ H Q :=
  seqE sl w (Step.refl F μ H) (R.post_imp h (fun _ z => z) fun _ _ _ z => xcK.exk bs hB w z) fun x v H1 F1 μ1 k s1 w1 r1 sl1 _ => hk x v H1 F1 μ1 k s1 w1 r1 sl1 (bs.step hB w s1)
theorem inT {e : E} {K : (Bool × St) → Prop} {Q : Bool → Hp → Prop} (bs : Bs H0 B) (sl : Sl ax.fx H0 F μ Γ σ H) (w : Wd ax.fx F μ H st) (hB : B F μ H) (h : (boolR (evE ax.C e Γ st)).post K (xcK ax Wx B))
    (hk : ∀ x H1 F1 μ1, K x → Step F μ H F1 μ1 H1 → Wd ax.fx F1 μ1 H1 x.2 → Sl ax.fx H0 F1 μ1 Γ σ H1 → B F1 μ1 H1 → Q x.1 H1) : tT ax Wx e σ H Q :=
  seqT sl w (Step.refl F μ H) (R.post_imp h (fun _ z => z) fun _ _ _ z => xcK.exk bs hB w z) fun x H1 F1 μ1 k s1 w1 sl1 _ => hk x H1 F1 μ1 k s1 w1 sl1 (bs.step hB w s1)
theorem inAs {es : List E} {K : (List T × St) → Prop} {Q : List V → Hp → Prop} (bs : Bs H0 B) (sl : Sl ax.fx H0 F μ Γ σ H) (w : Wd ax.fx F μ H st) (hB : B F μ H) (h : (evEs ax.C es Γ st).post K (xcK ax Wx B))
    (hk : ∀ x vs H1 F1 μ1, K x → Step F μ H F1 μ1 H1 → Wd ax.fx F1 μ1 H1 x.2 → Reps ax.fx F1 μ1 H1 x.1 vs → Sl ax.fx H0 F1 μ1 Γ σ H1 → B F1 μ1 H1 → Q vs H1) : tAs ax Wx es σ H Q :=
  seqAs sl w (Step.refl F μ H) (R.post_imp h (fun _ z => z) fun _ _ _ z => xcK.exk bs hB w z) fun x vs H1 F1 μ1 k s1 w1 r1 sl1 _ => hk x vs H1 F1 μ1 k s1 w1 r1 sl1 (bs.step hB w s1)
theorem bs_live (bs : Bs H0 B) (hB : B F μ H) {o : Bool} {t : T} {v : V} (r : Res ax.fx H F1 μ1 H1 o t v) : Res ax.fx H0 F1 μ1 H1 o t v := by
  unfold Res at r ⊢
  cases o with
  | false => exact r
  | true => obtain ⟨r, a, e, n⟩ := r; exact ⟨r, a, e, bs.live hB n⟩
/-- a name takes a value -/
theorem put_slot (bs : Bs H0 B) (hB : B F μ H) (sl : Sl ax.fx H0 F μ Γ σ H) (s1 : Step F μ H F1 μ1 H1) (w : Wd ax.fx F μ H st) (i : Nat) {o : Bool} {t : T} {v : V} (r : Res ax.fx H F1 μ1 H1 o t v) : Sl ax.fx H0 F1 μ1 (Γ.set i (some (o, t))) (σ.set i (some v)) H1 := by
  have sl1 := sl.step s1 w
  cases o with
  | false => exact sl1.set_kn i r
  | true =>
    have r2 := bs_live bs hB r
    obtain ⟨r, a, e, n⟩ := r
    refine sl1.set_own i r r2.2 fun j u _ h1 h2 => ?_
    obtain ⟨v', e1, q, _⟩ := sl.ow j u h1
    rw [h2] at e1; cases e1
    obtain ⟨c, ec, nc⟩ := q.addr
    rw [e] at ec; cases ec
    exact nc n
theorem st_nil : PSs X [] (tSt ax Wx (fun Γ st => .nx Γ st)) := pss_nil.weak fun D σ H ⟨H0, B, F, μ, Γ, st, bs, sl, w, hB, q⟩ => q σ H F μ sl w hB (Kp.refl F μ H)
theorem st_cons {s : Stmt} {ss : List Stmt} {ev : Env → St → Ev.F} {evs : Env → St → Ev.F} (h : PS X s (tSt ax Wx ev)) (hs : PSs X ss (tSt ax Wx evs)) : PSs X (s :: ss) (tSt ax Wx fun Γ st => (ev Γ st).then evs) :=
  (pss_cons h hs).weak fun D σ H ⟨H0, B, F, μ, Γ, st, bs, sl, w, hB, q⟩ => by
    refine ⟨H0, B, F, μ, Γ, st, bs, sl, w, hB, fpost_imp (fpost_then q) (fun Γ' st' k σ' H' F' μ' s' w' b' k' => ?_) (fun _ _ _ z => z) fun _ _ _ z => z⟩
    exact ⟨H0, B, F', μ', Γ', st', bs, s', w', b', fpost_imp k (fun _ _ z => z.kp k') (fun _ _ _ z => z) fun _ _ _ z => z⟩
theorem st_if {c : E} {eva evb : Env → St → Ev.F} {p : Expr} {a b : List Stmt} {pos : Pos} (hc : PT X p (tT ax Wx c)) (ha : PSs X a (tSt ax Wx eva)) (hb : PSs X b (tSt ax Wx evb)) :
    PS X (.If p a b pos) (tSt ax Wx fun Γ st => (boolR (evE ax.C c Γ st)).f fun x => if x.1 = true then eva Γ x.2 else evb Γ x.2) :=
  (ps_if hc ha hb).weak fun D σ H ⟨H0, B, F, μ, Γ, st, bs, sl, w, hB, q⟩ => by
    refine inT bs sl w hB (fpost_f q) fun x H1 F1 μ1 k s1 w1 sl1 b1 => ?_
    split
    · rename_i d
      rw [if_pos d] at k
      exact ⟨H0, B, F1, μ1, Γ, x.2, bs, sl1, w1, b1, fpost_imp k (fun _ _ z => z.kp (s1.kp w)) (fun _ _ _ z => z) fun _ _ _ z => z⟩
    · rename_i d
      rw [if_neg d] at k
      exact ⟨H0, B, F1, μ1, Γ, x.2, bs, sl1, w1, b1, fpost_imp k (fun _ _ z => z.kp (s1.kp w)) (fun _ _ _ z => z) fun _ _ _ z => z⟩
theorem st_never {s : Stmt} {ev : Env → St → Ev.F} (h : ∀ Γ st, ev Γ st = .bad) : PS X s (tSt ax Wx ev) := ps_never.weak fun D σ H ⟨H0, B, F, μ, Γ, st, bs, sl, w, hB, q⟩ => by
  rw [h] at q
  exact q.elim
theorem st_fr {ss : List Stmt} {is : List Nat} {evs : Env → St → Ev.F} (hs : PSs X ss (tSt ax Wx evs)) : PSs X ss (tSt ax Wx fun Γ st => evs (unown Γ is) st) := hs.weak fun D σ H ⟨H0, B, F, μ, Γ, st, bs, sl, w, hB, q⟩ => by
  have go : ∀ (is : List Nat) (F : Addr → Prop) (Γ : Env), Sl ax.fx H0 F μ Γ σ H → Wd ax.fx F μ H st → B F μ H → ∃ F', Sl ax.fx H0 F' μ (unown Γ is) σ H ∧ Wd ax.fx F' μ H st ∧ B F' μ H ∧ Kp F μ H F' μ H := by
    intro is
    induction is with
    | nil => exact fun F Γ sl w hB => ⟨F, sl, w, hB, Kp.refl F μ H⟩
    | cons i is ih =>
      intro F Γ sl w hB
      unfold unown
      split
      · rename_i o t e
        cases o with
        | false =>
          obtain ⟨v, hv, r⟩ := sl.kn i t e
          have s2 := sl.set_kn i r
          have es : σ.set i (some v) = σ := by
            refine List.ext_getElem? fun j => ?_
            by_cases z : i = j
            · subst z
              rw [List.getElem?_set_self (List.getElem?_eq_some_iff.mp hv).1, hv]
            · rw [List.getElem?_set_ne z]
          rw [es] at s2
          exact ih F _ s2 w hB
        | true =>
          obtain ⟨v, hv, r, n⟩ := sl.ow i t e
          obtain ⟨a, ea, nf, nm, nn, r2⟩ := r.known
          have es : σ.set i (some v) = σ := by
            refine List.ext_getElem? fun j => ?_
            by_cases z : i = j
            · subst z
              rw [List.getElem?_set_self (List.getElem?_eq_some_iff.mp hv).1, hv]
            · rw [List.getElem?_set_ne z]
          have s1 : Sl ax.fx H0 F μ (Γ.set i none) (σ.set i none) H := sl.set_none i
          have s2 : Sl ax.fx H0 (addF F a) μ (Γ.set i none) (σ.set i none) H := s1.addF fun j u v' h1 h2 z => by
            have nj : i ≠ j := fun z2 => by
              subst z2
              have hl := (List.getElem?_eq_some_iff.mp e).1
              rw [List.getElem?_set_self hl] at h1; cases h1
            rw [List.getElem?_set_ne nj] at h1 h2
            exact sl.ap i j t u v nj e h1 hv (by rw [h2, z, ea])
          have s3 := s2.set_kn i r2
          rw [List.set_set, List.set_set, es] at s3
          obtain ⟨c, ec, nc⟩ := n
          rw [ea] at ec; cases ec
          obtain ⟨F', q1, q2, q3, q4⟩ := ih (addF F a) _ s3 (w.addF nm nn) (bs.kn hB nc)
          exact ⟨F', q1, q2, q3, (Kp.addF a).trans q4⟩
      · exact ih F Γ sl w hB
  obtain ⟨F', s', w', b', k'⟩ := go is F Γ sl w hB
  exact ⟨H0, B, F', μ, _, st, bs, s', w', b', fpost_imp q (fun _ _ z => z.kp k') (fun _ _ _ z => z) fun _ _ _ z => z⟩
end
end Ev
end

section
set_option autoImplicit false
set_option linter.all false
set_option maxRecDepth 100000
set_option maxHeartbeats 1000000
/-! EvT: assignment, return, for, while. -/
namespace Ev
open PySem PySem.Spec PyProof.Rows L2
section
variable {ax : Ax} {X : Cx} {cc : Cc} {Wx : WX}
/-- an assignment's value: no comprehension -/
def noLc : Expr → Bool
  | .ListComp _ _ _ _ => false
  | _ => true
theorem sw_form {e : Expr} (h : okForm e = true) (n : noLc e = true) (t : Option Expr) (l : Nat) (env : PySem.Env) : swapsWith e t l env = pure false := by
  cases e <;> first
    | rfl
    | exact absurd n Bool.false_ne_true
    | exact absurd h Bool.false_ne_true
theorem st_asg (i : Nat) {e : E} {py : Stmt} (h : PS X py (tAsg (tM ax Wx false e) (gName i))) : PS X py (tSt ax Wx fun Γ st => (evE ax.C e Γ st).f fun x => .nx (Γ.set i (some (x.1, x.2.1))) x.2.2) :=
  h.weak fun D σ H ⟨H0, B, F, μ, Γ, st, bs, sl, w, hB, q⟩ => by
    refine inE (m := false) bs sl w hB (fpost_f q) fun x v H1 F1 μ1 k s1 w1 r1 sl1 b1 => ?_
    exact k (σ.set i (some v)) H1 F1 μ1 (put_slot bs hB sl s1 w i r1) w1 b1 (s1.kp w)
theorem st_asgT {is : List Nat} {e : E} {py : Stmt} (h : PS X py (tAsg (tM ax Wx false e) (tG ax (.t is)))) : PS X py (tSt ax Wx fun Γ st => (evE ax.C e Γ st).f fun x => match x.2.1 with
      | .tup ts => match sets Γ is ts with
        | some Γ1 => .nx Γ1 x.2.2
        | none => .bad
      | _ => .bad) :=
  h.weak fun D σ H ⟨H0, B, F, μ, Γ, st, bs, sl, w, hB, q⟩ => by
    refine inE (m := false) bs sl w hB (fpost_f q) fun x v H1 F1 μ1 k s1 w1 r1 sl1 b1 => ?_
    obtain ⟨o, t, s⟩ := x
    cases t <;> first
      | exact k.elim
      | skip
    rename_i ts
    dsimp only at k
    obtain ⟨G, sG, wG, rG, slG, _⟩ := known_sl sl w (Step.refl F μ H) s1 w1 r1
    cases hs : sets Γ is ts with
    | none => rw [hs] at k; exact k.elim
    | some Γ1 =>
      rw [hs] at k
      exact ⟨H0, G, μ1, Γ, .tup ts, Γ1, slG, rG, hs, fun σ' s' _ _ => k σ' H1 G μ1 s' wG (bs.step hB w sG) (sG.kp w)⟩
theorem st_ex {e : E} {py : Stmt} (h : PS X py (tDrop (tM ax Wx false e))) : PS X py (tSt ax Wx fun Γ st => (evE ax.C e Γ st).f fun x => .nx Γ x.2.2) :=
  h.weak fun D σ H ⟨H0, B, F, μ, Γ, st, bs, sl, w, hB, q⟩ => by
    refine inE (m := false) bs sl w hB (fpost_f q) fun x v H1 F1 μ1 k s1 w1 r1 sl1 b1 => ?_
    exact k σ H1 F1 μ1 sl1 w1 b1 (s1.kp w)
theorem st_ret {e : E} {p : Expr} {pos : Pos} (h : PE X p (tM ax Wx false e)) (hn : ∀ i, e = .v i → PE X p (tVar i)) : PS X (.Return (some p) pos) (tSt ax Wx fun Γ st => (retE Γ st (evE ax.C e Γ st) e).f fun x => .ret x.1 x.2.1 x.2.2) := by
  by_cases hv : ∃ i, e = .v i
  · obtain ⟨i, rfl⟩ := hv
    refine (ps_ret (hn i rfl)).weak fun D σ H ⟨H0, B, F, μ, Γ, st, bs, sl, w, hB, q⟩ => ?_
    have q : fpost ((match Γ[i]? with | some (some (o, t)) => .ok (o, t, st) | _ => .bad : X3).f fun x => .ret x.1 x.2.1 x.2.2) _ _ _ := q
    split at q
    · rename_i o t e
      have q : rtK ax H0 B D.rt o t st := q
      cases o with
      | false =>
        obtain ⟨v, hv, r⟩ := sl.kn i t e
        exact ⟨v, hv, q v H F μ w hB (Res.kn r)⟩
      | true =>
        obtain ⟨v, hv, r, n⟩ := sl.ow i t e
        exact ⟨v, hv, q v H F μ w hB (Res.own r n)⟩
    · exact q.elim
  · refine (ps_ret h).weak fun D σ H ⟨H0, B, F, μ, Γ, st, bs, sl, w, hB, q⟩ => ?_
    have er : retE Γ st (evE ax.C e Γ st) e = evE ax.C e Γ st := by
      cases e <;> first
        | rfl
        | exact absurd ⟨_, rfl⟩ hv
    have q : fpost ((retE Γ st (evE ax.C e Γ st) e).f fun x => .ret x.1 x.2.1 x.2.2) _ _ _ := q
    rw [er] at q
    refine inE (m := false) bs sl w hB (fpost_f q) fun x v H1 F1 μ1 k s1 w1 r1 sl1 b1 => ?_
    exact k v H1 F1 μ1 w1 b1 (bs_live bs hB r1)
theorem st_retN {pos : Pos} : PS X (.Return none pos) (tSt ax Wx fun Γ st => .ret false .non st) := ps_retN.weak fun D σ H ⟨H0, B, F, μ, Γ, st, bs, sl, w, hB, q⟩ => q .non H F μ w hB (Res.kn (by rw [rep_non]))
/-! ### for -/
def forB (g : G) (evb : Env → St → Ev.F) : T → Env → St → Ev.F := fun t Γ1 s1 => match asgG g t Γ1 with
  | none => .bad
  | some Γ2 => evb Γ2 s1
theorem for_turns {it : I} {gt : G} {evb : Env → St → Ev.F} {D : Ends} {σ : L2.St} {H : Hp} (h : ∃ H0 B F μ Γ st q, Bs H0 B ∧ Sl ax.fx H0 F μ Γ σ H ∧ Wd ax.fx F μ H st ∧ B F μ H ∧ lkI F it σ H q ∧ (∀ F' μ' H', B F' μ' H' → Lk q H') ∧ retI Γ it = true ∧
      fpost ((evI ax.C it Γ st).f fun x => forL (forB gt evb) x.1 Γ x.2) (nxK ax H0 B F μ H D.nx) (rtK ax H0 B D.rt) (xcK ax Wx B)) : tFor (tI ax Wx false it) (tG ax gt) (tSt ax Wx evb) D σ H := by
  obtain ⟨H0, B, F, μ, Γ, st, q, bs, sl, w, hB, lk, hL, hr, hp⟩ := h
  refine seqI sl w lk (fun _ => hr) (Step.refl F μ H) (R.post_imp (fpost_f hp) (fun _ z => z) fun _ _ _ z => xcK.exk bs hB w z) fun x J H1 F1 μ1 k s1 w1 yl sl1 _ => ?_
  obtain ⟨ts, st1⟩ := x
  have yl : ∀ F' μ' H', Kp F1 μ1 H1 F' μ' H' → Lk q H' → Yat ax.fx F' μ' J ts H' := yl
  have b1 := bs.step hB w s1
  dsimp only at k
  have k : fpost (forL (forB gt evb) ts Γ st1) (nxK ax H0 B F1 μ1 H1 D.nx) (rtK ax H0 B D.rt) (xcK ax Wx B) := fpost_imp k (fun _ _ z => z.kp (s1.kp w)) (fun _ _ _ z => z) fun _ _ _ z => z
  refine ⟨fun i m σ' H' => m + i = ts.length ∧ ∃ F' μ' Γ' st', Sl ax.fx H0 F' μ' Γ' σ' H' ∧ Wd ax.fx F' μ' H' st' ∧ B F' μ' H' ∧ Kp F1 μ1 H1 F' μ' H' ∧ fpost (forL (forB gt evb) (ts.drop i) Γ' st') (nxK ax H0 B F1 μ1 H1 D.nx) (rtK ax H0 B D.rt) (xcK ax Wx B),
    ⟨ts.length, rfl, F1, μ1, Γ, st1, sl1, w1, b1, Kp.refl F1 μ1 H1, k⟩, ?_⟩
  rintro i m σ2 H2 ⟨hm, F2, μ2, Γ2, st2, sl2, w2, b2, kp2, k2⟩
  have y2 := yl F2 μ2 H2 kp2 (hL _ _ _ b2)
  by_cases hi : i < ts.length
  · refine .inr ?_
    obtain ⟨go, yy⟩ := y2.1 i _ (List.getElem?_eq_getElem hi)
    refine ⟨go, fun σ' H' => (m - 1) + (i + 1) = ts.length ∧ ∃ F' μ' Γ' st', Sl ax.fx H0 F' μ' Γ' σ' H' ∧ Wd ax.fx F' μ' H' st' ∧ B F' μ' H' ∧ Kp F1 μ1 H1 F' μ' H' ∧ fpost (forL (forB gt evb) (ts.drop (i + 1)) Γ' st') (nxK ax H0 B F1 μ1 H1 D.nx) (rtK ax H0 B D.rt) (xcK ax Wx B), fun σ' H' n => ⟨m - 1, by omega, n⟩, fun x H3 y => ?_⟩
    obtain ⟨s3, w3, r3⟩ := yy x H3 y
    have w3 := w3 _ w2
    rw [List.drop_eq_getElem_cons hi] at k2
    have k3 : fpost ((forB gt evb ts[i] Γ2 st2).then fun Γ1 st1 => forL (forB gt evb) (ts.drop (i + 1)) Γ1 st1) _ _ _ := k2
    have k3 := fpost_then k3
    unfold forB at k3
    cases hg : asgG gt ts[i] Γ2 with
    | none => rw [hg] at k3; exact k3.elim
    | some Γ3 =>
      rw [hg] at k3
      dsimp only at k3
      refine ⟨H0, F2, μ2, Γ2, ts[i], Γ3, sl2.step s3 w2, r3, hg, fun σ' sl' _ _ => ?_⟩
      refine ⟨H0, B, F2, μ2, Γ3, st2, bs, sl', w3, bs.step b2 w2 s3, fpost_imp k3 (fun Γ4 st4 k4 σ4 H4 F4 μ4 sl4 w4 b4 kp4 => ?_) (fun _ _ _ z => z) fun _ _ _ z => z⟩
      exact ⟨by omega, F4, μ4, Γ4, st4, sl4, w4, b4, (kp2.trans (s3.kp w2)).trans kp4, k4⟩
  · have ei : i = ts.length := by omega
    subst ei
    rw [List.drop_length] at k2
    exact .inl ⟨y2.2, k2 σ2 H2 F2 μ2 sl2 w2 b2 kp2⟩
theorem lk_id {it : I} (h : it.noKeys = true) (r : Ev.F) : F.lk it r = r := by
  cases it <;> first
    | rfl
    | cases h
theorem lk_keys {i : Nat} {r : Ev.F} {nx : Env → St → Prop} {rt : Bool → T → St → Prop} {x x' : Nat → List T → St → Prop} (h : fpost (F.lk (.keys i) r) nx rt x) : fpost r nx rt x' := by
  cases r with
  | exc c fs st => exact (show False from h).elim
  | _ => exact h
theorem fpost_ok {α : Type} {r : R α} {k : α → Ev.F} {nx : Env → St → Prop} {rt : Bool → T → St → Prop} {x : Nat → List T → St → Prop} (h : fpost (r.f k) nx rt x) : ∃ K x', R.post r K x' := ⟨_, _, fpost_f h⟩
theorem Res.at {fx : Fx} {H0 : Hp} {F : Addr → Prop} {μ : List Addr} {H G : Hp} {o : Bool} {t : T} {v : V} (r : Res fx H0 F μ H o t v) (k : Kp F μ H F μ G) (hs : ∀ a o, ¬ F a → H a = some o → G a = some o) : Res fx H0 F μ G o t v := by
  unfold Res at r ⊢
  cases o with
  | false => exact Rep.kp k _ _ r
  | true => exact ⟨r.1.at k hs, r.2⟩
theorem for_read {it : I} {gt : G} {evb : Env → St → Ev.F} {D : Ends} {σ : L2.St} {H : Hp} (h : tSt ax Wx (fun Γ st => if retI Γ it = true then F.lk it ((evI ax.C it Γ st).f fun x => forL (forB gt evb) x.1 Γ x.2) else .bad) D σ H) :
    tFor (tI ax Wx false it) (tG ax gt) (tSt ax Wx evb) D σ H ∨ tLock (tFor (tI ax Wx false it) (tG ax gt) (tSt ax Wx evb)) D σ H := by
  obtain ⟨H0, B, F, μ, Γ, st, bs, sl, w, hB, q⟩ := h
  dsimp only at q
  split at q
  · rename_i hr
    by_cases hk : it.noKeys = true
    · rw [lk_id hk] at q
      exact .inl (for_turns ⟨H0, B, F, μ, Γ, st, none, bs, sl, w, hB, (by cases it <;> first | rfl | cases hk), fun _ _ _ _ => trivial, hr, q⟩)
    · cases it <;> first
        | exact absurd rfl hk
        | skip
      rename_i i
      have q1 := lk_keys (x' := fun _ _ _ => False) q
      obtain ⟨K', x', qi⟩ := fpost_ok q1
      obtain ⟨tt, e1, hd, r, er⟩ := keys_dict qi
      obtain ⟨d, u, hσ, fd, hu, rd⟩ := kn_dict sl e1 hd
      have nm : d ∉ μ := fun z => w.nf d z fd
      rcases rd with hH | ⟨od, hH⟩
      · refine .inr ⟨d, u, hH, hu.mut, fun od => for_turns ⟨H0, lkB B d od u, F, μ, Γ, st, some (d, od, u), bs_lock bs d od u hu, sl.at (Kp.lock hH hu) (keep_upd fd), w.at (Kp.lock hH hu) (keep_upd fd) (fun a n => upd_live n), ⟨fd, upd_same, ?_⟩, ⟨d, od, u, rfl, hσ, upd_same, fd⟩, fun F' μ' H' z => z.2.1, hr, ?_⟩⟩
        · have e : upd (upd H d (.frz od u)) d u = H := by
            funext c
            by_cases z : c = d
            · rw [z, upd_same, hH]
            · rw [upd_ne z, upd_ne z]
          rw [e]; exact hB
        · refine fpost_imp q1 (fun Γ' st' k σ' H' F' μ' s' w' b' kp' => ?_) (fun o t st' k v H' F' μ' w' b' r' => ?_) fun _ _ _ z => z.elim
          · obtain ⟨fd', hd', b2⟩ := b'
            exact ⟨hd', k σ' _ F' μ' (s'.at (Kp.unlock hd' hu) (keep_upd fd')) (w'.at (Kp.unlock hd' hu) (keep_upd fd') fun a n => upd_live n) b2 (((Kp.lock hH hu).trans kp').trans (Kp.unlock hd' hu))⟩
          · obtain ⟨fd', hd', b2⟩ := b'
            exact ⟨hd', k v _ F' μ' (w'.at (Kp.unlock hd' hu) (keep_upd fd') fun a n => upd_live n) b2 (r'.at (Kp.unlock hd' hu) (keep_upd fd'))⟩
      · refine .inl (for_turns ⟨H0, fun F' μ' H' => (F' d ∧ H' d = some (.frz od u)) ∧ B F' μ' H', F, μ, Γ, st, some (d, od, u), ?_, sl, w, ⟨⟨fd, hH⟩, hB⟩, ⟨d, od, u, rfl, hσ, hH, fd⟩, fun F' μ' H' z => z.1.2, hr, ?_⟩)
        · exact {
            step := fun {fx st F μ H F' μ' H'} ⟨⟨f1, h1⟩, b⟩ w s => ⟨⟨s.sub d f1, s.fr d _ h1 fun z => w.nf d z f1⟩, bs.step b w s⟩
            own := fun {F μ H a o} ⟨⟨f1, h1⟩, b⟩ hl n nf => ⟨⟨f1, by rw [upd_ne (show d ≠ a from fun z => nf (z ▸ f1))]; exact h1⟩, bs.own b hl n nf⟩
            cell := fun {F μ H a o} ⟨⟨f1, h1⟩, b⟩ hl m nf => ⟨⟨f1, by rw [upd_ne (show d ≠ a from fun z => nf (z ▸ f1))]; exact h1⟩, bs.cell b hl m nf⟩
            kn := fun {F μ H a} ⟨⟨f1, h1⟩, b⟩ n => ⟨⟨.inl f1, h1⟩, bs.kn b n⟩
            live := fun {F μ H a} ⟨_, b⟩ h => bs.live b h }
        · exact fpost_imp q1 (fun Γ' st' k σ' H' F' μ' s' w' b' kp' => k σ' H' F' μ' s' w' b'.2 kp') (fun o t st' k v H' F' μ' w' b' r' => k v H' F' μ' w' b'.2 r') fun _ _ _ z => z.elim
  · exact q.elim
theorem st_for (g : Gx ax X cc Wx) (hp : PassesOwn (model X.prog X.w) X.A X.env X.xe) {it : I} {gt : G} {evb : Env → St → Ev.F} {tg iter : Expr} {body : List Stmt} {pos : Pos} (hi : PI X tg iter (tI ax Wx false it)) (hg : chkG cc gt tg = true) (hb : PSs X body (tSt ax Wx evb)) (hs : ∀ x, foldedSetIterable iter X.env x = pure x) :
    PS X (.For tg iter body [] pos) (tSt ax Wx (fun Γ st => if retI Γ it = true then F.lk it ((evI ax.C it Γ st).f fun x => forL (forB gt evb) x.1 Γ x.2) else .bad)) := by
  have p := ps_for (pos := pos) hp g.bx.calm hi (pg_all g hg) hb hs
  exact (p.or (ps_lock p)).weak fun D σ H h => for_read h
/-! ### while -/
theorem st_while (hp : PassesOwn (model X.prog X.w) X.A X.env X.xe) {c : E} {evb : Env → St → Ev.F} {p : Expr} {body : List Stmt} {pos : Pos} (n : Nat) (hc : PT X p (tT ax Wx c)) (hb : PSs X body (tSt ax Wx evb)) :
    PS X (.While p body [] pos) (tSt ax Wx fun Γ st => whileL (fun Γ1 s1 => boolR (evE ax.C c Γ1 s1)) (fun Γ1 s1 => evb Γ1 s1) n Γ st) :=
  (ps_while hp hc hb).weak fun D σ H ⟨H0, B, F, μ, Γ, st, bs, sl, w, hB, q⟩ => by
    refine ⟨fun m σ' H' => ∃ F' μ' Γ' st', Sl ax.fx H0 F' μ' Γ' σ' H' ∧ Wd ax.fx F' μ' H' st' ∧ B F' μ' H' ∧ Kp F μ H F' μ' H' ∧ fpost (whileL (fun Γ1 s1 => boolR (evE ax.C c Γ1 s1)) (fun Γ1 s1 => evb Γ1 s1) m Γ' st') (nxK ax H0 B F μ H D.nx) (rtK ax H0 B D.rt) (xcK ax Wx B),
      ⟨n, F, μ, Γ, st, sl, w, hB, Kp.refl F μ H, q⟩, ?_⟩
    rintro m σ1 H1 ⟨F1, μ1, Γ1, st1, sl1, w1, b1, kp1, q1⟩
    cases m with
    | zero => exact q1.elim
    | succ m =>
      have q1 : fpost ((boolR (evE ax.C c Γ1 st1)).f fun x => if x.1 = true then (evb Γ1 x.2).then fun Γ1 st1 => whileL (fun Γ1 s1 => boolR (evE ax.C c Γ1 s1)) (fun Γ1 s1 => evb Γ1 s1) m Γ1 st1 else .nx Γ1 x.2) _ _ _ := q1
      refine inT bs sl1 w1 b1 (fpost_f q1) fun x H2 F2 μ2 k s2 w2 sl2 b2 => ?_
      have kp2 := kp1.trans (s2.kp w1)
      split
      · rename_i d
        rw [if_pos d] at k
        have k := fpost_then k
        refine ⟨fun σ' H' => ∃ F' μ' Γ' st', Sl ax.fx H0 F' μ' Γ' σ' H' ∧ Wd ax.fx F' μ' H' st' ∧ B F' μ' H' ∧ Kp F μ H F' μ' H' ∧ fpost (whileL (fun Γ1 s1 => boolR (evE ax.C c Γ1 s1)) (fun Γ1 s1 => evb Γ1 s1) m Γ' st') (nxK ax H0 B F μ H D.nx) (rtK ax H0 B D.rt) (xcK ax Wx B), fun σ' H' z => ⟨m, Nat.lt_succ_self m, z⟩, ?_⟩
        refine ⟨H0, B, F2, μ2, Γ1, x.2, bs, sl2, w2, b2, fpost_imp k (fun Γ4 st4 k4 σ4 H4 F4 μ4 sl4 w4 b4 kp4 => ?_) (fun _ _ _ z => z) fun _ _ _ z => z⟩
        exact ⟨F4, μ4, Γ4, st4, sl4, w4, b4, kp2.trans kp4, k4⟩
      · rename_i d
        rw [if_neg d] at k
        exact k σ1 H2 F2 μ2 sl2 w2 b2 kp2
end
end Ev
end

section
set_option autoImplicit false
set_option linter.all false
set_option maxRecDepth 100000
set_option maxHeartbeats 1000000
/-! EvU: lists and dicts written. -/
namespace Ev
open PySem PySem.Spec PyProof.Rows L2
section
variable {fx : Fx} {H0 : Hp} {F : Addr → Prop} {μ : List Addr} {Γ : Env} {σ : L2.St} {H : Hp} {st : St} {a : Addr} {o u : HO} {i : Nat}
/-- an own slot's list is written -/
theorem Sl.own_upd (s : Sl fx H0 F μ Γ σ H) {t t' : T} (hi : Γ[i]? = some (some (true, t))) (hv : σ[i]? = some (some (.ref a))) (nf : ¬ F a) (ha : H a = some u) (hu : NT u) (hr : ORep fx F μ (upd H a o) t' (.ref a)) :
    Sl fx H0 F μ (Γ.set i (some (true, t'))) σ (upd H a o) where
  len := by rw [List.length_set, s.len]
  kn := fun j x h => by
    by_cases e : i = j
    · subst e
      rw [List.getElem?_set_self (List.getElem?_eq_some_iff.mp hi).1] at h
      cases h
    · rw [List.getElem?_set_ne e] at h
      obtain ⟨v, e1, r⟩ := s.kn j x h
      exact ⟨v, e1, Rep.kp (Kp.app nf ha hu) _ _ r⟩
  ow := fun j x h => by
    by_cases e : i = j
    · subst e
      rw [List.getElem?_set_self (List.getElem?_eq_some_iff.mp hi).1] at h
      cases h
      obtain ⟨v, e1, _, n⟩ := s.ow i t hi
      rw [hv] at e1; cases e1
      exact ⟨_, hv, hr, n⟩
    · rw [List.getElem?_set_ne e] at h
      obtain ⟨v, e1, r, n⟩ := s.ow j x h
      refine ⟨v, e1, r.app nf ha hu fun z => ?_, n⟩
      subst z
      exact s.ap i j t x _ e hi h hv e1
  ap := fun j k t1 t2 w n h1 h2 h3 h4 => by
    have go : ∀ {x : Nat} {y : T}, (Γ.set i (some (true, t')))[x]? = some (some (true, y)) → ∃ z, Γ[x]? = some (some (true, z)) := fun {x y} h => by
      by_cases e : i = x
      · exact ⟨t, e ▸ hi⟩
      · rw [List.getElem?_set_ne e] at h; exact ⟨_, h⟩
    obtain ⟨z1, g1⟩ := go h1
    obtain ⟨z2, g2⟩ := go h2
    exact s.ap j k z1 z2 w n g1 g2 h3 h4
theorem ORep.ncell {t : T} {v : V} (h : ORep fx F μ H t v) (m : a ∈ μ) : v ≠ .ref a := by
  obtain ⟨c, e, _, nm, _⟩ := h.known
  intro z
  rw [e] at z; cases z
  exact nm m
/-- a cell is written -/
theorem Sl.cell_upd (s : Sl fx H0 F μ Γ σ H) (w : Wd fx F μ H st) (m : a ∈ μ) (ha : H a = some u) (hu : NT u) : Sl fx H0 F μ Γ σ (upd H a o) where
  len := s.len
  kn := fun j x h => let ⟨v, e1, r⟩ := s.kn j x h; ⟨v, e1, Rep.kp (Kp.app (w.nf a m) ha hu) _ _ r⟩
  ow := fun j x h => let ⟨v, e1, r, n⟩ := s.ow j x h; ⟨v, e1, r.app (w.nf a m) ha hu (r.ncell m), n⟩
  ap := s.ap
theorem Wd.cell_upd {k : Nat} {vs u' : List V} {ts : List T} (w : Wd fx F μ H st) (hk : μ[k]? = some a) (ha : H a = some (.lst u')) (r : Reps fx F μ H ts vs) : Wd fx F μ (upd H a (.lst vs)) (st.set k ts) := by
  have m := List.mem_of_getElem? hk
  have kp := Kp.app (o := .lst vs) (μ := μ) (w.nf a m) ha ⟨fun _ z => (nomatch z), fun _ _ z => (nomatch z)⟩
  have hkl : k < μ.length := (List.getElem?_eq_some_iff.mp hk).1
  refine ⟨by rw [List.length_set, w.len], w.nd, w.nf, fun b f => upd_live (w.ft b f), fun j b c h1 h2 => ?_⟩
  by_cases e : k = j
  · subst e
    rw [hk] at h1; cases h1
    rw [List.getElem?_set_self (by rw [w.len]; exact hkl)] at h2
    cases h2
    exact ⟨vs, upd_same, Reps.kp kp _ _ r⟩
  · rw [List.getElem?_set_ne e] at h2
    obtain ⟨ws, hb, rb⟩ := w.at_ j b c h1 h2
    have ne : b ≠ a := fun z => by
      subst z
      have hj : j < μ.length := (List.getElem?_eq_some_iff.mp h1).1
      have e1 := (List.getElem?_eq_some_iff.mp h1).2
      have e2 := (List.getElem?_eq_some_iff.mp hk).2
      have pw := List.pairwise_iff_getElem.mp w.nd
      rcases Nat.lt_or_gt_of_ne e with z | z
      · exact pw k j hkl hj z (e2.trans e1.symm)
      · exact pw j k hj hkl z (e1.trans e2.symm)
    exact ⟨ws, by rw [upd_ne ne]; exact hb, Reps.kp kp _ _ rb⟩
end
section
variable {ax : Ax} {X : Cx} {cc : Cc} {Wx : WX}
theorem orep_lst {fx : Fx} {F : Addr → Prop} {μ : List Addr} {H : Hp} {ts : List T} {v : V} (h : ORep fx F μ H (.lst ts) v) : ∃ a vs, v = .ref a ∧ ¬ F a ∧ a ∉ μ ∧ H a = some (.lst vs) ∧ Reps fx F μ H ts vs := h
/-- a new item behind the own list, the cell -/
theorem app_end {H0 : Hp} {B : (Addr → Prop) → List Addr → Hp → Prop} {F F1 : Addr → Prop} {μ μ1 : List Addr} {H H1 : Hp} {Γ : Env} {σ : L2.St} {st st1 : St} {i : Nat} {o : Bool} {t : T} {v : V} {D : Ends} {a : Addr} (bs : Bs H0 B) (sl : Sl ax.fx H0 F μ Γ σ H) (w : Wd ax.fx F μ H st) (hB : B F μ H)
    (s1 : Step F μ H F1 μ1 H1) (w1 : Wd ax.fx F1 μ1 H1 st1) (r1 : Res ax.fx H F1 μ1 H1 o t v) (hσ : σ[i]? = some (some (.ref a)))
    (k : fpost (appAt Γ st1 i t) (nxK ax H0 B F μ H D.nx) (rtK ax H0 B D.rt) (xcK ax Wx B)) : ∃ xs, H1 a = some (.lst xs) ∧ xs.length < sizeLine ∧ D.nx σ (upd H1 a (.lst (xs ++ [v]))) := by
  obtain ⟨G, sG, wG, rG, slG, _⟩ := known_sl sl w (Step.refl F μ H) s1 w1 r1
  have bG := bs.step hB w sG
  unfold appAt at k
  split at k
  · rename_i ts hi
    split at k
    · rename_i hz
      obtain ⟨v', e1, q, n⟩ := slG.ow i _ hi
      rw [hσ] at e1; cases e1
      obtain ⟨a', vs, ea, nf, nm, ha, rs⟩ := orep_lst q
      cases ea
      have kp := Kp.app (o := .lst (vs ++ [v])) (μ := μ1) nf ha ⟨fun _ z => (nomatch z), fun _ _ z => (nomatch z)⟩
      have n0 : H0 a = none := by obtain ⟨c, ec, nc⟩ := n; cases ec; exact nc
      refine ⟨vs, ha, ?_, k σ _ G μ1 (slG.own_upd hi hσ nf ha ⟨fun _ z => (nomatch z), fun _ _ z => (nomatch z)⟩ ⟨a, _, rfl, nf, nm, upd_same, (Reps.kp kp _ _ rs).app (Reps.cons (Rep.kp kp _ _ rG) Reps.nil)⟩) (wG.app nf nm ha ⟨fun _ z => (nomatch z), fun _ _ z => (nomatch z)⟩) (bs.own bG (by rw [ha]; exact fun z => nomatch z) n0 nf) ((sG.kp w).trans kp)⟩
      rw [rs.len]; exact szL (n := ts.length + 1) hz
    · exact k.elim
  · rename_i o' kk hi
    split at k
    · rename_i ts hst
      split at k
      · rename_i hz
        have hkn : ∃ v', σ[i]? = some (some v') ∧ Rep ax.fx G μ1 H1 (.ref kk) v' := by
          cases o' with
          | false => exact slG.kn i _ hi
          | true => obtain ⟨_, _, q, _⟩ := slG.ow i _ hi; exact q.elim
        obtain ⟨v', e1, q⟩ := hkn
        rw [hσ] at e1; cases e1
        rw [rep_ref] at q
        obtain ⟨a', hk, ea⟩ := q
        cases ea
        obtain ⟨vs, ha, rs⟩ := wG.at_ kk a ts hk hst
        have m := List.mem_of_getElem? hk
        have kp := Kp.app (o := .lst (vs ++ [v])) (μ := μ1) (wG.nf a m) ha ⟨fun _ z => (nomatch z), fun _ _ z => (nomatch z)⟩
        refine ⟨vs, ha, ?_, k σ _ G μ1 (slG.cell_upd wG m ha ⟨fun _ z => (nomatch z), fun _ _ z => (nomatch z)⟩) (wG.cell_upd hk ha (rs.app (Reps.cons rG Reps.nil))) (bs.cell bG (by rw [ha]; exact fun z => nomatch z) m (wG.nf a m)) ((sG.kp w).trans kp)⟩
        rw [rs.len]; exact szL (n := ts.length + 1) hz
      · exact k.elim
    · exact k.elim
  · exact k.elim
theorem rcv_shape {Γ : Env} {i : Nat} (h : rcv Γ i = true) : (∃ t, Γ[i]? = some (some (true, t))) ∨ ∃ o k, Γ[i]? = some (some (o, .ref k)) := by
  unfold rcv at h
  split at h
  · exact .inl ⟨_, by assumption⟩
  · exact .inr ⟨_, _, by assumption⟩
  · cases h
theorem rcv_ref {H0 : Hp} {F : Addr → Prop} {μ : List Addr} {H : Hp} {Γ : Env} {σ : L2.St} {fx : Fx} {i : Nat} (sl : Sl fx H0 F μ Γ σ H) (h : rcv Γ i = true) : ∃ a, σ[i]? = some (some (.ref a)) := by
  rcases rcv_shape h with ⟨t, e⟩ | ⟨o, k, e⟩
  · obtain ⟨v, hv, q, a, ea, _⟩ := sl.ow i t e
    exact ⟨a, by rw [hv, ea]⟩
  · cases o with
    | false =>
      obtain ⟨v, hv, q⟩ := sl.kn i _ e
      rw [rep_ref] at q
      obtain ⟨a, _, ea⟩ := q
      exact ⟨a, by rw [hv, ea]⟩
    | true => obtain ⟨_, _, q, _⟩ := sl.ow i _ e; exact q.elim
theorem rcv_tyL {H0 : Hp} {F : Addr → Prop} {μ : List Addr} {H : Hp} {Γ : Env} {σ : L2.St} {fx : Fx} {st : St} {i : Nat} {K : PySem.W.Frag} {a : Addr} (sl : Sl fx H0 F μ Γ σ H) (w : Wd fx F μ H st) (hσ : σ[i]? = some (some (.ref a))) (h : (∃ ts, Γ[i]? = some (some (true, .lst ts))) ∨ ∃ o k, Γ[i]? = some (some (o, .ref k))) : tyV K "list" (.ref a) H := by
  rcases h with ⟨ts, e⟩ | ⟨o, k, e⟩
  · obtain ⟨v, hv, q, _⟩ := sl.ow i _ e
    rw [hσ] at hv; cases hv
    obtain ⟨a', vs, ea, _, _, ha, _⟩ := orep_lst q
    cases ea
    exact .inl ⟨rfl, vs, .inl (.inl ha)⟩
  · cases o with
    | false =>
      obtain ⟨v, hv, q⟩ := sl.kn i _ e
      rw [hσ] at hv; cases hv
      rw [rep_ref] at q
      obtain ⟨a', hk, ea⟩ := q
      cases ea
      have hl : k < st.length := by rw [w.len]; exact (List.getElem?_eq_some_iff.mp hk).1
      obtain ⟨vs, ha, _⟩ := w.at_ k a _ hk (List.getElem?_eq_getElem hl)
      exact .inl ⟨rfl, vs, .inl (.inl ha)⟩
    | true => obtain ⟨_, _, q, _⟩ := sl.ow i _ e; exact q.elim
/-- xs.append(e) -/
theorem st_app (g : Gx ax X cc Wx) {i : Nat} {x : Str} {e : E} {p : Expr} {p1 apos cpos pos : Pos} (hx : cc.vis i x = true) (hl : (apos.endLine == cpos.line) = true) (fp : okForm p = true) (he : PE X p (tM ax Wx false e)) :
    PS X (.Expr (.Call (.Attribute (.Name x p1) "append" apos) [p] [] cpos) pos) (tSt ax Wx fun Γ st => if rcvL Γ i = true then (evE ax.C e Γ st).f fun y => appAt Γ y.2.2 i y.2.1 else .bad) := by
  obtain ⟨h1, h2, h3, h4⟩ := g.vis hx
  refine (ps_expr (pe_bm PySem.F.plainAttrs_list PySem.F.slot_list_append PySem.F.type_list_append mt_append (pe_var (i := i) h1 h2 h3 h4) (pa_cons he pa_nil (form_star fp [] _)) (by rfl) (by rw [form_star fp]; rfl) hl (form_star fp [] _) (by rfl))).weak fun D σ H ⟨H0, B, F, μ, Γ, st, bs, sl, w, hB, q⟩ => ?_
  dsimp only at q
  split at q
  · rename_i hr
    have hr2 := rcvL_shape hr
    obtain ⟨a, hσ⟩ := rcv_ref sl (rcvL_rcv hr)
    refine ⟨.ref a, hσ, rcv_tyL sl w hσ hr2, ?_⟩
    refine inE (m := false) bs sl w hB (fpost_f q) fun y v H1 F1 μ1 k s1 w1 r1 sl1 b1 => ?_
    obtain ⟨xs, ha, hz, nx⟩ := app_end bs sl w hB s1 w1 r1 hσ k
    exact ⟨a, xs, v, rfl, rfl, ha, hz, nx⟩
  · exact q.elim
/-- xs.extend(e) -/
theorem st_ext (g : Gx ax X cc Wx) {i : Nat} {x : Str} {e : E} {p : Expr} {p1 apos cpos pos : Pos} (hx : cc.vis i x = true) (hl : (apos.endLine == cpos.line) = true) (fp : okForm p = true) (he : PE X p (tM ax Wx false e)) :
    PS X (.Expr (.Call (.Attribute (.Name x p1) "extend" apos) [p] [] cpos) pos) (tSt ax Wx fun Γ st => if rcvL Γ i = true then (evE ax.C e Γ st).f fun y => if y.1 = true then extAt Γ y.2.2 i y.2.1 else .bad else .bad) := by
  obtain ⟨h1, h2, h3, h4⟩ := g.vis hx
  refine (ps_expr (pe_bm PySem.F.plainAttrs_list PySem.F.slot_list_extend PySem.F.type_list_extend mt_extend (pe_var (i := i) h1 h2 h3 h4) (pa_cons he pa_nil (form_star fp [] _)) (by rfl) (by rw [form_star fp]; rfl) hl (form_star fp [] _) (by rfl))).weak fun D σ H ⟨H0, B, F, μ, Γ, st, bs, sl, w, hB, q⟩ => ?_
  dsimp only at q
  split at q
  · rename_i hr
    have hr2 := rcvL_shape hr
    obtain ⟨a, hσ⟩ := rcv_ref sl (rcvL_rcv hr)
    refine ⟨.ref a, hσ, rcv_tyL sl w hσ hr2, ?_⟩
    refine inE (m := false) bs sl w hB (fpost_f q) fun y v H1 F1 μ1 k s1 w1 r1 sl1 b1 => ?_
    obtain ⟨o, t, s⟩ := y
    dsimp only at k r1 w1
    split at k
    · rename_i ho
      subst ho
      have r2 : ORep ax.fx F1 μ1 H1 t v ∧ ∃ a, v = .ref a ∧ H a = none := r1
      cases t <;> first
        | exact r2.1.elim
        | exact k.elim
        | skip
      rename_i us
      obtain ⟨b, ws, ev, nfb, nmb, hb, rb⟩ := orep_lst r2.1
      subst ev
      unfold extAt at k
      dsimp only at k
      split at k
      · rename_i ts hi
        split at k
        · rename_i hz
          obtain ⟨v', e1, q1, n⟩ := sl1.ow i _ hi
          rw [hσ] at e1; cases e1
          obtain ⟨a', vs, ea, nf, nm, ha, rs⟩ := orep_lst q1
          cases ea
          have kp := Kp.app (o := .lst (vs ++ ws)) (μ := μ1) nf ha ⟨fun _ z => (nomatch z), fun _ _ z => (nomatch z)⟩
          have n0 : H0 a = none := by obtain ⟨c, ec, nc⟩ := n; cases ec; exact nc
          refine ⟨a, b, vs, ws, rfl, rfl, ha, hb, by rw [rs.len, rb.len]; exact szL hz, k σ _ F1 μ1 (sl1.own_upd hi hσ nf ha ⟨fun _ z => (nomatch z), fun _ _ z => (nomatch z)⟩ ⟨a, _, rfl, nf, nm, upd_same, (Reps.kp kp _ _ rs).app (Reps.kp kp _ _ rb)⟩) (w1.app nf nm ha ⟨fun _ z => (nomatch z), fun _ _ z => (nomatch z)⟩) (bs.own b1 (by rw [ha]; exact fun z => nomatch z) n0 nf) ((s1.kp w).trans kp)⟩
        · exact k.elim
      · exact k.elim
    · exact k.elim
  · exact q.elim
end
end Ev
end

section
set_option autoImplicit false
set_option linter.all false
set_option maxRecDepth 100000
set_option maxHeartbeats 1000000
/-! EvV: x[k] = e. -/
namespace Ev
open PySem PySem.Spec PyProof.Rows L2
section
variable {fx : Fx} {F : Addr → Prop} {μ : List Addr} {H : Hp} {κ κ' : Type} [DecidableEq κ] [DecidableEq κ'] {R : κ → κ' → Prop}
theorem ks_len : ∀ {ys : List κ} {kk : List κ'}, KsR R ys kk → kk.length = ys.length
  | [], kk, h => by
    have h : kk = [] := h
    rw [h]; rfl
  | y :: ys, kk, h => by
    obtain ⟨k, kr, e, _, h2⟩ := h
    rw [e, List.length_cons, List.length_cons, ks_len h2]
theorem ks_mem (inj : ∀ y y' k k', R y k → R y' k' → (k = k') = (y = y')) {y : κ} {k : κ'} (r : R y k) : ∀ {ys : List κ} {kk : List κ'}, KsR R ys kk → (y ∈ ys ↔ k ∈ kk)
  | [], kk, h => by
    have h : kk = [] := h
    rw [h]; simp
  | y' :: ys, kk, h => by
    obtain ⟨k', kr, e, r1, h2⟩ := h
    rw [e, List.mem_cons, List.mem_cons, ks_mem inj r h2, inj y y' k k' r r1]
theorem ks_snoc : ∀ {ys : List κ} {kk : List κ'} {y : κ} {k : κ'}, KsR R ys kk → R y k → KsR R (ys ++ [y]) (kk ++ [k])
  | [], kk, y, k, h, r => by
    have h : kk = [] := h
    rw [h]
    exact ⟨k, [], rfl, r, rfl⟩
  | y' :: ys, kk, y, k, h, r => by
    obtain ⟨k', kr, e, r1, h2⟩ := h
    rw [e]
    exact ⟨k', _, rfl, r1, ks_snoc h2 r⟩
theorem ks_rep (inj : ∀ y y' k k', R y k → R y' k' → (k = k') = (y = y')) {y : κ} {k : κ'} {t : T} {v : V} (r : R y k) (rv : Rep fx F μ H t v) : ∀ {ys : List κ} {ts : List T} {ws : List (κ' × V)}, KsR R ys (ws.map (·.1)) → Reps fx F μ H ts (ws.map (·.2)) →
    Reps fx F μ H (dRep ys ts y t) ((ws.map fun kv => if kv.1 = k then (kv.1, v) else kv).map (·.2))
  | [], ts, ws, h1, h2 => by
    have e : ws = [] := List.map_eq_nil_iff.mp h1
    subst e
    exact h2
  | y' :: ys, [], ws, h1, h2 => by
    rw [reps_nil] at h2
    have e : ws = [] := List.map_eq_nil_iff.mp h2
    subst e
    exact Reps.nil
  | y' :: ys, t' :: ts, ws, h1, h2 => by
    obtain ⟨k', kr, e1, r1, h1⟩ := h1
    rw [reps_cons] at h2
    obtain ⟨v', vr, e2, r2, h2⟩ := h2
    cases ws with
    | nil => cases e1
    | cons w wr =>
      rw [List.map_cons, List.cons.injEq] at e1 e2
      obtain ⟨e1, e1'⟩ := e1
      obtain ⟨e2, e2'⟩ := e2
      subst e1' e2'
      have q := inj y' y w.1 k (e1 ▸ r1) r
      have ih := ks_rep inj r rv h1 h2
      rw [List.map_cons, List.map_cons]
      show Reps fx F μ H ((if y' = y then t else t') :: dRep ys ts y t) _
      by_cases c : y' = y
      · rw [if_pos c, if_pos (q.mpr c)]
        exact Reps.cons rv ih
      · rw [if_neg c, if_neg (fun z => c (q.mp z))]
        exact Reps.cons (e2 ▸ r2) ih
theorem ks_put (inj : ∀ y y' k k', R y k → R y' k' → (k = k') = (y = y')) {y : κ} {k : κ'} {t : T} {v : V} (r : R y k) (rv : Rep fx F μ H t v) {ys : List κ} {ts : List T} {ws : List (κ' × V)} (h1 : KsR R ys (ws.map (·.1))) (h2 : Reps fx F μ H ts (ws.map (·.2))) :
    KsR R (dPut ys ts y t).1 ((putK ws k v).map (·.1)) ∧ Reps fx F μ H (dPut ys ts y t).2 ((putK ws k v).map (·.2)) := by
  have m := ks_mem inj r h1
  have m2 : (ws.any fun kv => decide (kv.1 = k)) = true ↔ k ∈ ws.map (·.1) := by
    rw [List.any_eq_true, List.mem_map]
    constructor
    · rintro ⟨x, hx, e⟩; exact ⟨x, hx, by simpa using e⟩
    · rintro ⟨x, hx, e⟩; exact ⟨x, hx, by simpa using e⟩
  unfold dPut putK
  by_cases c : y ∈ ys
  · rw [if_pos c, if_pos (m2.mpr (m.mp c))]
    refine ⟨?_, ks_rep inj r rv h1 h2⟩
    have e : (ws.map fun kv => if kv.1 = k then (kv.1, v) else kv).map (·.1) = ws.map (·.1) := by
      rw [List.map_map]
      refine List.map_congr_left fun x _ => ?_
      show (if x.1 = k then (x.1, v) else x).1 = x.1
      split <;> rfl
    rw [e]
    exact h1
  · rw [if_neg c, if_neg fun z => c (m.mpr (m2.mp z)), List.map_append, List.map_append]
    exact ⟨ks_snoc h1 r, h2.app (Reps.cons rv Reps.nil)⟩
end
section
variable {ax : Ax} {X : Cx} {cc : Cc} {Wx : WX}
theorem sl_ref {H0 : Hp} {F : Addr → Prop} {μ : List Addr} {H : Hp} {Γ : Env} {σ : L2.St} {fx : Fx} {i : Nat} {o : Bool} {k : Nat} (sl : Sl fx H0 F μ Γ σ H) (h : Γ[i]? = some (some (o, .ref k))) : ∃ v', σ[i]? = some (some v') ∧ Rep fx F μ H (.ref k) v' := by
  cases o with
  | false => exact sl.kn i _ h
  | true => obtain ⟨_, _, q, _⟩ := sl.ow i _ h; exact q.elim
theorem sw_none {t : Expr} (q : Expr) {env : PySem.Env} (ht : ∀ ts n p, t ≠ .Tuple ts n p := by intro _ _ _ z; cases z) (ht2 : ∀ ts p, t ≠ .List ts p := by intro _ _ z; cases z) : swappedStores [t] q env = pure none := by
  cases t <;> first
    | rfl
    | exact absurd rfl (ht _ _ _)
    | exact absurd rfl (ht2 _ _)
theorem set_end (b : Bx ax X) {H0 : Hp} {B : (Addr → Prop) → List Addr → Hp → Prop} {F : Addr → Prop} {μ : List Addr} {H : Hp} {Γ : Env} {σ : L2.St} {st : St} {i : Nat} {tk tx : T} {vk vx : V} {D : Ends} {a : Addr} {K : Env → St → Prop} (bs : Bs H0 B) (sl : Sl ax.fx H0 F μ Γ σ H) (w : Wd ax.fx F μ H st) (hB : B F μ H)
    (rk : Rep ax.fx F μ H tk vk) (rx : Rep ax.fx F μ H tx vx) (hσ : σ[i]? = some (some (.ref a))) {N : L2.St → Hp → Prop}
    (k : fpost (setAt Γ st i tk tx) (nxK ax H0 B F μ H N) (rtK ax H0 B D.rt) (xcK ax Wx B)) :
    (∃ t, Γ[i]? = some (some (true, t)) ∧ ∃ H4, DPut H a vk vx H4 ∧ N σ H4) ∨ ((∃ o c, Γ[i]? = some (some (o, .ref c))) ∧ ∃ xs n j, vk = .int n ∧ H a = some (.lst xs) ∧ ixN xs.length n = some j ∧ N σ (upd H a (.lst (xs.set j vx)))) := by
  unfold setAt at k
  split at k
  · rename_i ks ts hi
    refine .inl ⟨_, hi, ?_⟩
    split at k
    · rename_i y hy
      split at k
      · rename_i hz
        obtain ⟨v', e1, q, n⟩ := sl.ow i _ hi
        rw [hσ] at e1; cases e1
        obtain ⟨a', ws, ea, nf, nm, ha, h1, h2⟩ := q
        cases ea
        obtain ⟨kk, rkk, ek⟩ := kyOf_rep hy rk
        rw [kysR_iff] at h1
        have n0 : H0 a = none := by obtain ⟨c, ec, nc⟩ := n; cases ec; exact nc
        obtain ⟨p1, p2⟩ := ks_put (fun _ _ _ _ a c => kyKey_inj b.tab a c) rkk rx h1 h2
        have kp := Kp.app (o := .dK (putK ws kk vx)) (μ := μ) nf ha ⟨fun _ z => (nomatch z), fun _ _ z => (nomatch z)⟩
        subst ek
        refine ⟨_, DPut.k ha (by have := ks_len h1; rw [List.length_map] at this; rw [this]; exact szL (n := ks.length + 1) hz), k σ _ F μ (sl.own_upd hi hσ nf ha ⟨fun _ z => (nomatch z), fun _ _ z => (nomatch z)⟩ ⟨a, _, rfl, nf, nm, upd_same, by rw [kysR_iff]; exact p1, Reps.kp kp _ _ p2⟩) (w.app nf nm ha ⟨fun _ z => (nomatch z), fun _ _ z => (nomatch z)⟩) (bs.own hB (by rw [ha]; exact fun z => nomatch z) n0 nf) kp⟩
      · exact k.elim
    · exact k.elim
  · rename_i ks ts hi
    refine .inl ⟨_, hi, ?_⟩
    split at k
    · rename_i us
      split at k
      · rename_i y hy
        split at k
        · rename_i hz
          obtain ⟨v', e1, q, n⟩ := sl.ow i _ hi
          rw [hσ] at e1; cases e1
          obtain ⟨a', ws, ea, nf, nm, ha, h1, h2⟩ := q
          cases ea
          rw [rep_tup] at rk
          obtain ⟨c, vs, ek, hc, rvs⟩ := rk
          obtain ⟨kk, rkk, ekk⟩ := kysOf_reps hy rvs
          rw [kyssR_iff] at h1
          have n0 : H0 a = none := by obtain ⟨c, ec, nc⟩ := n; cases ec; exact nc
          obtain ⟨p1, p2⟩ := ks_put (fun _ _ _ _ a c => kysR_inj b.tab a c) rkk rx h1 h2
          have kp := Kp.app (o := .dT (putK ws kk vx)) (μ := μ) nf ha ⟨fun _ z => (nomatch z), fun _ _ z => (nomatch z)⟩
          subst ek ekk
          refine ⟨_, DPut.t ha hc (by have := ks_len h1; rw [List.length_map] at this; rw [this]; exact szL (n := ks.length + 1) hz), k σ _ F μ (sl.own_upd hi hσ nf ha ⟨fun _ z => (nomatch z), fun _ _ z => (nomatch z)⟩ ⟨a, _, rfl, nf, nm, upd_same, by rw [kyssR_iff]; exact p1, Reps.kp kp _ _ p2⟩) (w.app nf nm ha ⟨fun _ z => (nomatch z), fun _ _ z => (nomatch z)⟩) (bs.own hB (by rw [ha]; exact fun z => nomatch z) n0 nf) kp⟩
        · exact k.elim
      · exact k.elim
    · exact k.elim
  · rename_i hi
    refine .inr ⟨⟨_, _, hi⟩, ?_⟩
    split at k
    · rename_i n ts hst
      split at k
      · rename_i j hj
        rw [rep_int] at rk
        have hkn : ∃ v', σ[i]? = some (some v') ∧ Rep ax.fx F μ H (.ref _) v' := sl_ref sl hi
        obtain ⟨v', e1, q⟩ := hkn
        rw [hσ] at e1; cases e1
        rw [rep_ref] at q
        obtain ⟨a', hk, ea⟩ := q
        cases ea
        obtain ⟨vs, ha, rs⟩ := w.at_ _ a ts hk hst
        have m := List.mem_of_getElem? hk
        have kp := Kp.app (o := .lst (vs.set j vx)) (μ := μ) (w.nf a m) ha ⟨fun _ z => (nomatch z), fun _ _ z => (nomatch z)⟩
        exact ⟨vs, n, j, rk, ha, by rw [rs.len]; exact hj, k σ _ F μ (sl.cell_upd w m ha ⟨fun _ z => (nomatch z), fun _ _ z => (nomatch z)⟩) (w.cell_upd hk ha (rs.set j rx)) (bs.cell hB (by rw [ha]; exact fun z => nomatch z) m (w.nf a m)) kp⟩
      · exact k.elim
    · exact k.elim
  · exact k.elim
theorem as_form {o p : Expr} (h : okForm p = true) {env : PySem.Env} {pos : Pos} : ∀ v, assign (.Subscript o p pos) env v = (do
    let ov ← holding [v] (eval o env)
    let iv ← holding [v, ov] (eval p env)
    standAt pos
    holding [v, ov, iv] (setItem ov iv v)
    release [v, ov, iv] []) := by
  cases p <;> first
    | exact fun _ => rfl
    | exact absurd h Bool.false_ne_true
/-- x[k] = e -/
theorem st_set (g : Gx ax X cc Wx) {i : Nat} {x : Str} {k e : E} {p q : Expr} {p1 p2 pos : Pos} (hx : cc.vis i x = true) (fp : okForm p = true) (fq : okForm q = true) (nq : noLc q = true) (hk : PE X p (tM ax Wx false k)) (he : PE X q (tM ax Wx false e)) :
    PS X (.Assign [.Subscript (.Name x p1) p p2] q pos) (tSt ax Wx fun Γ st => (evE ax.C e Γ st).f fun x => if rcv Γ i = true then (evE ax.C k Γ x.2.2).f fun y => setAt Γ y.2.2 i y.2.1 x.2.1 else .bad) := by
  obtain ⟨h1, h2, h3, h4⟩ := g.vis hx
  have sw := sw_form fq nq (some (.Subscript (.Name x p1) p p2)) pos.line X.env
  have a := ps_dput g.bx.u1 (pe_var (i := i) (pos := p1) h1 h2 h3 h4) hk he sw
  have b := ps_asg (pos := pos) he (pg_sub (pos := p2) (pe_var (i := i) (pos := p1) h1 h2 h3 h4) hk set_list (as_form fp)) sw (sw_none q)
  refine (a.or b).weak fun D σ H ⟨H0, B, F, μ, Γ, st, bs, sl, w, hB, qq⟩ => ?_
  have step : ∀ {Q : V → Hp → Prop}, (∀ a v H1 G μ1 st1 tx, σ[i]? = some (some (.ref a)) → Sl ax.fx H0 G μ1 Γ σ H1 → Wd ax.fx G μ1 H1 st1 → B G μ1 H1 → Rep ax.fx G μ1 H1 tx v → Kp F μ H G μ1 H1 → fpost ((evE ax.C k Γ st1).f fun y => setAt Γ y.2.2 i y.2.1 tx) (nxK ax H0 B F μ H D.nx) (rtK ax H0 B D.rt) (xcK ax Wx B) → Q v H1) → tM ax Wx false e σ H Q := fun {Q} hQ => by
    refine inE (m := false) bs sl w hB (fpost_f qq) fun y v H1 F1 μ1 k1 s1 w1 r1 sl1 b1 => ?_
    split at k1
    · rename_i hr
      obtain ⟨a, hσ⟩ := rcv_ref sl hr
      obtain ⟨G, sG, wG, rG, slG, _⟩ := known_sl sl w (Step.refl F μ H) s1 w1 r1
      exact hQ a v H1 G μ1 y.2.2 y.2.1 hσ slG wG (bs.step hB w sG) rG (sG.kp w) k1
    · exact k1.elim
  have step2 : ∀ {a v H1 G μ1 st1 tx} {Q : V → Hp → Prop}, σ[i]? = some (some (.ref a)) → Sl ax.fx H0 G μ1 Γ σ H1 → Wd ax.fx G μ1 H1 st1 → B G μ1 H1 → Rep ax.fx G μ1 H1 tx v → Kp F μ H G μ1 H1 → fpost ((evE ax.C k Γ st1).f fun y => setAt Γ y.2.2 i y.2.1 tx) (nxK ax H0 B F μ H D.nx) (rtK ax H0 B D.rt) (xcK ax Wx B) →
      (∀ y H2, ((∃ t, Γ[i]? = some (some (true, t)) ∧ ∃ H4, DPut H2 a y v H4 ∧ D.nx σ H4) ∨ ((∃ o c, Γ[i]? = some (some (o, .ref c))) ∧ ∃ xs n j, y = .int n ∧ H2 a = some (.lst xs) ∧ ixN xs.length n = some j ∧ D.nx σ (upd H2 a (.lst (xs.set j v))))) → Q y H2) → tM ax Wx false k σ H1 Q := fun {a v H1 G μ1 st1 tx Q} hσ sl1 w1 b1 rx kp1 k1 hQ => by
    refine inE (m := false) bs sl1 w1 b1 (fpost_f k1) fun y u H2 F2 μ2 k2 s2 w2 r2 sl2 b2 => ?_
    obtain ⟨G2, sG, wG, rG, slG, _⟩ := known_sl sl1 w1 (Step.refl G μ1 H1) s2 w2 r2
    refine hQ u H2 (set_end (D := D) g.bx bs slG wG (bs.step b1 w1 sG) rG (Rep.kp (sG.kp w1) _ _ rx) hσ (K := fun _ _ => True) (fpost_imp k2 (fun _ _ z => z.kp (kp1.trans (sG.kp w1))) (fun _ _ _ z => z) fun _ _ _ z => z))
  by_cases hd : ∃ t, Γ[i]? = some (some (true, t))
  · refine .inl (step fun a v H1 G μ1 st1 tx hσ sl1 w1 b1 rx kp1 k1 => ⟨.ref a, hσ, step2 hσ sl1 w1 b1 rx kp1 k1 fun y H2 z => ?_⟩)
    rcases z with ⟨_, _, H4, dp, nx⟩ | ⟨⟨o, c, e1⟩, _⟩
    · exact ⟨a, H4, rfl, dp, nx⟩
    · obtain ⟨t, ht⟩ := hd
      rw [ht] at e1
      cases e1
      obtain ⟨_, _, q, _⟩ := sl.ow i _ ht
      exact q.elim
  · refine .inr (step fun a v H1 G μ1 st1 tx hσ sl1 w1 b1 rx kp1 k1 => ⟨.ref a, hσ, step2 hσ sl1 w1 b1 rx kp1 k1 fun y H2 z => ?_⟩)
    rcases z with ⟨t, ht, _⟩ | ⟨_, xs, n, j, e1, ha, hj, nx⟩
    · exact absurd ⟨t, ht⟩ hd
    · exact ⟨a, xs, n, j, rfl, e1, ha, hj, nx⟩
end
end Ev
end

section
set_option autoImplicit false
set_option linter.all false
set_option maxRecDepth 100000
set_option maxHeartbeats 1000000
/-! EvUpd: d.update(e). -/
namespace Ev
open PySem PySem.Spec PyProof.Rows L2
/-- one dict's pairs put into another's -/
def mergeT (kvs ws : List (List Key × V)) : List (List Key × V) := ws.foldl (fun acc kv => putK acc kv.1 kv.2) kvs
theorem mergeT_len : ∀ (ws kvs : List (List Key × V)), (mergeT kvs ws).length ≤ kvs.length + ws.length
  | [], kvs => Nat.le_refl _
  | w :: ws, kvs => by
    have h1 := mergeT_len ws (putK kvs w.1 w.2)
    have h2 := length_putK kvs w.1 w.2
    show (mergeT (putK kvs w.1 w.2) ws).length ≤ kvs.length + (ws.length + 1)
    omega
theorem kt_all {H : Hp} : ∀ {ws : List (List Key × V)} {ys : List (List Key × Addr × Value)} {kvs : List (List Key × V)} {xs : List (List Key × Addr × Value)}, KT H ws ys → KT H kvs xs → KT H (mergeT kvs ws) (storedAllH xs ys)
  | [], ys, kvs, xs, r, q => by cases r; exact q
  | w :: ws, ys, kvs, xs, r, q => by
    cases r with
    | @cons _ y _ ys h t =>
      obtain ⟨h1, h2, h3⟩ := h
      have p := q.put w.1 h2 h3
      rw [h1] at p
      have ih := kt_all t p
      show KT H (mergeT (putK kvs w.1 w.2) ws) (storedAllH (storedH xs y.1 y.2.1 y.2.2) ys)
      rw [h1]
      exact ih
def rUpdT (P : Program) (w : World) : V → List V → Hp → VK → Prop := fun x vs H Q => ∃ (d o : Addr) (kvs ws : List (List Key × V)), x = .ref d ∧ vs = [.ref o] ∧ d ≠ o ∧ H d = some (.dT kvs) ∧ Rd H o (.dT ws) ∧ kvs.length + ws.length ≤ sizeLine ∧
  (kvs ≠ [] ∨ (ws.map fun kv => tupleKeyHash (mixKind P w) kv.1).Nodup) ∧ Q .non (upd H d (.dT (mergeT kvs ws)))
theorem mt_updT {X : Cx} (hu : X.A.units + 1 < cLine) : MtR X "dict.update" (rUpdT X.prog X.w) := by
  intro pins s σ H x xs v us Q I rx rv h
  obtain ⟨d, o, kvs, ws, rfl, rfl, hne, hd, ho, hz, hh, q⟩ := h
  obtain rfl : v = Value.ref d := rx
  obtain ⟨u, rfl, ru⟩ := rv.one
  obtain rfl : u = Value.ref o := ru
  obtain ⟨zd, sd, xs, rel, dd⟩ := dt_of I.hok hd
  obtain ⟨zo, so, ys, rel2, dd2⟩ := dt_rd I.hok ho
  have lx : xs.length = kvs.length := (Paired.length rel).symm
  have ly : ys.length = ws.length := (Paired.length rel2).symm
  have hk : (ys.map fun x => (tupleKind (mixKind X.prog X.w)).hash x.1) = ws.map fun kv => tupleKeyHash (mixKind X.prog X.w) kv.1 := by
    clear hh hz q dd2 zo ly ho
    induction rel2 with
    | nil => rfl
    | cons h t ih => rw [List.map_cons, List.map_cons, ih, h.1]; rfl
  have hty : ∀ x ∈ ys, s.TypeIs (.ref x.2.1) "tuple" := by
    obtain ⟨_, _, _, _, _, _, _, his, _⟩ := dd2
    intro x hx
    exact (his x hx).typeIs
  refine call_update_dictH (knd := tupleKind (mixKind X.prog X.w)) (tupleKind_room_in1 hu) hne so dd dd2 ?_ (by rw [lx, ly]; exact hz) fun h' d1 _ sb => ?_
  · rcases hh with z | z
    · refine .inl fun e => z ?_
      rw [e] at lx
      exact List.length_eq_zero_iff.mp lx.symm
    · exact .inr ⟨hty, by rw [hk]; exact z⟩
  · have hl : (mergeT kvs ws).length ≤ sizeLine := Nat.le_trans (mergeT_len ws kvs) hz
    have p := kt_all rel2 rel
    obtain ⟨qo, es, ep, hq, h2, h3, h4, _, h5⟩ := d1
    refine ⟨.non, upd H d (.dT (mergeT kvs ws)), d_write (t' := s.toks) I (by rw [hd]; exact True.intro) sb ⟨qo, hq⟩ (show ObjOk X.prog X.w _ _ _ (.dT (mergeT kvs ws)) from ⟨hl, sd, _, p.keeps fun c zs ec => ?_, qo, es, ep, hq, h2, h3, h4, h5⟩), rfl, q⟩
    rw [upd_ne (ne_of ec hd (fun z => nomatch z))]
    exact ec
theorem hash_nodup {P : Program} {w : World} {tab : List Str} : ∀ {ks : List (List Ky)} {ws : List (List Key × V)}, KsR (kysR tab) ks (ws.map (·.1)) → ks.Nodup → ks.all boxK = true → (ws.map fun kv => tupleKeyHash (mixKind P w) kv.1).Nodup
  | [], ws, h, _, _ => by
    have e : ws = [] := List.map_eq_nil_iff.mp h
    subst e
    exact List.nodup_nil
  | k :: ks, ws, h, hn, hb => by
    obtain ⟨kk, kr, e, r1, h2⟩ := h
    cases ws with
    | nil => cases e
    | cons w1 wr =>
      rw [List.map_cons, List.cons.injEq] at e
      obtain ⟨e1, e2⟩ := e
      subst e1 e2
      obtain ⟨hn1, hn2⟩ := List.nodup_cons.mp hn
      rw [List.all_cons, Bool.and_eq_true] at hb
      rw [List.map_cons, List.nodup_cons]
      refine ⟨fun m => ?_, hash_nodup h2 hn2 hb.2⟩
      obtain ⟨x, hx, ex⟩ := List.mem_map.mp m
      have go : ∀ {ks : List (List Ky)} {wr : List (List Key × V)}, KsR (kysR tab) ks (wr.map (·.1)) → x ∈ wr → ∃ k', k' ∈ ks ∧ kysR tab k' x.1 := by
        intro ks
        induction ks with
        | nil => intro wr h hx; have e : wr = [] := List.map_eq_nil_iff.mp h; subst e; cases hx
        | cons k0 ks ih =>
          intro wr h hx
          obtain ⟨q, qr, eq, rq, hq⟩ := h
          cases wr with
          | nil => cases hx
          | cons y wr =>
            rw [List.map_cons, List.cons.injEq] at eq
            obtain ⟨q1, q2⟩ := eq
            rcases List.mem_cons.mp hx with z | z
            · exact ⟨k0, List.mem_cons_self, by rw [z, q1]; exact rq⟩
            · obtain ⟨k', m', r'⟩ := ih (by rw [q2]; exact hq) z
              exact ⟨k', List.mem_cons_of_mem _ m', r'⟩
      obtain ⟨k', m', r'⟩ := go h2 hx
      have := hash_box r' r1 (List.all_eq_true.mp hb.2 k' m') hb.1 ex
      rw [this] at m'
      exact hn1 m'
section
variable {fx : Fx} {F : Addr → Prop} {μ : List Addr} {H : Hp}
theorem ks_puts {κ κ' : Type} [DecidableEq κ] [DecidableEq κ'] {R : κ → κ' → Prop} (inj : ∀ y y' k k', R y k → R y' k' → (k = k') = (y = y')) : ∀ {ks : List κ} {us : List T} {ws : List (κ' × V)} {ks0 : List κ} {ts : List T} {kvs : List (κ' × V)}, KsR R ks (ws.map (·.1)) → Reps fx F μ H us (ws.map (·.2)) → KsR R ks0 (kvs.map (·.1)) → Reps fx F μ H ts (kvs.map (·.2)) →
    KsR R (dPuts ks0 ts ks us).1 ((ws.foldl (fun acc kv => putK acc kv.1 kv.2) kvs).map (·.1)) ∧ Reps fx F μ H (dPuts ks0 ts ks us).2 ((ws.foldl (fun acc kv => putK acc kv.1 kv.2) kvs).map (·.2))
  | [], us, ws, ks0, ts, kvs, h1, h2, h3, h4 => by
    have e : ws = [] := List.map_eq_nil_iff.mp h1
    subst e
    unfold dPuts
    exact ⟨h3, h4⟩
  | k :: ks, [], ws, ks0, ts, kvs, h1, h2, h3, h4 => by
    rw [reps_nil] at h2
    have e : ws = [] := List.map_eq_nil_iff.mp h2
    subst e
    obtain ⟨q, qr, eq, _⟩ := h1
    cases eq
  | k :: ks, u :: us, ws, ks0, ts, kvs, h1, h2, h3, h4 => by
    obtain ⟨q, qr, eq, rq, hq⟩ := h1
    rw [reps_cons] at h2
    obtain ⟨v, vr, ev, rv, hv⟩ := h2
    cases ws with
    | nil => cases eq
    | cons w1 wr =>
      rw [List.map_cons, List.cons.injEq] at eq ev
      obtain ⟨q1, q2⟩ := eq
      obtain ⟨v1, v2⟩ := ev
      obtain ⟨p1, p2⟩ := ks_put inj (q1 ▸ rq) (v1 ▸ rv) h3 h4
      have ih := ks_puts (R := R) (ks := ks) (us := us) (ws := wr) inj (by rw [q2]; exact hq) (by rw [v2]; exact hv) p1 p2
      exact ih
end
section
variable {ax : Ax} {X : Cx} {cc : Cc} {Wx : WX}
theorem upd_end (g : Gx ax X cc Wx) {H0 : Hp} {B : (Addr → Prop) → List Addr → Hp → Prop} {F : Addr → Prop} {μ : List Addr} {H1 : Hp} {Γ : Env} {σ : L2.St} {st : St} {i : Nat} {t : T} {u : V} {D : Ends} {a : Addr} {N : L2.St → Hp → Prop} {ks0 : List (List Ky)} {ts : List T} (bs : Bs H0 B) (sl : Sl ax.fx H0 F μ Γ σ H1) (w : Wd ax.fx F μ H1 st) (hB : B F μ H1)
    (hi : Γ[i]? = some (some (true, .dT ks0 ts))) (hσ : σ[i]? = some (some (.ref a))) (rb : BRep ax.fx F μ H1 t u) (hne : u ≠ .ref a) (k : fpost (updAt Γ st i t) (nxK ax H0 B F μ H1 N) (rtK ax H0 B D.rt) (xcK ax Wx B)) : rUpdT X.prog X.w (.ref a) [u] H1 (fun _ H' => N σ H') := by
  cases t <;> first
    | exact k.elim
    | skip
  rename_i ks us
  obtain ⟨c, ws, ec, ncm, hc, r3, r4⟩ := rb
  subst ec
  unfold updAt at k
  rw [hi] at k
  dsimp only at k
  split at k
  · rename_i hz
    obtain ⟨hz, hh⟩ := hz
    obtain ⟨v', hσ', ro', n'⟩ := sl.ow i _ hi
    rw [hσ] at hσ'; cases hσ'
    obtain ⟨a', kvs', ea, nf', nm', ha', r1', r2'⟩ := ro'
    cases ea
    rw [kyssR_iff] at r1' r3
    have l1 := ks_len r1'
    have l2 := ks_len r3
    rw [List.length_map] at l1 l2
    obtain ⟨p1, p2⟩ := ks_puts (fun _ _ _ _ a c => kysR_inj g.bx.tab a c) r3 r4 r1' r2'
    have kp := Kp.app (o := .dT (mergeT kvs' ws)) (μ := μ) nf' ha' ⟨fun _ z => (nomatch z), fun _ _ z => (nomatch z)⟩
    have n0 : H0 a = none := by obtain ⟨c, ec, nc⟩ := n'; cases ec; exact nc
    refine ⟨a, c, kvs', ws, rfl, rfl, fun z => hne (by rw [z]), ha', hc, by rw [l1, l2]; exact szL hz, ?_, ?_⟩
    · rcases hh with z | ⟨z1, z2⟩
      · refine .inl fun e => z ?_
        rw [e] at l1
        exact List.length_eq_zero_iff.mp l1.symm
      · exact .inr (hash_nodup r3 z1 z2)
    · exact k σ _ F μ (sl.own_upd hi hσ nf' ha' ⟨fun _ z => (nomatch z), fun _ _ z => (nomatch z)⟩ ⟨a, _, rfl, nf', nm', upd_same, by rw [kyssR_iff]; exact p1, Reps.kp kp _ _ p2⟩) (w.app nf' nm' ha' ⟨fun _ z => (nomatch z), fun _ _ z => (nomatch z)⟩) (bs.own hB (by rw [ha']; exact fun z => nomatch z) n0 nf') kp
  · exact k.elim
/-- d.update(e) -/
theorem st_upd (g : Gx ax X cc Wx) {i : Nat} {x : Str} {e : E} {p : Expr} {p1 apos cpos pos : Pos} (hx : cc.vis i x = true) (hl : (apos.endLine == cpos.line) = true) (fp : okForm p = true) (he : PE X p (tM ax Wx false e)) (hv : ∀ j, e = .v j → PE X p (tVar j)) :
    PS X (.Expr (.Call (.Attribute (.Name x p1) "update" apos) [p] [] cpos) pos) (tSt ax Wx fun Γ st => if rcvT Γ i = true ∧ notV i e = true then (bor Γ st (evE ax.C e Γ st) e).f fun y => updAt Γ y.2.2 i y.2.1 else .bad) := by
  obtain ⟨h1, h2, h3, h4⟩ := g.vis hx
  by_cases hj : ∃ j, e = .v j
  · obtain ⟨j, rfl⟩ := hj
    refine (ps_expr (pe_bm PySem.F.plainAttrs_dict PySem.F.slot_dict_update PySem.F.type_dict_update (mt_updT g.bx.u1) (pe_var (i := i) h1 h2 h3 h4) (pa_cons (hv j rfl) pa_nil (form_star fp [] _)) (by rfl) (by rw [form_star fp]; rfl) hl (form_star fp [] _) (by rfl))).weak fun D σ H ⟨H0, B, F, μ, Γ, st, bs, sl, w, hB, q⟩ => ?_
    dsimp only at q
    split at q
    · rename_i hr
      obtain ⟨ks0, ts, hi⟩ := rcvT_shape hr.1
      have nij : j ≠ i := by simpa [notV] using hr.2
      obtain ⟨v, hσ, ro, n⟩ := sl.ow i _ hi
      obtain ⟨a, kvs, ea, nf, nm, ha, r1, r2⟩ := ro
      subst ea
      have q : fpost ((match rd Γ j with | some t => .ok (false, t, st) | none => .bad : X3).f fun y => updAt Γ y.2.2 i y.2.1) _ _ _ := q
      cases ej : rd Γ j with
      | none => rw [ej] at q; exact q.elim
      | some t =>
        rw [ej] at q
        obtain ⟨u, hu, rb⟩ := sl.rd w ej
        refine ⟨.ref a, hσ, .inr (.inr (.inl ⟨rfl, .inr ⟨kvs, ha⟩⟩)), u, hu, ?_⟩
        refine upd_end (D := D) g bs sl w hB hi hσ rb (fun z => ?_) q
        subst z
        unfold rd at ej
        split at ej
        · rename_i o t' e
          cases o with
          | true => exact sl.ap j i _ _ _ nij e hi hu hσ
          | false =>
            obtain ⟨v2, hv2, r⟩ := sl.kn j _ e
            rw [hu] at hv2; cases hv2
            cases ej
            cases t <;> first
              | exact q.elim
              | skip
            unfold Rep at r
            obtain ⟨c, _, ec, fc, _⟩ := r
            cases ec
            exact nf fc
        · cases ej
    · exact q.elim
  · have eb : ∀ Γ st, bor Γ st (evE ax.C e Γ st) e = evM ax false e Γ st := fun Γ st => by
      cases e <;> first
        | rfl
        | exact absurd ⟨_, rfl⟩ hj
    refine (ps_expr (pe_bm PySem.F.plainAttrs_dict PySem.F.slot_dict_update PySem.F.type_dict_update (mt_updT g.bx.u1) (pe_var (i := i) h1 h2 h3 h4) (pa_cons he pa_nil (form_star fp [] _)) (by rfl) (by rw [form_star fp]; rfl) hl (form_star fp [] _) (by rfl))).weak fun D σ H ⟨H0, B, F, μ, Γ, st, bs, sl, w, hB, q⟩ => ?_
    dsimp only at q
    split at q
    · rename_i hr
      obtain ⟨ks0, ts, hi⟩ := rcvT_shape hr.1
      obtain ⟨v, hσ, ro, n⟩ := sl.ow i _ hi
      obtain ⟨a, kvs, ea, nf, nm, ha, r1, r2⟩ := ro
      subst ea
      rw [eb] at q
      refine ⟨.ref a, hσ, .inr (.inr (.inl ⟨rfl, .inr ⟨kvs, ha⟩⟩)), ?_⟩
      refine inE (m := false) bs sl w hB (fpost_f q) fun y u H1 F1 μ1 k s1 w1 rm sl1 b1 => ?_
      have k : fpost (updAt Γ y.2.2 i y.2.1) (nxK ax H0 B F1 μ1 H1 D.nx) (rtK ax H0 B D.rt) (xcK ax Wx B) := fpost_imp k (fun _ _ z => z.kp (s1.kp w)) (fun _ _ _ z => z) fun _ _ _ z => z
      obtain ⟨o, t, s⟩ := y
      refine upd_end (D := D) g bs sl1 w1 b1 hi hσ (Res.b w1 rm) (fun z => ?_) k
      subst z
      have rm : Res ax.fx H F1 μ1 H1 o t (.ref a) := rm
      cases o with
      | true =>
        obtain ⟨_, c, ec, nc⟩ := rm
        cases ec
        rw [ha] at nc; cases nc
      | false =>
        have rm : Rep ax.fx F1 μ1 H1 t (.ref a) := rm
        cases t <;> first
          | exact k.elim
          | skip
        unfold Rep at rm
        obtain ⟨c, _, ec, fc, _⟩ := rm
        cases ec
        rcases s1.new _ fc with z | z
        · exact nf z
        · rw [ha] at z; cases z
    · exact q.elim
end
end Ev
end

section
set_option autoImplicit false
set_option linter.all false
set_option maxRecDepth 100000
set_option maxHeartbeats 1000000
/-! EvW: every statement. -/
namespace Ev
open PySem PySem.Spec PyProof.Rows L2
def isLc : Expr → Bool
  | .ListComp _ _ _ _ => true
  | _ => false
/-- name = [..]: on one line, the name a local that the block does not take -/
def swOk (cc : Cc) (y : Str) (py : Pos) (v : Expr) : Bool :=
  match v with
  | .ListComp _ _ scope pos => decide (cc.sc.kind = .function) && decide (cc.sc.names.lookup y = some .local) && (py.line == pos.line) && !(scope.names.any fun (n, k) => n == y && (k == .local || k == .cell))
  | _ => true
/-- an exception is told a text of the table -/
def symArg : List E → Bool
  | [.c (.sym _)] => true
  | _ => false
theorem symArg_shape {es : List E} (h : symArg es = true) : ∃ n, es = [.c (.sym n)] := by
  unfold symArg at h
  split at h
  · exact ⟨_, rfl⟩
  · cases h
mutual
def chkS (cc : Cc) : S → Stmt → Bool
  | .asg g e, s => match s with
    | .Assign [.Name y py] v _ => chkG cc g (.Name y py) && swOk cc y py v && chkE cc e v
    | .Assign [.Tuple ts n py] v _ => chkG cc g (.Tuple ts n py) && (match v with
      | .Call _ _ _ _ => true
      | .Name _ _ => true
      | .Subscript _ _ _ => true
      | _ => false) && chkE cc e v
    | _ => false
  | .ret e, s => match s with
    | .Return (some p) _ => chkE cc e p
    | _ => false
  | .ex e, s => match s with
    | .Expr p _ => noLc p && chkE cc e p
    | _ => false
  | .ite c a b, s => match s with
    | .If p x y _ => chkE cc c p && chkSs cc a x && chkSs cc b y
    | _ => false
  | .for g it body, s => match s with
    | .For tg iter bd [] _ => chkI cc it iter tg && chkG cc g tg && chkSs cc body bd
    | _ => false
  | .while c body, s => match s with
    | .While p bd [] _ => chkE cc c p && chkSs cc body bd
    | _ => false
  | .app i e, s => match s with
    | .Expr (.Call (.Attribute (.Name x _) at_ apos) [p] [] cpos) _ => decide (at_ = "append") && cc.vis i x && (apos.endLine == cpos.line) && chkE cc e p
    | _ => false
  | .ext i e, s => match s with
    | .Expr (.Call (.Attribute (.Name x _) at_ apos) [p] [] cpos) _ => decide (at_ = "extend") && cc.vis i x && (apos.endLine == cpos.line) && chkE cc e p
    | _ => false
  | .upd i e, s => match s with
    | .Expr (.Call (.Attribute (.Name x _) at_ apos) [p] [] cpos) _ => decide (at_ = "update") && cc.vis i x && (apos.endLine == cpos.line) && chkE cc e p
    | _ => false
  | .set i k e, s => match s with
    | .Assign [.Subscript (.Name x _) p _] q _ => cc.vis i x && noLc q && chkE cc k p && chkE cc e q
    | _ => false
  | .fr _, _ => false
  | .raise c es, s => match s with
    | .Raise (some (.Call (.Name x _) [p] [] _)) none _ => decide (cc.rz[c]? = some x) && cc.gl x && chkEs cc es [p] && symArg es
    | _ => false
  | .never, _ => true
def chkSs (cc : Cc) : List S → List Stmt → Bool
  | [], ps => ps.isEmpty
  | s :: ss, ps => match s with
    | .fr _ => chkSs cc ss ps
    | s => match ps with
      | p :: ps => chkS cc s p && chkSs cc ss ps
      | [] => false
end
/-- where a statement stands -/
structure Gs (ax : Ax) (X : Cx) (cc : Cc) (Wx : WX) : Prop where
  g : Gx ax X cc Wx
  hp : PassesOwn (model X.prog X.w) X.A X.env X.xe
  rz : ∀ (c : Nat) x, cc.rz[c]? = some x → cc.gl x = true → ∃ C nm, ax.ex c = some (C, [nm]) ∧ ∀ (p : Expr) (p1 pos : Pos) (ta : TA), PA X [p] ta → okForm p = true →
    PMk X (.Call (.Name x p1) [p] [] pos) (fun σ H Q => ta σ H fun vs H1 => ∃ y : Str, vs = [.str y] ∧ y.length ≤ 1000 ∧ ∀ d, H1 d = none → Q (.ref C) (some d) (upd H1 d (.xd [(nm, .str y)])))
  tl : ∀ x ∈ ax.fx.tab, x.length ≤ 1000
section
variable {ax : Ax} {X : Cx} {cc : Cc} {Wx : WX}
theorem sw_lc (g : Gx ax X cc Wx) {y : Str} {py : Pos} {elt : Expr} {gs : List Comprehension} {scope : Scope} {pos : Pos} {l : Nat} (h : swOk cc y py (.ListComp elt gs scope pos) = true) :
    X.env.scope.names.lookup y = some .local ∧ swapsWith (.ListComp elt gs scope pos) (some (.Name y py)) l X.env = pure true := by
  unfold swOk at h
  simp only [Bool.and_eq_true, decide_eq_true_eq, Bool.not_eq_true'] at h
  obtain ⟨⟨⟨h1, h2⟩, h3⟩, h4⟩ := h
  rw [← g.hs] at h1 h2
  exact ⟨h2, sw_true h1 h2 h3 h4⟩
theorem evEs_len : ∀ (es : List E) (Γ : Env) (st : St) {K : (List T × St) → Prop} {x : Nat → List T → St → Prop}, (evEs ax.C es Γ st).post K x → (evEs ax.C es Γ st).post (fun y => y.1.length = es.length ∧ K y) x
  | [], Γ, st, K, x, h => ⟨rfl, h⟩
  | e :: es, Γ, st, K, x, h => by
    have h : R.post ((evE ax.C e Γ st).bind fun x => (evEs ax.C es Γ x.2.2).bind fun y => .ok (x.2.1 :: y.1, y.2) : R (List T × St)) K x := h
    show R.post ((evE ax.C e Γ st).bind fun x => (evEs ax.C es Γ x.2.2).bind fun y => .ok (x.2.1 :: y.1, y.2) : R (List T × St)) _ _
    rw [R.post_bind] at h ⊢
    refine R.post_imp h (fun y k => ?_) fun _ _ _ z => z
    rw [R.post_bind] at k ⊢
    exact R.post_imp (evEs_len es Γ _ k) (fun z k => ⟨by show z.1.length + 1 = _; rw [k.1]; rfl, k.2⟩) fun _ _ _ z => z
theorem st_raise (G : Gs ax X cc Wx) {c : Nat} {x : Str} {es : List E} {p : Expr} {p1 p2 pos : Pos} (hx : cc.rz[c]? = some x) (hgl : cc.gl x = true) (h : PA X [p] (tAs ax Wx es)) (fp : okForm p = true) (hsym : symArg es = true) :
    PS X (.Raise (some (.Call (.Name x p1) [p] [] p2)) none pos) (tSt ax Wx fun Γ st => (evEs ax.C es Γ st).f fun x => .exc c x.1 x.2) := by
  obtain ⟨C, nm, ec, mk⟩ := G.rz c x hx hgl
  refine (ps_raise G.g.bx.calm G.g.tk (mk p p1 p2 _ h fp)).weak fun D σ H ⟨H0, B, F, μ, Γ, st, bs, sl, w, hB, q⟩ => ?_
  obtain ⟨n, rfl⟩ := symArg_shape hsym
  have ee : evEs ax.C [.c (.sym n)] Γ st = .ok ([.sym n], st) := rfl
  have q := fpost_f q
  rw [ee] at q
  refine inAs (K := fun x => x = ([T.sym n], st) ∧ xcK ax Wx B c [T.sym n] st) bs sl w hB (by rw [ee]; exact ⟨rfl, q⟩) fun y vs H1 F1 μ1 k s1 w1 rs sl1 b1 => ?_
  obtain ⟨rfl, k⟩ := k
  have rs0 := rs
  rw [reps_cons] at rs
  obtain ⟨v, vr, ev, r1, r2⟩ := rs
  rw [reps_nil] at r2
  rw [rep_sym] at r1
  obtain ⟨y, hy, rfl⟩ := r1
  subst r2 ev
  refine ⟨y, rfl, G.tl y (List.mem_of_getElem? hy), fun d nd => ?_⟩
  exact k _ _ σ _ F1 μ1 (w1.lay nd) (bs.step b1 w1 (Step.lay nd)) ⟨C, [nm], ec, rfl, .inr ⟨d, [.str y], rfl, upd_same, rfl, Reps.kp (Kp.lay nd) _ _ rs0⟩⟩
end
section
variable {ax : Ax}
mutual
theorem sndS (W : Nat) : ∀ (s : S) {X : Cx} {cc : Cc} {Wx : WX} {py : Stmt}, Gs ax X cc Wx → chkS cc s py = true → PS X py (tSt ax Wx (evS ax.C W s))
  | .asg gt e, X, cc, Wx, py, G, h => by
    unfold chkS at h
    split at h
    · rename_i y py v pos
      simp only [Bool.and_eq_true] at h
      obtain ⟨⟨h1, h2⟩, h3⟩ := h
      cases gt with
      | t is => exact absurd h1 Bool.false_ne_true
      | n i =>
        obtain ⟨l1, l2, l3⟩ := G.g.loc h1
        refine st_asg i (e := e) ?_
        by_cases hlc : noLc v = true
        · exact ps_set G.g.nd l1 l2 (sndE e G.g h3).pe (sw_form (chk_form h3) hlc _ _ _) l3
        · cases v <;> first
            | exact absurd rfl hlc
            | skip
          rename_i elt gs scope lpos
          obtain ⟨hyl, hsw⟩ := sw_lc (l := pos.line) G.g h2
          cases e <;> first
            | (exfalso; revert h3; unfold chkE; first | exact Bool.false_ne_true | (simp [chkC]; done))
            | skip
          · unfold chkE at h3
            split at h3
            · rename_i own g' it c e' py' elt' tg iter ifs scope' pos' heq
              cases heq
              simp only [Bool.and_eq_true] at h3
              obtain ⟨⟨⟨⟨⟨k1, k2⟩, k3⟩, k4⟩, k5⟩, k6⟩ := h3
              refine set_comp G.g l1 hyl hsw k1 (sndI it true G.g k2) k3 (all_mem k4) (fun s H C cl fp => ?_) (fun s H C cl fp => (sndE e' (gx_blk G.g scope s H C cl fp) k6).pe) fun x => chkI_fold k2 _ x
              split at k5
              · split at k5
                · exact pts_true0
                · cases k5
              · exact pts_one (sndE c (gx_blk G.g scope s H C cl fp) k5).pt
              · cases k5
            · cases h3
          · unfold chkE at h3
            split at h3
            · rename_i own g' it own2 g2' it2 e' py' elt' tg iter tg2 iter2 scope' pos' heq
              cases heq
              simp only [Bool.and_eq_true] at h3
              obtain ⟨⟨⟨⟨⟨⟨⟨⟨⟨k1, k2⟩, k3⟩, k4⟩, k5⟩, k6⟩, k7⟩, k8⟩, k9⟩, k10⟩ := h3
              exact set_comp2 G.g l1 hyl hsw k1 (sndI it true G.g k2) k3 (all_mem k4) (all_mem k5) (fun s H C cl fp => sndI it2 false (gx_blk G.g scope s H C cl fp) k7) k8 (all_mem k9) k6 (fun s H C cl fp => (sndE e' (gx_blk G.g scope s H C cl fp) k10).pe) (fun x => chkI_fold k2 _ x)
                fun env x => chkI_fold k7 env x
            · cases h3
          · refine ps_never.weak fun D σ H ⟨H0, F, μ, Γ, st, sl, w, q⟩ => ?_
            exact q
    · rename_i ts n py v pos
      simp only [Bool.and_eq_true] at h
      obtain ⟨⟨h1, h2⟩, h3⟩ := h
      cases gt with
      | n i => exact absurd h1 Bool.false_ne_true
      | t is =>
        refine st_asgT (is := is) (e := e) ?_
        have hn : noLc v = true := by
          cases v <;> first
            | rfl
            | exact absurd h2 Bool.false_ne_true
        have hw : swappedStores [.Tuple ts n py] v X.env = pure none := by
          cases v <;> first
            | rfl
            | exact absurd h2 Bool.false_ne_true
        exact ps_asg (sndE e G.g h3).pe (pg_all G.g h1) (show swapsWith v (some (.Tuple ts n py)) pos.line X.env = pure false from sw_form (chk_form h3) hn _ _ _) hw
    · cases h
  | .ret e, X, cc, Wx, py, G, h => by
    unfold chkS at h
    split at h
    · refine st_ret (sndE e G.g h).pe fun i ei => ?_
      subst ei
      unfold chkE at h
      split at h
      · obtain ⟨h1, h2, h3, h4⟩ := G.g.vis h
        exact pe_var h1 h2 h3 h4
      · cases h
    · cases h
  | .ex e, X, cc, Wx, py, G, h => by
    unfold chkS at h
    split at h
    · obtain ⟨h1, h2⟩ := Bool.and_eq_true_iff.mp h
      exact st_ex (ps_expr (sndE e G.g h2).pe (sw_form (chk_form h2) h1 _ _ _))
    · cases h
  | .ite c a b, X, cc, Wx, py, G, h => by
    unfold chkS at h
    split at h
    · simp only [Bool.and_eq_true] at h
      obtain ⟨⟨h1, h2⟩, h3⟩ := h
      exact st_if (sndE c G.g h1).pt (sndSs W a G h2) (sndSs W b G h3)
    · cases h
  | .for gt it body, X, cc, Wx, py, G, h => by
    unfold chkS at h
    split at h
    · simp only [Bool.and_eq_true] at h
      obtain ⟨⟨h1, h2⟩, h3⟩ := h
      exact st_for G.g G.hp (sndI it false G.g h1) h2 (sndSs W body G h3) (fun x => chkI_fold h1 _ x)
    · cases h
  | .while c body, X, cc, Wx, py, G, h => by
    unfold chkS at h
    split at h
    · obtain ⟨h1, h2⟩ := Bool.and_eq_true_iff.mp h
      exact st_while G.hp W (sndE c G.g h1).pt (sndSs W body G h2)
    · cases h
  | .app i e, X, cc, Wx, py, G, h => by
    unfold chkS at h
    split at h
    · simp only [Bool.and_eq_true, decide_eq_true_eq] at h
      obtain ⟨⟨⟨h1, h2⟩, h3⟩, h4⟩ := h
      subst h1
      exact st_app G.g h2 h3 (chk_form h4) (sndE e G.g h4).pe
    · cases h
  | .ext i e, X, cc, Wx, py, G, h => by
    unfold chkS at h
    split at h
    · simp only [Bool.and_eq_true, decide_eq_true_eq] at h
      obtain ⟨⟨⟨h1, h2⟩, h3⟩, h4⟩ := h
      subst h1
      exact st_ext G.g h2 h3 (chk_form h4) (sndE e G.g h4).pe
    · cases h
  | .upd i e, X, cc, Wx, py, G, h => by
    unfold chkS at h
    split at h
    · simp only [Bool.and_eq_true, decide_eq_true_eq] at h
      obtain ⟨⟨⟨h1, h2⟩, h3⟩, h4⟩ := h
      subst h1
      refine st_upd G.g h2 h3 (chk_form h4) (sndE e G.g h4).pe fun j ej => ?_
      subst ej
      unfold chkE at h4
      split at h4
      · obtain ⟨k1, k2, k3, k4⟩ := G.g.vis h4
        exact pe_var k1 k2 k3 k4
      · cases h4
    · cases h
  | .set i k e, X, cc, Wx, py, G, h => by
    unfold chkS at h
    split at h
    · simp only [Bool.and_eq_true] at h
      obtain ⟨⟨⟨h1, h2⟩, h3⟩, h4⟩ := h
      exact st_set G.g h1 (chk_form h3) (chk_form h4) h2 (sndE k G.g h3).pe (sndE e G.g h4).pe
    · cases h
  | .fr is, X, cc, Wx, py, G, h => by
    unfold chkS at h
    cases h
  | .raise c es, X, cc, Wx, py, G, h => by
    unfold chkS at h
    split at h
    · rename_i x p1 p p2 pos
      simp only [Bool.and_eq_true, decide_eq_true_eq] at h
      obtain ⟨⟨⟨h1, h0⟩, h2⟩, h3⟩ := h
      have hh : okForm p = true := by
        cases es with
        | nil => unfold chkEs at h2; cases h2
        | cons e es =>
          unfold chkEs at h2
          obtain ⟨k1, k2⟩ := Bool.and_eq_true_iff.mp h2
          exact chk_form k1
      exact st_raise G h1 h0 (sndEs es G.g h2) hh h3
    · cases h
  | .never, X, cc, Wx, py, G, h => st_never fun _ _ => rfl
theorem sndSs (W : Nat) : ∀ (ss : List S) {X : Cx} {cc : Cc} {Wx : WX} {ps : List Stmt}, Gs ax X cc Wx → chkSs cc ss ps = true → PSs X ps (tSt ax Wx (evSs ax.C W ss))
  | [], X, cc, Wx, ps, G, h => by
    unfold chkSs at h
    cases ps with
    | nil => exact st_nil
    | cons p ps => cases h
  | s :: ss, X, cc, Wx, ps, G, h => by
    by_cases hf : ∃ is, s = .fr is
    · obtain ⟨is, rfl⟩ := hf
      unfold chkSs at h
      exact st_fr (sndSs W ss G h)
    · cases ps with
      | nil =>
        exfalso
        cases s <;> first
          | (unfold chkSs at h; exact Bool.false_ne_true h)
          | exact hf ⟨_, rfl⟩
      | cons p ps =>
        have h2 : chkS cc s p = true ∧ chkSs cc ss ps = true := by
          cases s <;> first
            | (unfold chkSs at h; exact Bool.and_eq_true_iff.mp h)
            | exact absurd ⟨_, rfl⟩ hf
        exact st_cons (sndS W s G h2.1) (sndSs W ss G h2.2)
end
end
end Ev
end

section
set_option autoImplicit false
set_option linter.all false
set_option maxRecDepth 100000
set_option maxHeartbeats 1000000
/-! EvX: every def. -/
namespace Ev
open PySem PySem.Spec PyProof.Rows L2
/-- the names' checker for a def of the text -/
def ccOf (fns : List Str) (cons : List (Str × Int)) (tab rz N : List Str) (sc : Scope) : Cc := ⟨N, sc, fns, cons, tab, rz, fun _ => true⟩
section
variable (P0 : Program) (w : World) (K : PySem.W.Frag) (mg : Str → Option Value) (base : Heap)
/-- a program in the small language against the text -/
structure Pg where
  P : Nat → Df
  fns : List Str
  cons : List (Str × Int)
  tab : List Str
  rz : List Str
  W : Nat
def Pg.ax (G : Pg) (ex : Nat → Option (Addr × List Str)) (d : Nat) : Ax := ⟨⟨K, G.tab⟩, ex, callD G.P G.W d⟩
/-- what every def of the program keeps, at depth d -/
def Pg.All (G : Pg) (ex : Nat → Option (Addr × List Str)) (d : Nat) : Prop := ∀ (f : Nat) x, G.fns[f]? = some x → ∃ a fd ps, mg x = some (.ref a) ∧ PySem.W.keepIn K (.ref a) = true ∧ Binds K fd ps [] ∧
  FnOk P0 w K mg base (L2.CX P0 w) (d + 3) a fd ps (spC (G.ax K ex d) f ps.length) ∧ ∀ ts st, ts.length ≠ ps.length → callD G.P G.W d f ts st = .bad
/-- the text holds what the small program says -/
structure Pg.Ok (G : Pg) (ex : Nat → Option (Addr × List Str)) : Prop where
  tab : TabOk G.tab
  free : ∀ x ∈ blt, mg x = none
  cons : ∀ x n, (x, n) ∈ G.cons → ∃ t, mg x = some (.int n t)
  rz : ∀ (c : Nat) x, G.rz[c]? = some x → ∃ C nm, ex c = some (C, [nm]) ∧ ∀ (X : Cx), X.prog = P0 → X.w = w → X.K = K → X.mg = mg → X.base = base → X.calm = true → Room 3 X.A → Gl X x → (x == ("__debug__" : Str)) = false →
    ∀ (p : Expr) (p1 pos : Pos) (ta : TA), PA X [p] ta → okForm p = true → PMk X (.Call (.Name x p1) [p] [] pos) (fun σ H Q => ta σ H fun vs H1 => ∃ y : Str, vs = [.str y] ∧ y.length ≤ 1000 ∧ ∀ d, H1 d = none → Q (.ref C) (some d) (upd H1 d (.xd [(nm, .str y)])))
  len : ∀ x ∈ G.tab, x.length ≤ 1000
  fns : ∀ (f : Nat) x, G.fns[f]? = some x → ∃ a fd ps, mg x = some (.ref a) ∧ PySem.W.keepIn K (.ref a) = true ∧ Binds K fd ps [] ∧ (match G.P f with
    | .ir d => ∃ st N y q, Fun K y q st a fd ∧ FnScope N ps (defScope st) ∧ N.length = d.nl ∧ ps.length = d.np ∧ chkSs (ccOf G.fns G.cons G.tab G.rz N (defScope st)) d.body (defBody st) = true
    | .nat g => (∀ C ts st, ts.length ≠ ps.length → g C ts st = .bad) ∧ ∀ d, G.All P0 w K mg base ex d → FnOk P0 w K mg base (L2.CX P0 w) (d + 4) a fd ps (spC (G.ax K ex (d + 1)) f ps.length)
    | .no => True)
end
section
variable {P0 : Program} {w : World} {K : PySem.W.Frag} {mg : Str → Option Value} {base : Heap}
theorem start_sl {fx : Fx} {H : Hp} {F : Addr → Prop} {μ : List Addr} {N : List Str} {ts : List T} {vs : List V} (r : Reps fx F μ H ts vs) : Sl fx H F μ (startE N.length ts) (L2.start N vs) H := by
  have hl := r.len
  have at1 : ∀ (i : Nat) x, (startE N.length ts)[i]? = some (some x) → ∃ t, ts[i]? = some t ∧ x = (false, t) := fun i x h => by
    unfold startE at h
    by_cases hi : i < ts.length
    · rw [List.getElem?_append_left (by rw [List.length_map]; exact hi), List.getElem?_map, List.getElem?_eq_getElem hi] at h
      exact ⟨_, List.getElem?_eq_getElem hi, (Option.some.inj (Option.some.inj h)).symm⟩
    · rw [List.getElem?_append_right (by rw [List.length_map]; omega)] at h
      rw [List.getElem?_replicate] at h
      split at h <;> cases h
  refine ⟨?_, fun i t h => ?_, fun i t h => ?_, fun i j t u v n h1 h2 => ?_⟩
  · unfold startE L2.start
    rw [List.length_append, List.length_append, List.length_map, List.length_map, List.length_replicate, List.length_replicate, hl]
  · obtain ⟨t', e, ex⟩ := at1 i _ h
    cases ex
    obtain ⟨v, e2, rv⟩ := r.get e
    refine ⟨v, ?_, rv⟩
    unfold L2.start
    rw [List.getElem?_append_left (by rw [List.length_map]; exact (List.getElem?_eq_some_iff.mp e2).1), List.getElem?_map, e2]
    rfl
  · obtain ⟨t', e, ex⟩ := at1 i _ h
    cases ex
  · obtain ⟨t', e, ex⟩ := at1 i _ h1
    cases ex
theorem Pg.irOk {G : Pg} {ex : Nat → Option (Addr × List Str)} (ok : G.Ok P0 w K mg base ex) {d : Nat} (ih : G.All P0 w K mg base ex d) {f a : Nat} {fd : FuncData} {N ps : List Str} {df : Fd} {st : Stmt} {y qn : Str} (hf : G.P f = .ir df)
    (hF : Fun K y qn st a fd) (hS : FnScope N ps (defScope st)) (hN : N.length = df.nl) (hp : ps.length = df.np) (hc : chkSs (ccOf G.fns G.cons G.tab G.rz N (defScope st)) df.body (defBody st) = true) :
    FnOk P0 w K mg base (L2.CX P0 w) (d + 1 + 3) a fd ps (spC (G.ax K ex (d + 1)) f ps.length) := by
  have e : ∀ ts st, callD G.P G.W (d + 1) f ts st = if ts.length = df.np then fin (evSs (callD G.P G.W d) G.W df.body (startE df.nl ts) st) else .bad := fun ts st => by unfold callD; rw [hf]
  refine hF.okX hS (fun vs H Q E ⟨F, μ, st, ts, _, r, hl, q⟩ => by rw [r.len, hl]) fun cdv A outer s H vs Q E hr hsp => ?_
  generalize hX : cxOf (L2.CX P0 w) P0 w K mg base N qn (defScope st) a cdv A outer s H E = X
  have XP : X.prog = P0 := by rw [← hX]; rfl
  have Xw : X.w = w := by rw [← hX]; rfl
  have XK : X.K = K := by rw [← hX]; rfl
  have Xm : X.mg = mg := by rw [← hX]; rfl
  have Xb : X.base = base := by rw [← hX]; rfl
  have XA : Room (d + 3) X.A := by rw [← hX]; exact hr
  have g : Gx (G.ax K ex d) X (ccOf G.fns G.cons G.tab G.rz N (defScope st)) (fun cls d _ H => E cls d H) := {
    bx := ⟨by rw [← hX]; rfl, XK, ok.tab, by have := XA.un; omega⟩
    hN := by rw [← hX]; rfl
    hs := by rw [← hX]; rfl
    hf := by rw [← hX]; rfl
    nd := by rw [← hX]; exact hS.nd
    ht := rfl
    free := by rw [Xm]; exact ok.free
    cons := by rw [Xm]; exact ok.cons
    fns := fun f' x' hx' => by
      obtain ⟨a', fd', ps', q1, q2, q3, q4, q5⟩ := ih f' x' hx'
      refine ⟨a', fd', ps', d + 3, by rw [Xm]; exact q1, by rw [XK]; exact q2, by rw [XK]; exact q3, XA, ?_, q5⟩
      rw [XP, Xw, XK, Xm, Xb]
      exact q4
    tk := by rw [← hX]; exact takes_of rfl rfl rfl rfl }
  have GS : Gs (G.ax K ex d) X (ccOf G.fns G.cons G.tab G.rz N (defScope st)) (fun cls d _ H => E cls d H) := ⟨g, by rw [← hX]; exact passes_of rfl, fun c y hy hgl => by
    obtain ⟨C, nm, q1, q2⟩ := ok.rz c y hy
    obtain ⟨g1, g2, _⟩ := g.gl hgl
    exact ⟨C, nm, q1, fun p p1 pos ta hA hfm => q2 X XP Xw XK Xm Xb (by rw [← hX]; rfl) (XA.mono (Nat.le_add_left 3 d)) g1 g2 p p1 pos ta hA hfm⟩, ok.len⟩
  refine ⟨_, sndSs G.W df.body GS hc, ?_⟩
  obtain ⟨F, μ, st0, ts, wd, r, hl, q⟩ := hsp
  have q : R.post (callD G.P G.W (d + 1) f ts st0) _ _ := q
  rw [e, if_pos (by rw [hl, hp])] at q
  refine ⟨H, fun F' μ' H' => Step F μ H F' μ' H', F, μ, startE df.nl ts, st0, bs_step F μ H, by rw [← hN]; exact start_sl r, wd, Step.refl F μ H, ?_⟩
  show fpost (evSs (callD G.P G.W d) G.W df.body (startE df.nl ts) st0) _ _ _
  cases z : evSs (callD G.P G.W d) G.W df.body (startE df.nl ts) st0 with
  | nx Γ' st' =>
    rw [z] at q
    exact fun σ' H' F' μ' _ w' b' _ => q .non H' F' μ' b' w' (Res.kn (by rw [rep_non]))
  | ret o t st' =>
    rw [z] at q
    exact fun v H' F' μ' w' b' r' => q v H' F' μ' b' w' r'
  | exc c fs st' =>
    rw [z] at q
    exact fun cls dd σ' H' F' μ' w' b' x' => q cls dd H' F' μ' b' w' x'
  | bad => rw [z] at q; exact q.elim
theorem Pg.step {G : Pg} {ex : Nat → Option (Addr × List Str)} (ok : G.Ok P0 w K mg base ex) (d : Nat) (ih : G.All P0 w K mg base ex d) : G.All P0 w K mg base ex (d + 1) := by
  intro f x hx
  obtain ⟨a, fd, ps, h1, h2, h3', h4⟩ := ok.fns f x hx
  refine ⟨a, fd, ps, h1, h2, h3', ?_⟩
  cases hf : G.P f with
  | no =>
    have e : ∀ ts st, callD G.P G.W (d + 1) f ts st = .bad := fun ts st => by unfold callD; rw [hf]
    refine ⟨⟨fun vs H Q E ⟨F, μ, st, ts, _, r, hl, q⟩ => by rw [r.len, hl], fun A outer s H args us vs Q E _ _ _ _ ⟨F, μ, st, ts, _, r, hl, q⟩ => ?_⟩, fun ts st _ => e ts st⟩
    have q : R.post (callD G.P G.W (d + 1) f ts st) _ _ := q
    rw [e] at q
    exact q.elim
  | nat g =>
    rw [hf] at h4
    exact ⟨h4.2 d ih, fun ts st n => by unfold callD; rw [hf]; exact h4.1 _ ts st n⟩
  | ir df =>
    rw [hf] at h4
    obtain ⟨st, N, y, qn, hF, hS, hN, hp, hc⟩ := h4
    exact ⟨Pg.irOk ok ih hf hF hS hN hp hc, fun ts st n => by unfold callD; rw [hf]; exact if_neg (by rw [← hp]; exact n)⟩
theorem Pg.zero {G : Pg} {ex : Nat → Option (Addr × List Str)} (ok : G.Ok P0 w K mg base ex) : G.All P0 w K mg base ex 0 := by
  intro f x hx
  obtain ⟨a, fd, ps, h1, h2, h3, _⟩ := ok.fns f x hx
  refine ⟨a, fd, ps, h1, h2, h3, ⟨fun vs H Q E ⟨F, μ, st, ts, _, r, hl, q⟩ => by rw [r.len, hl], fun A outer s H args us vs Q E _ _ _ _ ⟨F, μ, st, ts, _, r, hl, q⟩ => ?_⟩, fun ts st _ => rfl⟩
  exact q.elim
theorem Pg.all {G : Pg} {ex : Nat → Option (Addr × List Str)} (ok : G.Ok P0 w K mg base ex) : ∀ d, G.All P0 w K mg base ex d
  | 0 => Pg.zero ok
  | d + 1 => Pg.step ok d (Pg.all ok d)
end
end Ev
end

section
set_option Elab.async false
set_option autoImplicit false
set_option linter.all false
set_option maxRecDepth 100000
set_option maxHeartbeats 4000000
/-! EvNf: an own exception over an own class over ValueError: its __init__ keeps a text and says super().__init__ of an f-string. -/
namespace PySem
namespace NfX
open PySem.W PySem.Calls PyProof.Rows PySem.HandSPX
structure Ps where
  p1 : Pos
  p2 : Pos
  q1 : Pos
  q2 : Pos
  q3 : Pos
  q4 : Pos
  r1 : Pos
  r2 : Pos
  r3 : Pos
  r4 : Pos
  r5 : Pos
  r6 : Pos
  r7 : Pos
  r8 : Pos
  r9 : Pos
/-- where it stands in this text -/
def p0 : Ps := ⟨⟨144, 17, 144, 21⟩, ⟨144, 23, 144, 27⟩, ⟨145, 8, 145, 12⟩, ⟨145, 8, 145, 17⟩, ⟨145, 20, 145, 24⟩, ⟨145, 8, 145, 24⟩, ⟨146, 8, 146, 13⟩, ⟨146, 8, 146, 15⟩, ⟨146, 8, 146, 24⟩, ⟨146, 27, 146, 46⟩, ⟨146, 47, 146, 51⟩, ⟨146, 46, 146, 52⟩, ⟨146, 25, 146, 53⟩, ⟨146, 8, 146, 54⟩, ⟨146, 8, 146, 54⟩⟩
def iA (p : Ps) : Arguments := { posonlyargs := [], args := [{ arg := "self", annotation := none, pos := p.p1 }, { arg := "word", annotation := none, pos := p.p2 }], vararg := none, kwonlyargs := [], kw_defaults := [], kwarg := none, defaults := [] }
def iB (p : Ps) : List Stmt := [.Assign [.Attribute (.Name "self" p.q1) "word" p.q2] (.Name "word" p.q3) p.q4,
  .Expr (.Call (.Attribute (.Call (.Name "super" p.r1) [] [] p.r2) "__init__" p.r3) [.JoinedStr [.Constant (.str "this does not fit: ") 0 p.r4, .FormattedValue (.Name "word" p.r5) (-1) none p.r6] p.r7] [] p.r8) p.r9]
def iS : Scope := { kind := .function, names := [(PySem.Str.ofString "self", .local), (PySem.Str.ofString "word", .local), (PySem.Str.ofString "__class__", .free), (PySem.Str.ofString "super", .globalImplicit)], isGenerator := false, isCoroutine := false, more := [] }
/-- what the written part says of the class at C, and of its __init__, at fI -/
structure Txt (prog : Program) (K : Frag) (mg : Str → Option Value) (C fI : Addr) : Prop where
  gC : mg "NotFit" = some (.ref C)
  gS : mg "super" = none
  cls : ∃ nm q N bs bm sn sub ab col dd k0 k1 k2 k3 k5, K.lookup C = some (excClassObj nm q C N bs bm true sn sub ab col dd k0 k1 k2 k3 k5 "ValueError.__new__") ∧ refsVE bm = true ∧ alongIn K "__init__" bm = some (some (.builtin "ValueError.__init__"))
  sa : findIn K (.ref C) "__setattr__" = some (some (.builtin "object.__setattr__"))
  ga : findIn K (.ref C) "__getattribute__" = some (some (.builtin "BaseException.__getattribute__"))
  gg : findIn K (.ref C) "__getattr__" = some none
  noN : findIn K (.ref C) "word" = some none
  iC : findIn K (.ref C) "__init__" = some (some (.ref fI))
  tC : typeIn K (.ref fI) = some (.type "function")
  kC : keepIn K (.ref C) = true
  exC : subIn K (.ref C) (.type "BaseException") = some true
  vC : subIn K (.ref C) (.type "ValueError") = some true
  mC : mroIn K C (.ref C) = some true
  op : nsIn K cStatics "thirdparty.any" = some none
  tyC : typeIn K (.ref C) = some (.type "type")
  hdC : hasDictIn K C = true
  htop : (prog.main.scope.names.lookup ("super" : Str)).isSome = false
  fn : ∃ (oc : Value) (od : Option Addr) (doc pm : Value) (an : Option Addr) (cda cc : Addr) (ct : Value) (osl : Array (Option Value)) (ccl cl : Value) (cdd cld : Option Addr) (vs : Array Value) (ccs csl : Array (Option Value)) (file : Str) (tf : Tok),
    K.lookup fI = some ⟨oc, od, .func (ksFn "__init__" "NotFit.__init__" (iA p0) (iB p0) iS .none .none doc pm an (.ref cda) ct cc), osl⟩ ∧ codeIn K (.ref cda) "NotFit.__init__" = true ∧
    K.lookup cda = some ⟨ccl, cdd, .fields vs, ccs⟩ ∧ vs[2]? = some (.str file tf) ∧ ((prog.main.file : Str) == file) = true ∧ K.lookup cc = some ⟨cl, cld, .cell (some (.ref C)), csl⟩
theorem one_size (v : Value) : [v].length ≤ sizeLine := by
  rw [sizeLine_eq]
  exact (by decide : 1 ≤ 16777216)
structure InitEnd (h h' : Heap) (x C dx : Addr) (v : Value) : Prop where
  keep : ∀ b o, b ≠ x → h.get? b = some o → h'.get? b = some o
  obj : ∃ t1, h'.get? x = some { cls := .ref C, dict := some dx, data := .fields #[.ref t1, .none, .none, .none, .bool false, .none] }
  dbig : h.objs.size ≤ dx
  dne : dx ≠ x
  ns : h'.Ns1 dx (fun y => if y = "word" then some v else none)
section
variable {prog : Program} {w : World} {A : Around} {E : Value → Shared → Prop} {R : Result → Shared → Prop} {s : Shared} {K : Frag} {mg : Str → Option Value} {C fI : Addr}
theorem ldE {M : Model} {s : Shared} {env : PySem.Env} {m : Str → Option Value} {x : Str} {pos : Pos} {v : Value} {Q : Value → Shared → Prop} {A : Around} {E : Value → Shared → Prop} (hn : s.heap.Ns env.locals m) (hv : m x = some v) (h : Q v s)
    (hk : env.scope.kind = .function) (hl : env.kindOf x = some .local) (hd : (x == ("__debug__" : Str)) = false) : wpAny M A (eval (.Name x pos) env) Q E s := wpAny_Name (wpAny_loadName_local hk hl hn hv h) hd
/-- the built-in __init__ bound to x is called -/
theorem call_mw {h : Heap} {g : Array GenState} {d : Drawn} {t : Nat} {os : OsState} {nm q : Str} {N : Addr} {bs bm : List Value} {hdct : Bool} {sn : List Str} {sub : List Value} {ab : Bool} {col : Option Bool} {dd : Option Addr} {k0 k1 k2 k3 k5 : Option Value} {u x t0 : Addr} {dv : Option Addr} {rest : List Value} {Q : Value → Shared → Prop}
    (hC : h.get? C = some (excClassObj nm q C N bs bm hdct sn sub ab col dd k0 k1 k2 k3 k5 "ValueError.__new__")) (hu : h.get? u = some (kxs_mw "ValueError.__init__" x)) (he : h.get? x = some (excObj C t0 dv .none)) (hz : rest.length ≤ sizeLine)
    (hq : ∀ h' t1, (∀ b o, b ≠ x → h.get? b = some o → h'.get? b = some o) → h'.get? x = some (excObj C t1 dv .none) → Q .none ⟨h', g, d, t, os⟩) :
    wpAny (model prog w) A (call (.ref u) rest) Q E ⟨h, g, d, t, os⟩ := by
  have FB := F.excBase_ValueError
  refine wpAny_call (codeAny_of_tree ?_)
  show wpAny _ A.in1 (callAny (.ref u) ⟨rest, []⟩) _ _ _
  simp only [callAny]
  refine wpAny_bind (wpAny_load hu ?_)
  simp only [kxs_mw, show (Value.type "method-wrapper" == Value.type "method" || Value.type "method-wrapper" == Value.type "builtin_function_or_method" || Value.type "method-wrapper" == Value.type "method-wrapper") = true by decide, if_true]
  refine KFB.if_so (by decide) ?_
  refine wpAny_bind (check_bound_init FB.toExcCallFacts hC he rfl ?_)
  refine wpAny_bind (wpAny_pure (wpAny_pure ?_))
  refine ⟨plainId_quiet FB.init.plain _, codeAny_builtin FB.initEntry ?_⟩
  exact exc_init_tree (cls := .ref C) (t0 := t0) (dv := dv) (c2 := .none) (c3 := .none) (b4 := .bool false) he hz fun h' k e' t' => hq h' _ k e'
theorem nf_init (T : Txt prog K mg C fI) {mb : Str → Option Value} {x t0 : Addr} {y : Str} {ty : Tok} (X : K.In s.heap) (hg : s.heap.Ns mainGlobals mg) (hb : s.heap.Ns builtinsNs mb) (hb2 : ∀ x : Str, x ≠ "__name__" → mb x = bootBuiltins x) (hlim : s.heap.NoLimit) (hy : y.length ≤ 1000) (hx : s.heap.get? x = some (excO C t0)) (hnx : K.lookup x = none) (gx : mainGlobals ≠ x) (bx : builtinsNs ≠ x) (hroom : A.depth < recursionLimit)
    (hq : ∀ h' tk dx, InitEnd s.heap h' x C dx (.str y ty) → R (.ok (.ret .none)) { s with heap := h', toks := tk }) :
    codeAny (model prog w) A (.call (.ref fI) ⟨[.ref x, .str y ty], []⟩) R s := by
  obtain ⟨oc, od, doc, pm, an, cda, cc, ct, osl, ccl, cl, cdd, cld, vs, ccs, csl, file, tf, ho, hcd, hcode, hvs, hfile, hcell⟩ := T.fn
  obtain ⟨nm, q, N, bs, bm, sn, sub, ab, col, dd, k0, k1, k2, k3, k5, hC, hbm, hal⟩ := T.cls
  have hcl : clsIn K C = some { name := nm, bases := bs, mro := .ref C :: bm, ns := N, qualname := q, hasDict := true, slotNames := sn, subclasses := sub, abstract := ab, collection := col, hasDel := false } := by unfold clsIn; rw [hC] <;> rfl
  have cel : ∀ z ∈ iS.names, z.2 ≠ NameKind.cell := by decide +kernel
  have loc : ∀ z ∈ ([("self", .ref x), ("word", .str y ty)] : List (Str × Value)), iS.names.lookup z.1 = some .local := fun z hz => by
    simp only [List.mem_cons, List.not_mem_nil, or_false] at hz
    rcases hz with rfl | rfl <;> first | rfl | kernel_rfl
  refine ks_codeAny_call_defAt (fd := ksFn "__init__" "NotFit.__init__" (iA p0) (iB p0) iS .none .none doc pm an (.ref cda) ct cc) (body := iB p0) (binds := [("self", .ref x), ("word", .str y ty)]) hroom (X _ _ ho) rfl hlim (codeRec_of X hcd) rfl (BindsTo.of_eq (by first | rfl | with_unfolding_all rfl)) cel loc (fun h₁ hns k => ?_) rfl rfl rfl
  have X₁ : K.In h₁ := X.keeps k
  have hx₁ := k _ _ hx
  refine ks_wpAt_execs_cons (wpAt_of_wpAny ?_)
  refine plainObj_wpAny_Assign_Attribute ?_
  refine ldE (v := .str y ty) hns (by first | rfl | with_unfolding_all rfl | kernel_rfl) (ldE (v := .ref x) hns (by first | rfl | with_unfolding_all rfl | kernel_rfl) ?_ rfl rfl (by decide)) rfl rfl (by decide)
  refine set_plain X₁ (ox := excO C t0) (od := none) ⟨hx₁, rfl, rfl, trivial⟩ T.sa ?_
  refine exc_osa X₁ hx₁ hcl (show refsVE (.ref C :: bm) = true from hbm) rfl T.noN (fun h₃ tk₃ dx k₃ dn dne hx₃ hn₃ => ?_)
  have hnsl := hns.lt
  have xlt := Heap.lt_size hx
  have kk : ∀ b o, b ≠ x → s.heap.get? b = some o → h₃.get? b = some o := fun b o hb e => k₃ b o hb (k b o e)
  have X₃ : K.In h₃ := fun a o e => k₃ a o (fun z => by rw [z, hnx] at e; cases e) (X₁ a o e)
  have hL : s.heap.objs.size ≠ x := Nat.ne_of_gt xlt
  have dL : dx ≠ s.heap.objs.size := Nat.ne_of_gt (Nat.lt_of_lt_of_le hnsl dn)
  have hns₃ : h₃.Ns s.heap.objs.size (fun z => List.lookup z [("word", Value.str y ty), ("self", .ref x)]) := by
    obtain ⟨oL, es, ep, e1, r⟩ := hns
    exact ⟨oL, es, ep, k₃ _ _ hL e1, r⟩
  have hg₃ : h₃.Ns mainGlobals mg := by
    obtain ⟨oL, es, ep, e1, r⟩ := hg
    exact ⟨oL, es, ep, kk _ _ gx e1, r⟩
  have hb₃ : h₃.Ns builtinsNs mb := by
    obtain ⟨oL, es, ep, e1, r⟩ := hb
    exact ⟨oL, es, ep, kk _ _ bx e1, r⟩
  refine ks_wpAt_execs_cons (ks_wpAt_Expr_any (ks_wpAt_MethodCall ?_))
  have hC₃ := X₃ _ _ hC
  have n1 : iS.names.lookup ("super" : Str) = some .globalImplicit := by decide +kernel
  have n2 : iS.names.lookup ("__class__" : Str) = some .free := by decide +kernel
  have n3 : iS.names.lookup ("self" : Str) = some .local := by decide +kernel
  have n4 : iS.names.lookup ("word" : Str) = some .local := by decide +kernel
  refine ks_wpAt_super_base (env := ksEnv "NotFit.__init__" iS s.heap.objs.size fI (.ref cda) cc) (ar := { arg := "self", annotation := none, pos := p0.p1 }) n1 n2 (by decide) rfl (X₃ _ _ ho) rfl rfl rfl (X₃ _ _ hcode) rfl hvs hfile T.htop ?_
  refine ks_loadName_global (env := ksEnv "NotFit.__init__" iS s.heap.objs.size fI (.ref cda) cc) rfl n1 (loadGlobal_builtin (env := ksEnv "NotFit.__init__" iS s.heap.objs.size fI (.ref cda) cc) hg₃ T.gS hb₃ ((hb2 _ (by decide)).trans (by first | boot_by_name | rfl | kernel_rfl)) ⟨rfl, ?_⟩)
  refine wpAny_loadName_free (env := ksEnv "NotFit.__init__" iS s.heap.objs.size fI (.ref cda) cc) rfl n2 rfl ⟨_, X₃ _ _ hcell, rfl⟩ ?_
  refine wpAny_loadName_local (env := ksEnv "NotFit.__init__" iS s.heap.objs.size fI (.ref cda) cc) rfl n3 hns₃ (v := .ref x) (by first | rfl | kernel_rfl) ?_
  refine ks_wpAny_isType_cls hC₃ rfl ⟨rfl, ?_⟩
  refine ks_wpAny_call_super hC₃ rfl hx₃ rfl (fun c e => nomatch e) (looks_mroIn X₃ T.mC) (fun h₄ e₄ k₄ => ?_)
  have X₄ : K.In h₄ := fun a o e => k₄ a o (X₃ a o e)
  have hx₄ := k₄ _ _ hx₃
  have hn₄ : h₄.Ns1 dx (fun z => if z = "word" then some (.str y ty) else none) := hn₃.at fun o q => k₄ _ _ q
  obtain ⟨od₄, hod, _⟩ := L2.lookIn_ns hn₄
  have I₄ : InstAt h₄ x { cls := .ref C, dict := some dx, data := .fields #[.ref t0, .none, .none, .none, .bool false, .none] } C (some od₄) := ⟨hx₄, rfl, rfl, hod⟩
  have hI : Looks (model prog w) h₄ (isInstance (.ref x) (.type "ValueError")) true := I₄.type.andThen (looks_subIn X₄ T.vC)
  have hxC : x ≠ C := fun z => by rw [z, hC] at hnx; cases hnx
  refine kxs_getMethod (so := _) (x := x) (C := C) (D := C) (l₀ := .ref C :: bm) (l := bm) kxs_ValueError e₄ (looks_opaque X₄ T.op) ((looks_clsIn X₄ hcl).andThen .now) (by simp [List.dropWhile_cons]) X₄ hal hI hxC (by decide) ?_
  have k₅ : ∀ b o, h₄.get? b = some o → (h₄.push (kxs_mw "ValueError.__init__" x)).get? b = some o := fun b o e => Heap.get?_push_of_some _ e
  have hu : (h₄.push (kxs_mw "ValueError.__init__" x)).get? h₄.objs.size = some (kxs_mw "ValueError.__init__" x) := Heap.get?_push_size _ rfl
  have hns₅ : (h₄.push (kxs_mw "ValueError.__init__" x)).Ns s.heap.objs.size (fun z => List.lookup z [("word", Value.str y ty), ("self", .ref x)]) := by
    obtain ⟨oL, es, ep, e1, r⟩ := hns₃
    exact ⟨oL, es, ep, k₅ _ _ (k₄ _ _ e1), r⟩
  have z1 : (Str.empty ++ ("this does not fit: " : Str)).length ≤ sizeLine := by rw [sizeLine_eq]; decide +kernel
  have z2 : ((Str.empty ++ ("this does not fit: " : Str)) ++ y).length ≤ sizeLine := by rw [strLen_append, sizeLine_eq]; have : (Str.empty ++ ("this does not fit: " : Str)).length = 19 := by decide +kernel
                                                                                        omega
  refine kxs_callWith (i := "ValueError.__init__") (x := x) rfl (evalArgs_plain (PyProof.Rows.args_cons (PyProof.Rows.JoinedStr_many (PyProof.Rows.joinParts_cons (Calls.Constant_str ⟨z1, PyProof.Rows.joinParts_cons (PyProof.Rows.FormattedValue_plain (ldE (env := ksEnv "NotFit.__init__" iS s.heap.objs.size fI (.ref cda) cc) hns₅ (v := .str y ty) (by first | rfl | with_unfolding_all rfl | kernel_rfl) ?_ rfl n4 (by decide)))⟩))) rfl))
  have z3 : y.length ≤ sizeLine := by rw [sizeLine_eq]; omega
  refine PyProof.Rows.formatField_str (fun t' tk' => ⟨z2, PyProof.Rows.joinParts_nil ?_ z2⟩) z3
  · refine PyProof.Rows.args_nil ⟨hu, ?_⟩
    refine call_mw (t0 := t0) (dv := some dx) (k₅ _ _ (k₄ _ _ hC₃)) hu (k₅ _ _ hx₄) (one_size _) fun h₆ t1 k₆ e₆ => ?_
    show wpAt _ _ _ (execs [] _) _ _ _
    refine wpAt_of_wpAny (wpAny_execs_nil (hq h₆ _ dx ⟨fun b o hb e => k₆ b o hb (k₅ b o (k₄ b o (kk b o hb e))), ⟨t1, e₆⟩, ?_, dne, ?_⟩))
    · exact Nat.le_of_lt (Nat.lt_of_lt_of_le hnsl dn)
    · exact hn₄.at fun o q => k₆ _ _ dne (k₅ _ _ q)
end
end NfX
end PySem
namespace PySem
namespace NfX
open PySem.W PySem.Calls PyProof.Rows PySem.HandSPX
structure OwnMade (h h' : Heap) (e C d : Addr) (v : Value) : Prop where
  keep : ∀ b o, h.get? b = some o → h'.get? b = some o
  new : h.objs.size ≤ e
  obj : ∃ oe vs, h'.get? e = some oe ∧ oe.cls = .ref C ∧ oe.dict = some d ∧ oe.data = .fields vs ∧ vs[1]? = some .none
  dbig : h.objs.size ≤ d
  dne : d ≠ e
  ns : h'.Ns1 d (fun y => if y = "word" then some v else none)
section
variable {prog : Program} {w : World} {A : Around} {E : Value → Shared → Prop} {R : Result → Shared → Prop} {s : Shared} {K : Frag} {mg : Str → Option Value} {C fI : Addr}
theorem nf_made (T : Txt prog K mg C fI) {mb : Str → Option Value} {y : Str} {ty : Tok} (X : K.In s.heap) (hg : s.heap.Ns mainGlobals mg) (hb : s.heap.Ns builtinsNs mb) (hb2 : ∀ x : Str, x ≠ "__name__" → mb x = bootBuiltins x) (hlim : s.heap.NoLimit) (hy : y.length ≤ 1000) (hroom : A.depth + 1 < recursionLimit)
    (hq : ∀ h' tk e d, OwnMade s.heap h' e C d (.str y ty) → R (.ok (.ret (.ref e))) { s with heap := h', toks := tk }) :
    codeAny (model prog w) A (.call (.ref C) ⟨[.str y ty], []⟩) R s := by
  obtain ⟨nm, q, N, bs, bm, sn, sub, ab, col, dd, k0, k1, k2, k3, k5, hC, hbm, _⟩ := T.cls
  obtain ⟨hp, g, dr, tk, os⟩ := s
  have k : ∀ b o, hp.get? b = some o → ((hp.push (kdv_tup [.str y ty])).push (excO C hp.objs.size)).get? b = some o := fun b o e => Heap.get?_push_of_some _ (Heap.get?_push_of_some _ e)
  have hget : ((hp.push (kdv_tup [.str y ty])).push (excO C hp.objs.size)).get? (hp.objs.size + 1) = some (excO C hp.objs.size) := by heap_get
  have hnx : K.lookup (hp.objs.size + 1) = none := by
    cases e : K.lookup (hp.objs.size + 1) with
    | none => rfl
    | some o =>
      have z : hp.get? (hp.objs.size + 1) = some o := X _ _ e
      exact absurd (Nat.lt_of_succ_lt (Heap.lt_size z)) (Nat.lt_irrefl _)
  have lt1 : mainGlobals ≠ hp.objs.size + 1 := Nat.ne_of_lt (Nat.lt_succ_of_lt hg.lt)
  have lt2 : builtinsNs ≠ hp.objs.size + 1 := Nat.ne_of_lt (Nat.lt_succ_of_lt hb.lt)
  have nsk : ∀ {L : Addr} {m : Str → Option Value}, hp.Ns L m → ((hp.push (kdv_tup [.str y ty])).push (excO C hp.objs.size)).Ns L m := fun ⟨oL, es, ep, e1, r⟩ => ⟨oL, es, ep, k _ _ e1, r⟩
  refine call_own F.excBase_ValueError (fun X => refsVE_contains X bm hbm) (X _ _ hC) (looks_findIn X T.iC) (fun self => bind_fn X self T.tC) (one_size (.str y ty)) ?_
  refine nf_init (s := ⟨(hp.push (kdv_tup [.str y ty])).push (excO C hp.objs.size), g, dr, tk, os⟩) T (X.keeps k) (nsk hg) (nsk hb) hb2 (hlim.keeps k) hy hget hnx lt1 lt2 ?_ fun h' tk' dx ⟨k', ⟨t1, hx⟩, dn, dne, hns⟩ => ?_
  · show A.depth + 1 < recursionLimit
    exact hroom
  · have old : ∀ b o, hp.get? b = some o → h'.get? b = some o := fun b o e => k' b o (Nat.ne_of_lt (Nat.lt_succ_of_lt (Heap.lt_size e))) (k b o e)
    have z : hp.objs.size + 1 + 1 ≤ dx := by
      first
        | (simpa only [Heap.size_push] using dn)
        | exact dn
        | (have q := dn; rw [Heap.size_push, Heap.size_push] at q; exact q)
    exact ⟨rfl, hq h' tk' (hp.objs.size + 1) dx ⟨old, Nat.le_succ _, ⟨_, _, hx, rfl, rfl, rfl, rfl⟩, Nat.le_trans (Nat.le_trans (Nat.le_succ _) (Nat.le_succ _)) z, dne, hns⟩⟩
end
end NfX
end PySem
namespace L2
open PySem PySem.Spec PyProof.Rows
theorem relO_nf {v : V} {v' : Value} (r : RelV v v') (f : Str) : RelO (List.lookup f [(("word" : Str), v)]) (if f = "word" then some v' else none) := by
  by_cases hw : f = "word"
  · subst hw
    rw [if_pos rfl]
    have q : List.lookup ("word" : Str) [(("word" : Str), v)] = some v := by simp [List.lookup]
    rw [q]
    exact r
  · rw [if_neg hw]
    have qw : (f == ("word" : Str)) = false := by simpa using hw
    have q2 : List.lookup f [(("word" : Str), v)] = none := by simp [List.lookup, qw]
    rw [q2]
    trivial
section
variable {X : Cx} {C fI : Addr}
/-- NotFit(e), e a text -/
def tMkNf (C : Addr) (ta : TA) : L2.St → Hp → XK → Prop := fun σ H Q => ta σ H fun vs H1 => ∃ y : Str, vs = [.str y] ∧ y.length ≤ 1000 ∧ ∀ d, H1 d = none → Q (.ref C) (some d) (upd H1 d (.xd [(("word" : Str), .str y)]))
theorem pmk_nf {a : Expr} {ta : TA} {p pos : Pos} {k : Nat} (T : PySem.NfX.Txt X.prog X.K X.mg C fI) (hr : Room k X.A) (ha : PA X [a] ta) (hg : Gl X "NotFit")
    (he : starEach (a :: []) X.env = (false, eval a X.env) :: starEach [] X.env := by rfl) (hpl : (backTo pos (starEach [] X.env)).any (·.1) = false := by rfl) :
    PMk X (.Call (.Name "NotFit" p) [a] [] pos) (tMkNf C ta) := by
  intro pins s σ H Q I h
  refine wpAny_Call_Name_kw (ld_glob I hg T.gC ?_)
  refine PySem.W.callWith_K (h₀ := X.base) I.ok.mod.kin T.kC (thn (ha.run pos pins s σ H _ I h) fun us s1 hh => ?_) he hpl
  obtain ⟨vs, H1, I1, r1, y, ev, hy, q1⟩ := hh
  subst ev
  refine ⟨I1.kIn, ?_⟩
  cases r1 with
  | cons rv rn =>
    rename_i v' us'
    cases rn
    obtain ⟨ty, rfl⟩ := rv
    show wpAny _ _ (call (.ref C) [.str y ty]) _ _ _
    have hlim := I1.nolimit
    obtain ⟨mb, h1, h2⟩ := I1.mod.blt
    have hgl := I1.mod.glob.keeps I1.bk
    have hbl := h1.keeps I1.bk
    obtain ⟨hp, g, dr, tk, os⟩ := s1
    refine wpAny_call (PySem.NfX.nf_made T I1.kIn hgl hbl h2 hlim hy (by have := hr.dp; omega) fun h' tk' e d M => ?_)
    show MkP X pins σ Q (.ref e) ⟨h', g, dr, tk', os⟩
    obtain ⟨oe, fv, hoe, hc, hd, hdat, h1⟩ := M.obj
    have hns := M.ns
    obtain ⟨G', g1, g2⟩ := restrict h' fun b => decide (b ≠ e)
    have gk : ∀ b, b ≠ e → G'.get? b = h'.get? b := fun b hb => g1 b (decide_eq_true hb)
    have ge : G'.get? e = none := g2 e (by simp)
    have old : ∀ b o, hp.get? b = some o → G'.get? b = some o := fun b o q => (gk b (Nat.ne_of_lt (Nat.lt_of_lt_of_le (Heap.lt_size q) M.new))).trans (M.keep b o q)
    have rv : RelV (.str y) (.str y ty) := ⟨ty, rfl⟩
    have ob : ObjOk X.prog X.w (upd H1 d (.xd [(("word" : Str), .str y)])) G' d (.xd [(("word" : Str), .str y)]) :=
      ⟨_, hns.at (fun o q => (gk d M.dne).trans q), fun f => relO_nf rv f⟩
    have J : Inv X pins σ (upd H1 d (.xd [(("word" : Str), .str y)])) ⟨G', g, dr, tk', os⟩ := I1.laid (t' := tk') old M.dbig ob
    refine ⟨e, oe, fv, ⟨G', g, dr, tk', os⟩, _, .ref C, some d, rfl, J, fun b o q => ?_, ge, hoe, ⟨hc, hd⟩, hdat, h1, ?_, rfl, I1.bare, raises_own T.exC T.tyC, q1 d (I1.hok.fresh M.dbig)⟩
    · by_cases hb : b = e
      · have q' : G'.get? b = some o := q
        rw [hb, ge] at q'; cases q'
      · exact (gk b hb).symm.trans q
    · rw [upd_ne (Ne.symm M.dne)]
      exact I1.hok.fresh M.new
/-- e.word, e the exception that the suite holds -/
def tWordNf (C : Addr) (a : Addr) (cls : Value) (d : Option Addr) (te : TE) : TE := fun σ H Q => te σ H fun x H1 => x = .ref a ∧ cls = .ref C ∧ ∃ (dd : Addr) (v : V), d = some dd ∧ H1 dd = some (.xd [(("word" : Str), v)]) ∧ Q v H1
theorem pe_wordNf {a : Addr} {oe : Obj} {cls : Value} {d : Option Addr} {pn : List (Addr × Obj)} {e : Expr} {te : TE} {pos : Pos} (T : PySem.NfX.Txt X.prog X.K X.mg C fI) (hz : Zc cls d oe) (hf : ∃ vs, oe.data = .fields vs) (he : PE (X.suite a ((a, oe) :: pn)) e te)
    (hb : attributeBase e "word" X.env (eval e X.env) = eval e X.env := by rfl) :
    PE (X.suite a ((a, oe) :: pn)) (.Attribute e "word" pos) (tWordNf C a cls d te) := by
  refine ⟨fun pins s σ H Q I h => ?_⟩
  refine attr_of hb (thn (he.run pins s σ H _ I h) fun u s1 hh => ?_)
  obtain ⟨x, H1, I1, rx, ex, ec, dd, v, ed, ea, q⟩ := hh
  subst ex
  obtain rfl : u = Value.ref a := rx
  subst ec
  subst ed
  obtain ⟨ha, _⟩ := I1.pin (a, oe) (List.mem_append_left _ List.mem_cons_self)
  obtain ⟨vs, hd⟩ := hf
  have hx : ObjOk X.prog X.w H1 s1.heap dd (.xd [(("word" : Str), v)]) := I1.hok dd _ ea
  obtain ⟨mA, hns, hr⟩ := hx
  obtain ⟨od, ho, hl⟩ := lookIn_ns hns
  have l : List.lookup ("word" : Str) [(("word" : Str), v)] = some v := by simp [List.lookup]
  obtain ⟨u, hu, ru⟩ := RelO.some_of (v := v) (o := mA "word") (by rw [← l]; exact hr "word")
  have J : PySem.W.InstAt s1.heap a oe C (some od) := ⟨ha, hz.1, by unfold PySem.W.notCls; rw [hd] <;> rfl, by rw [hz.2]; exact ho⟩
  exact HandSPX.exc_get I1.kIn J T.ga T.gg T.exC (PySem.W.findObj_own T.hdC T.noN rfl (by rw [hl, hu])) (handed_of ru) ⟨v, H1, I1.tok _, ru, q⟩
end
end L2
end

section
set_option autoImplicit false
set_option linter.all false
set_option maxRecDepth 100000
set_option maxHeartbeats 4000000
/-! EvIs: isinstance of a caught own error that has a dict. -/
namespace Ev
open PySem PySem.Spec PySem.Calls PyProof.Rows PySem.W
section
variable {prog : Program} {w : World} {A : Around} {K : Frag} {z B : Addr} {oz : Obj} {od : Option Obj}
theorem fo_data {nm : Str} {at_ gt : Value} (h1 : (clsIn K B).isSome = true) (h2 : findIn K (.ref B) nm = some (some at_)) (h3 : specialIn K at_ "__get__" = some (some gt)) (h4 : takesIn K at_ = some true) : findObj K B od nm = some (.bind gt at_) := by
  cases e : clsIn K B with
  | none => rw [e] at h1; cases h1
  | some cd => simp [findObj, e, h2, h3, h4]
theorem own_cls {Q : Option Value → Shared → Prop} {E : Value → Shared → Prop} {t : Shared} (C : L2.ExcC K B) (hK : K.In t.heap) (I : InstAt t.heap z oz B od) (q : Q (some (.ref B)) { t with toks := t.toks + 1 }) :
    wpAny (model prog w) A (getAttr? (.ref z) "__class__") Q E t := by
  have isC : (clsIn K B).isSome = true := by obtain ⟨cd, e, _⟩ := any_some C.hd; rw [e]; rfl
  have fo : findObj K B od "__class__" = some (.bind (.builtin "getset_descriptor.__get__") (.builtin "object.__class__")) := fo_data isC C.ha C.hn C.ht
  obtain ⟨hp, gs, dr, tk, os⟩ := t
  have Lt := I.type (M := model prog w)
  have La := looks_findIn (M := model prog w) hK C.hg
  have Lb := looks_findIn (M := model prog w) hK C.hk
  have Lf := looks_find (M := model prog w) hK I fo
  have Ls : Looks (model prog w) hp (isInstance (.ref z) (.type "BaseException")) true := Lt.andThen (looks_subIn hK C.hs)
  have n1 : (false && onTheHeap (Value.builtin "BaseException.__getattribute__")) = false := by first | rfl | decide +kernel
  have n2 : (onTheHeap (Value.ref B) && Value.builtin "BaseException.__getattribute__" == Value.builtin "object.__getattribute__") = false := by
    have e : (Value.builtin "BaseException.__getattribute__" == Value.builtin "object.__getattribute__") = false := by first | rfl | decide +kernel
    rw [e] <;> rfl
  unfold getAttr? getAttrBy? getAttrBy
  refine wpAny_bind <| wpAny_mkText <| wpAny_bind <| wpAny_attempt <| wpAny_holding <| wpAny_bind <| Lt.at <| wpAny_bind <| La.at ?_
  show wpAny (model prog w) _ (if (onTheHeap (Value.ref B) && Value.builtin "BaseException.__getattribute__" == Value.builtin "object.__getattribute__") = true then _ else _) _ _ _
  rw [n2, if_neg (fun y => Bool.false_ne_true y)]
  unfold getAttrByItsOwn hookBefore
  refine wpAny_bind ?_
  rw [if_pos (by rfl : onTheHeap (Value.ref B) = true)]
  refine Lb.at (wpAny_bind (wpAny_attempt (wpAny_holding ?_)))
  unfold callGetattribute
  rw [n1, if_neg (fun y => Bool.false_ne_true y)]
  unfold boundAndCalled
  rw [PySem.F.excAttr_ValueError.ga.bind (.ref z)]
  refine wpAny_bind (wpAny_pure ?_)
  show wpAny (model prog w) _ (call (.builtin "BaseException.__getattribute__") [.ref z, .str "__class__" tk]) _ _ _
  refine wpAny_call (codeAny_call_builtin (PySem.F.excAttr_ValueError.ga).plain PySem.F.entry_bexc_ga ?_)
  refine @check_slot (model prog w) _ _ ⟨hp, gs, dr, tk + 1, os⟩ "BaseException.__getattribute__" "BaseException" "__getattribute__" (.ref z) [.str "__class__" tk] [] _ (by decide +kernel) (by decide +kernel) Ls (PySem.F.args_bexc_ga (.ref z) (.str "__class__" tk)) ?_
  unfold Builtin.«object.__getattribute__»
  refine wpAny_bind (wpAny_of_eq (a := ((Value.ref z : Value), [Value.str "__class__" tk])) (by first | rfl | (simp only [slotArgs]; done) | (simp only [slotArgs]; rfl)) ?_)
  refine wpAny_bind <| wpAny_pure <| wpAny_bind <| Lt.at <| wpAny_bind <| Lf.at ?_
  show wpAny (model prog w) _ (holding [Value.builtin "object.__class__"] (call (.builtin "getset_descriptor.__get__") [.builtin "object.__class__", .ref z, .ref B]) >>= ret) _ _ _
  refine wpAny_bind (wpAny_holding (wpAny_call (class_get (s := ⟨hp, gs, dr, tk + 1, os⟩) (ox := oz) (od := od) hK I C.hm ?_)))
  refine wpAny_pure ?_
  show wpAny (model prog w) _ (handedOut (.ref B)) _ _ _
  rw [handedOut_of (v := Value.ref B) (by rfl)]
  first
    | exact wpAny_pure (wpAny_pure q)
    | exact wpAny_pure q
    | exact wpAny_pure (wpAny_bind (wpAny_pure (wpAny_pure q)))
theorem own_kit (C : L2.ExcC K B) : KitX K (.ref z) (.ref B) (fun h => InstAt h z oz B od) where
  ty := fun _ _ _ I => I.type
  it := fun _ _ X _ => by
    obtain ⟨cd, hc, _⟩ := any_some C.hd
    unfold clsIn at hc
    split at hc
    · rename_i oc od' cd' sl' ho
      intro A' Q' E' s' k q
      unfold isType loadHead
      exact wpAny_bind <| wpAny_loadPart (k _ _ (X _ _ ho)) <| wpAny_pure q
    · cases hc
  ne := fun h tp dd its n sl X htp => by
    obtain ⟨cd, hc, _⟩ := any_some C.hd
    refine Bool.eq_false_iff.mpr fun y => ?_
    have e : B = tp := Value.ref.inj (beq_iff_eq.mp y)
    subst e
    unfold clsIn at hc
    split at hc
    · rename_i oc od' cd' sl' ho
      have y := (X _ _ ho).symm.trans htp
      cases y
    · cases hc
  ca := fun X I k => own_cls C X I k
end
end Ev
namespace Ev
open PySem PySem.Spec PyProof.Rows L2
/-- isinstance(e, c), e the exception in the suite, its dict tracked -/
def rIsO (K : PySem.W.Frag) (B a dd : Addr) : List V → Hp → VK → Prop := fun xs H Q => ∃ (c : V) (cv : Value) (b : Bool) (fs : List (Str × V)), xs = [.ref a, c] ∧ (∀ u, RelV c u → u = cv) ∧ PySem.W.kitOne K (.ref B) cv = some b ∧ H dd = some (.xd fs) ∧ Q (.bl b) H
theorem call_isOwn {X : Cx} {a B dd : Addr} {oe : Obj} {pn : List (Addr × Obj)} (C : ExcC X.K B) (hz : Zc (.ref B) (some dd) oe) (hf : ∃ vs, oe.data = .fields vs) :
    CallR (X.suite a ((a, oe) :: pn)) (.builtin "isinstance") (rIsO X.K B a dd) := by
  intro pins s σ H xs us Q I r h
  obtain ⟨c, cv, b, fs, rfl, hcv, e, hdd, q⟩ := h
  cases r with
  | cons rx rr =>
  cases rr with
  | cons rt rr =>
  cases rr
  cases rx
  obtain rfl := hcv _ rt
  have hget := (I.pin (a, oe) (List.mem_append_left _ List.mem_cons_self)).1
  have nc : PySem.W.notCls oe = true := by obtain ⟨vs, hv⟩ := hf; unfold PySem.W.notCls; rw [hv] <;> rfl
  have J : ∃ od, PySem.W.InstAt s.heap a oe B od := by
    have hx : ObjOk X.prog X.w H s.heap dd (.xd fs) := I.hok dd _ hdd
    obtain ⟨mA, hns, _⟩ := hx
    obtain ⟨od, ho, _⟩ := lookIn_ns hns
    exact ⟨some od, hget, hz.1, nc, by rw [hz.2]; exact ho⟩
  obtain ⟨od, J⟩ := J
  exact PySem.W.kia_one (own_kit C) I.kIn J e (fun y => nomatch y) fun tk => ⟨.bl b, H, I.kept (t' := tk) fun _ _ y => y, rfl, q⟩
end Ev
end

section
set_option autoImplicit false
set_option linter.all false
set_option maxRecDepth 100000
set_option maxHeartbeats 1000000
/-! EvNat: a def that catches the own exception. -/
namespace Ev
open PySem PySem.Spec PyProof.Rows L2
/-- what the suite is to do: hand out the exception's word -/
def tSu (C : Addr) : Addr → Value → Option Addr → TS := fun a cls d D σ H => cls = .ref C ∧ ∃ (dd : Addr) (v : V), d = some dd ∧ H dd = some (.xd [(("word" : Str), v)]) ∧ (2 < σ.length → σ[2]? = some (some (.ref a))) ∧ D.rt v H
section
variable {X : Cx} {C fI B : Addr} {a : Addr} {oe : Obj} {cls : Value} {d : Option Addr} {pn : List (Addr × Obj)}
theorem su_of {b : List Stmt} {t : TS} (h : PSs X b t) (hl : 2 < X.N.length)
    (k : ∀ D σ H, cls = .ref C → ∀ (dd : Addr) (v : V), d = some dd → H dd = some (.xd [(("word" : Str), v)]) → σ[2]? = some (some (.ref a)) → D.rt v H → t D σ H) : PSs X b (tSu C a cls d) :=
  ⟨fun pins s σ H D I ⟨e1, dd, v, e2, e3, e4, q⟩ => h.run pins s σ H D I (k D σ H e1 dd v e2 e3 (e4 (by rw [I.len]; exact hl)) q)⟩
/-- return e.word -/
theorem su_ret (T : PySem.NfX.Txt X.prog X.K X.mg C fI) (hz : Zc cls d oe) (hf : ∃ vs, oe.data = .fields vs) (hl : 2 < X.N.length) (h2 : X.N[2]? = some ("e" : Str)) (hv : Vis X.env.scope "e") {p1 p2 p3 : Pos} :
    PSs (X.suite a ((a, oe) :: pn)) [.Return (some (.Attribute (.Name "e" p1) "word" p2)) p3] (tSu C a cls d) := by
  refine su_of (X := X.suite a ((a, oe) :: pn)) (pss_one (ps_ret (pe_wordNf T hz hf (pe_var (i := 2) h2 hv)))) hl fun D σ H e1 dd v e2 e3 e4 q => ?_
  exact ⟨_, e4, rfl, e1, dd, v, e2, e3, q⟩
/-- if isinstance(e, C2): return e.word -/
theorem su_isi (T : PySem.NfX.Txt X.prog X.K X.mg C fI) (XC : ExcC X.K C) (hz : Zc cls d oe) (hf : ∃ vs, oe.data = .fields vs) (hl : 2 < X.N.length) (h2 : X.N[2]? = some ("e" : Str)) (hv : Vis X.env.scope "e")
    (gi : Gl X "isinstance") (mi : X.mg "isinstance" = none) (gb : Gl X "CastError") (mb : X.mg "CastError" = some (.ref B)) (hk : PySem.W.kitOne X.K (.ref C) (.ref B) = some true) {q1 q2 q3 q4 q5 p1 p2 p3 : Pos} :
    PSs (X.suite a ((a, oe) :: pn)) [.If (.Call (.Name "isinstance" q1) [.Name "e" q2, .Name "CastError" q3] [] q4) [.Return (some (.Attribute (.Name "e" p1) "word" p2)) p3] [] q5] (tSu C a cls d) := by
  refine ⟨fun pins s σ H D I h => ?_⟩
  obtain ⟨rfl, dd, v, rfl, e3, e4, q⟩ := h
  have hw := su_ret (a := a) (pn := pn) (p1 := p1) (p2 := p2) (p3 := p3) T hz hf hl h2 hv
  have hc : PT (X.suite a ((a, oe) :: pn)) (.Call (.Name "isinstance" q1) [.Name "e" q2, .Name "CastError" q3] [] q4) _ := pt_val (pe_callB (call_isOwn XC hz hf) gi mi PyProof.Rows.boot_isinstance (pa_cons (pe_var (i := 2) h2 hv) (pa_cons (pe_glob (v := .ref B) gb mb rfl) pa_nil)))
  refine (pss_one (ps_if hc hw pss_nil)).run pins s σ H D I ?_
  have e4' := e4 (by rw [I.len]; exact hl)
  exact ⟨_, e4', .ref B, .ref B, true, [(("word" : Str), v)], rfl, fun u r => r, hk, e3, true, rfl, rfl, dd, v, rfl, e3, e4, q⟩
end
section
variable {P0 : Program} {w : World} {K : PySem.W.Frag} {mg : Str → Option Value} {base : Heap}
/-- try: f(..) / except NotFit as e: suite / return '' -/
theorem nat_ok {G : Pg} {ex : Nat → Option (Addr × List Str)} {d f g a C fI s0 : Nat} {fd : FuncData} {st : Stmt} {y q : Str} {nt : Cal → List T → St → X3} {es : List E} {ar : List T → List T}
    {body suite : List Stmt} {b0 : Stmt} {np pos' pos p1 p2 : Pos} (hA : G.All P0 w K mg base ex d) (tab : TabOk G.tab) (free : ∀ x ∈ blt, mg x = none) (cons : ∀ x n, (x, n) ∈ G.cons → ∃ t, mg x = some (.int n t)) (len : ∀ x ∈ G.tab, x.length ≤ 1000)
    (hF : Fun K y q st a fd) (hS : FnScope ["program", "path", "e"] ["program", "path"] (defScope st))
    (hb : defBody st = [.Try body [.ExceptHandler (some (.Name "NotFit" np)) (some "e") (b0 :: suite) pos'] [] [] pos, .Return (some (.Constant (.str "") 0 p1)) p2])
    (hc : chkSs (ccOf G.fns G.cons G.tab [] ["program", "path", "e"] (defScope st)) [.ex (.call g es)] body = true)
    (hes : ∀ (Cl : Cal) (ts : List T) (s : St), ts.length = 2 → evEs Cl es (startE 3 ts) s = .ok (ar ts, s)) (hg : G.P f = .nat nt) (hs0 : G.tab[s0]? = some "")
    (hn : ∀ (Cl : Cal) (ts : List T) (s : St) (k : (Bool × T × St) → Prop) (x : Nat → List T → St → Prop), ts.length = 2 → (nt Cl ts s).post k x → (Cl g (ar ts) s).post (fun r => k (false, .sym s0, r.2.2)) (fun c fs s' => c = 0 ∧ ∃ t, fs = [t] ∧ k (false, t, s')))
    (T : PySem.NfX.Txt P0 K mg C fI) (h0 : ex 0 = some (C, [("word" : Str)])) (hex : PySem.W.exmOne K (.ref C) (.ref C) = some true)
    (le : (defScope st).names.lookup ("e" : Str) = some .local) (ln : (defScope st).names.lookup ("NotFit" : Str) = some .globalImplicit)
    (hsu : ∀ (X : Cx) (a : Addr) (oe : Obj) (cls : Value) (d : Option Addr) (pn : List (Addr × Obj)), X.prog = P0 → X.K = K → X.mg = mg → X.N = [("program" : Str), "path", "e"] → X.env.scope = defScope st → X.env.scope.kind = .function → Zc cls d oe → (∃ vs, oe.data = .fields vs) → PSs (X.suite a ((a, oe) :: pn)) (b0 :: suite) (tSu C a cls d)) :
    FnOk P0 w K mg base (L2.CX P0 w) (d + 4) a fd ["program", "path"] (spC (G.ax K ex (d + 1)) f 2) := by
  refine hF.okX hS (fun vs H Q E ⟨F, μ, st, ts, _, r, hl, _⟩ => by rw [r.len, hl]; rfl) fun cdv A outer s H vs Q E hr hsp => ?_
  generalize hX : cxOf (L2.CX P0 w) P0 w K mg base ([("program" : Str), "path", "e"]) q (defScope st) a cdv A outer s H E = X
  have XP : X.prog = P0 := by rw [← hX]; rfl
  have Xw : X.w = w := by rw [← hX]; rfl
  have XK : X.K = K := by rw [← hX]; rfl
  have Xm : X.mg = mg := by rw [← hX]; rfl
  have Xb : X.base = base := by rw [← hX]; rfl
  have XN : X.N = [("program" : Str), "path", "e"] := by rw [← hX]; rfl
  have Xs : X.env.scope = defScope st := by rw [← hX]; rfl
  have XA : Room (d + 3) X.A := by rw [← hX]; exact hr
  have kd : X.env.scope.kind = .function := by rw [Xs]; exact hS.kind
  have kf : ∀ {x : Str} {k : NameKind}, (defScope st).names.lookup x = some k → X.env.kindOf x = some k := fun {x k} h => by
    rw [← Xs] at h
    exact h
  have GS : ∀ (W : WX) (pn : List (Addr × Obj)) (xe : Value → Shared → Prop), Takes (X.tr pn xe) W → PassesOwn (model X.prog X.w) X.A X.env xe → Gs (G.ax K ex d) (X.tr pn xe) (ccOf G.fns G.cons G.tab [] ["program", "path", "e"] (defScope st)) W := fun W pn xe tk hp => {
    g := {
      bx := ⟨by rw [← hX]; rfl, XK, tab, by have q := XA.un; show X.A.units + 64 < cLine; omega⟩
      hN := XN
      hs := Xs
      hf := by rw [← hX]; rfl
      nd := by show X.N.Nodup; rw [XN]; exact hS.nd
      ht := rfl
      free := by show ∀ x ∈ blt, X.mg x = none; rw [Xm]; exact free
      cons := by show ∀ x n, _ → ∃ t, X.mg x = _; rw [Xm]; exact cons
      fns := fun f' x' hx' => by
        obtain ⟨a', fd', ps', q1, q2, q3, q4, q5⟩ := hA f' x' hx'
        refine ⟨a', fd', ps', d + 3, by rw [← Xm] at q1; exact q1, by rw [← XK] at q2; exact q2, by rw [← XK] at q3; exact q3, XA, ?_, q5⟩
        rw [← XP, ← Xw, ← XK, ← Xm, ← Xb] at q4
        rw [← XK]
        exact q4
      tk := tk }
    hp := hp
    rz := fun c x hx _ => by cases hx
    tl := len }
  have Tx : PySem.NfX.Txt X.prog X.K X.mg C fI := by rw [XP, XK, Xm]; exact T
  have ps1 := ps_try_as (X := X) (x := "NotFit") (n := "e") (c := .ref C) (i := 2) (np := np) (pos := pos) (pos' := pos') (tb := fun W => tSt (G.ax K ex d) W (evSs (callD G.P G.W d) G.W [.ex (.call g es)])) (ts := tSu C) (Wout := fun _ _ _ _ => False) (by rw [← hX]; rfl) (by rw [← hX]; rfl) (by rw [XN]; exact hS.nd) (by rw [XN]; rfl) (kf le)
    ⟨kf ln, by decide, .inl Tx.gC⟩ takes0 (fun W pn xe tk hp => sndSs G.W _ (GS W pn xe tk hp) hc) (fun a oe cls d pn hz hf => hsu X a oe cls d pn XP XK Xm XN Xs kd hz hf)
  refine ⟨_, by rw [hb]; exact pss_cons ps1 (pss_one (ps_ret pe_str)), ?_⟩
  obtain ⟨F, μ, st0, ts, wd, r, hl, qq⟩ := hsp
  have qq : R.post (callD G.P G.W (d + 1) f ts st0) _ _ := qq
  have e : callD G.P G.W (d + 1) f ts st0 = nt (callD G.P G.W d) ts st0 := by unfold callD; rw [hg]
  rw [e] at qq
  have qq := hn _ _ _ _ _ hl qq
  have ee : evSs (callD G.P G.W d) G.W [.ex (.call g es)] (startE 3 ts) st0 = match callD G.P G.W d g (ar ts) st0 with
    | .ok x => .nx (startE 3 ts) x.2.2
    | .exc c fs s' => .exc c fs s'
    | .bad => .bad := by
    have h1 : evE (callD G.P G.W d) (.call g es) (startE 3 ts) st0 = callD G.P G.W d g (ar ts) st0 := by
      unfold evE
      rw [hes _ _ _ hl]
      rfl
    unfold evSs evS
    rw [h1]
    cases callD G.P G.W d g (ar ts) st0 <;> first
      | rfl
      | (unfold evSs; rfl)
  refine ⟨H, fun F' μ' H' => Step F μ H F' μ' H', F, μ, startE 3 ts, st0, bs_step F μ H, start_sl (N := [("program" : Str), "path", "e"]) r, wd, Step.refl F μ H, ?_⟩
  rw [ee]
  cases z : callD G.P G.W d g (ar ts) st0 with
  | ok x =>
    rw [z] at qq
    refine fun σ' H' F' μ' _ w' b' _ => ?_
    exact qq (.str "") H' F' μ' b' w' (Res.kn (by rw [rep_sym]; exact ⟨"", hs0, rfl⟩))
  | exc c fs s' =>
    rw [z] at qq
    obtain ⟨rfl, t, rfl, qq⟩ := qq
    refine fun cls dd σ' H' F' μ' w' b' x' => ?_
    obtain ⟨C', ns, c1, rfl, c3⟩ := x'
    rw [show (G.ax K ex d).ex 0 = some (C, [("word" : Str)]) from h0] at c1
    cases c1
    obtain ⟨ns0, _⟩ | ⟨d1, vs', rfl, hd1, hl1, hr1⟩ := c3
    · cases ns0
    rw [reps_cons] at hr1
    obtain ⟨v, vr, rfl, r1, r2⟩ := hr1
    refine ⟨true, by rw [show X.K = K from XK]; exact hex, fun _ a1 na => ?_, fun y => nomatch y⟩
    have rv : vr = [] := by
      cases vr with
      | nil => rfl
      | cons _ _ => exact absurd hl1 (by simp)
    subst rv
    refine ⟨rfl, d1, v, rfl, hd1, fun h => List.getElem?_set_self (by rw [List.length_set] at h; exact h), ?_⟩
    exact qq v H' F' μ' b' w' (Res.kn r1)
  | bad => rw [z] at qq; exact qq.elim
end
end Ev
end

section
set_option autoImplicit false
set_option linter.all false
set_option maxRecDepth 1000000
set_option maxHeartbeats 1000000
namespace K82
open Ev
def fns : List PySem.Str := (["inner_blocks", "cap", "row_need", "need", "regions", "holds", "holds_in", "put_loops", "promised", "lowered", "draw_numbers", "sums_below", "sums_of", "drawn", "numbers_behind", "simple_states", "row_states", "block_states", "ends", "is_path_number"] : List PySem.Str) ++ (["has_path", "road_rows", "road", "states_behind", "sure_in", "sure", "_law_start", "_law_draw", "_law_one_of", "_law_is_int", "_law_same", "_law_gcd", "_law_fraction", "_law_plus", "_law_rest", "_law_part_of", "_law_holds", "_law_put", "_law_simple", "_law_split"] : List PySem.Str) ++ (["_law_some_chance", "_law_some_table", "_law_some_test", "_law_some_row", "_law_some_block", "_law_need", "_law_cap", "_law_program", "_law_added", "_law_support", "_law_starts", "_law_road", "_law_states", "_law_sure", "_law_paths", "_law_drawn_block", "_law_word_of", "_law_sure_word", "law", "with_block_blocks"] : List PySem.Str) ++ (["with_block_promises"] : List PySem.Str)
def tab : List PySem.Str := (["", "either", "if", "while", "below", "is", "less", "given", "not", "and", "geometric", "set", "copy", "draw", "draws", "add", "path", "times", "table", "p"] : List PySem.Str) ++ (["t", "x", "y", "z", "0"] : List PySem.Str)
def cons : List (PySem.Str × Int) := [("FAR", -1), ("CAP", 10)]
def N_inner_blocks : List PySem.Str := (["row"] : List PySem.Str)
def N_cap : List PySem.Str := (["test", "part"] : List PySem.Str)
def N_row_need : List PySem.Str := (["row", "n"] : List PySem.Str)
def N_need : List PySem.Str := (["block", "n", "row"] : List PySem.Str)
def N_regions : List PySem.Str := (["words", "n", "found", "_", "region", "told"] : List PySem.Str)
def N_holds : List PySem.Str := (["test", "start"] : List PySem.Str)
def N_holds_in : List PySem.Str := (["test", "n", "region", "told"] : List PySem.Str)
def N_put_loops : List PySem.Str := (["block", "promises", "found", "row"] : List PySem.Str)
def N_promised : List PySem.Str := (["program"] : List PySem.Str)
def N_lowered : List PySem.Str := (["states", "n", "state", "number"] : List PySem.Str)
def N_draw_numbers : List PySem.Str := (["draw", "c", "n", "_"] : List PySem.Str)
def N_sums_below : List PySem.Str := (["some", "c", "found", "total", "n"] : List PySem.Str)
def N_sums_of : List PySem.Str := (["some", "many", "c", "found", "_", "total", "n"] : List PySem.Str)
def N_drawn : List PySem.Str := (["mine", "draw", "many", "c", "some", "total"] : List PySem.Str)
def N_numbers_behind : List PySem.Str := (["row", "state", "c", "word", "mine", "many"] : List PySem.Str)
def N_simple_states : List PySem.Str := (["row", "states", "c", "w", "found", "state", "number"] : List PySem.Str)
def N_row_states : List PySem.Str := (["row", "states", "c", "n", "first", "second", "state"] : List PySem.Str)
def N_block_states : List PySem.Str := (["block", "states", "c", "k", "row"] : List PySem.Str)
def N_ends : List PySem.Str := (["program", "test", "block", "c", "n", "region"] : List PySem.Str)
def N_is_path_number : List PySem.Str := (["datum"] : List PySem.Str)
def N_has_path : List PySem.Str := (["block", "path", "inner"] : List PySem.Str)
def N_road_rows : List PySem.Str := (["block", "path", "at", "row", "ahead"] : List PySem.Str)
def N_road : List PySem.Str := (["program", "path"] : List PySem.Str)
def N_states_behind : List PySem.Str := (["program", "found", "region", "states", "state"] : List PySem.Str)
def N_sure_in : List PySem.Str := (["states", "w", "state"] : List PySem.Str)
def N_sure : List PySem.Str := (["program", "path", "w"] : List PySem.Str)
def N__law_start : List PySem.Str := (["script"] : List PySem.Str)
def N__law_draw : List PySem.Str := (["state", "most", "found", "cell", "mixed"] : List PySem.Str)
def N__law_one_of : List PySem.Str := (["state", "items"] : List PySem.Str)
def N__law_is_int : List PySem.Str := (["x"] : List PySem.Str)
def N__law_same : List PySem.Str := (["x", "y", "k"] : List PySem.Str)
def N__law_gcd : List PySem.Str := (["a", "b", "rest"] : List PySem.Str)
def N__law_fraction : List PySem.Str := (["n", "d", "common"] : List PySem.Str)
def N__law_plus : List PySem.Str := (["a", "b"] : List PySem.Str)
def N__law_rest : List PySem.Str := (["c", "table", "exponent", "a"] : List PySem.Str)
def N__law_part_of : List PySem.Str := (["c", "n", "exponent", "a"] : List PySem.Str)
def N__law_holds : List PySem.Str := (["test", "row"] : List PySem.Str)
def N__law_put : List PySem.Str := (["row", "w", "n"] : List PySem.Str)
def N__law_simple : List PySem.Str := (["row", "deed", "w"] : List PySem.Str)
def N__law_split : List PySem.Str := (["table", "test", "held", "rest", "row"] : List PySem.Str)
def N__law_some_chance : List PySem.Str := (["state", "letter", "told"] : List PySem.Str)
def N__law_some_table : List PySem.Str := (["state", "letter", "c", "least", "rest", "half"] : List PySem.Str)
def N__law_some_test : List PySem.Str := (["state", "words", "w", "test"] : List PySem.Str)
def N__law_some_row : List PySem.Str := (["state", "words", "letter", "kinds", "kind", "w", "y"] : List PySem.Str)
def N__law_some_block : List PySem.Str := (["state", "words", "letter", "kinds", "many", "deep", "found", "turn", "kind", "one", "other"] : List PySem.Str)
def N__law_need : List PySem.Str := (["block", "n", "at", "row"] : List PySem.Str)
def N__law_cap : List PySem.Str := (["test", "one"] : List PySem.Str)
def N__law_program : List PySem.Str := (["letter", "words", "block", "told"] : List PySem.Str)
def N__law_added : List PySem.Str := (["rows", "w", "draw", "found", "row", "n", "c"] : List PySem.Str)
def N__law_support : List PySem.Str := (["block", "rows", "deed", "found", "row", "some", "turn", "held", "rest"] : List PySem.Str)
def N__law_starts : List PySem.Str := (["words", "n", "found", "x", "y"] : List PySem.Str)
def N__law_road : List PySem.Str := (["block", "path", "ahead", "row"] : List PySem.Str)
def N__law_states : List PySem.Str := (["words", "block", "path", "ahead"] : List PySem.Str)
def N__law_sure : List PySem.Str := (["states", "w", "numbers", "row"] : List PySem.Str)
def N__law_paths : List PySem.Str := (["block", "ahead", "found", "at", "row"] : List PySem.Str)
def N__law_drawn_block : List PySem.Str := (["state", "words", "kinds", "inner", "outer", "last", "kind"] : List PySem.Str)
def N__law_word_of : List PySem.Str := (["program", "path"] : List PySem.Str)
def N__law_sure_word : List PySem.Str := (["program", "path"] : List PySem.Str)
def N_law : List PySem.Str := (["script", "state", "words", "block", "program", "paths", "path", "turn", "states", "w", "long", "bad"] : List PySem.Str)
def N_with_block_blocks : List PySem.Str := (["program", "block"] : List PySem.Str)
def N_with_block_promises : List PySem.Str := (["program", "block"] : List PySem.Str)
-- place inner_blocks 1
-- place cap 6
-- place row_need 7
-- place need 8
-- place regions 9
-- place holds 10
-- place holds_in 11
-- place put_loops 13
-- place promised 16
-- place lowered 18
-- place draw_numbers 19
-- place sums_below 20
-- place sums_of 21
-- place drawn 22
-- place numbers_behind 23
-- place simple_states 24
-- place row_states 25
-- place block_states 26
-- place ends 27
-- place is_path_number 33
-- place has_path 34
-- place road_rows 35
-- place road 36
-- place states_behind 37
-- place sure_in 38
-- place sure 39
-- place _law_start 41
-- place _law_draw 42
-- place _law_one_of 43
-- place _law_is_int 44
-- place _law_same 45
-- place _law_gcd 46
-- place _law_fraction 47
-- place _law_plus 48
-- place _law_rest 49
-- place _law_part_of 50
-- place _law_holds 51
-- place _law_put 52
-- place _law_simple 53
-- place _law_split 54
-- place _law_some_chance 55
-- place _law_some_table 56
-- place _law_some_test 57
-- place _law_some_row 58
-- place _law_some_block 59
-- place _law_need 60
-- place _law_cap 61
-- place _law_program 62
-- place _law_added 63
-- place _law_support 64
-- place _law_starts 65
-- place _law_road 66
-- place _law_states 67
-- place _law_sure 68
-- place _law_paths 69
-- place _law_drawn_block 70
-- place _law_word_of 71
-- place _law_sure_word 72
-- place law 73
-- place with_block_blocks 2
-- place with_block_promises 14
end K82
end

section
set_option autoImplicit false
set_option linter.all false
set_option maxRecDepth 1000000
set_option maxHeartbeats 0
/-! K82D: the table of the defs against the text. -/
namespace K82
open PySem PySem.Spec PyProof.Rows L2 Ev
abbrev PK : Program := PySem.Challenge.pw_castbypowers_k82_roads_to_rows
def topS (i : Nat) : Stmt := PK.main.body.getD i (.Pass ⟨0, 0, 0, 0⟩)
def scB (N ps : List Str) (sc : Scope) : Bool := decide (sc.kind = .function) && (!sc.isCoroutine) && (!sc.isGenerator) && decide N.Nodup && decide (N.take ps.length = ps) && (ps.all fun x => decide (sc.names.lookup x = some .local) || decide (sc.names.lookup x = some .cell)) && (sc.names.all fun y => decide (y.2 ≠ .free))
theorem sc_of {N ps : List Str} {sc : Scope} (h : scB N ps sc = true) : FnScope N ps sc := by
  unfold scB at h
  simp only [Bool.and_eq_true, decide_eq_true_eq, Bool.not_eq_true', List.all_eq_true, Bool.or_eq_true] at h
  obtain ⟨⟨⟨⟨⟨⟨h1, h2⟩, h3⟩, h4⟩, h5⟩, h6⟩, h7⟩ := h
  exact ⟨h1, h2, h3, h4, h5, h6, h7⟩
def one (i : Nat) (N ps : List Str) (d : Fd) : Bool := decide (N.length = d.nl) && decide (ps.length = d.np) && scB N ps (defScope (topS i)) && chkSs (ccOf fns cons tab ["NotFit"] N (defScope (topS i))) d.body (defBody (topS i))
/-- where the written part holds a def -/
def FK (K : PySem.W.Frag) (x y : Str) (st : Stmt) : Prop := ∃ (a : Addr) (oc : Value) (od : Option Addr) (kV doc pm : Value) (an : Option Addr) (cdv ct : Value) (osl : Array (Option Value)), PySem.W.nsIn K mainGlobals x = some (some (.ref a)) ∧
  K.lookup a = some ⟨oc, od, .func (PySem.W.fnOf y y (defArgs st) (defBody st) (defScope st) .none kV doc pm an cdv ct), osl⟩ ∧ PySem.W.codeIn K cdv y = true ∧ PySem.W.keepIn K (.ref a) = true
theorem fk_mk {K : PySem.W.Frag} {x y : Str} {st : Stmt} {a : Addr} {oc : Value} {od : Option Addr} {kV doc pm : Value} {an : Option Addr} {cdv ct : Value} {osl : Array (Option Value)} (h1 : PySem.W.nsIn K mainGlobals x = some (some (.ref a)))
    (h2 : K.lookup a = some ⟨oc, od, .func (PySem.W.fnOf y y (defArgs st) (defBody st) (defScope st) .none kV doc pm an cdv ct), osl⟩) (h3 : PySem.W.codeIn K cdv y = true) (h4 : PySem.W.keepIn K (.ref a) = true) : FK K x y st := ⟨a, oc, od, kV, doc, pm, an, cdv, ct, osl, h1, h2, h3, h4⟩
/-- the exceptions' classes, read off the written part -/
def exK (K : PySem.W.Frag) : Nat → Option (Addr × List Str) := fun c => if c = 0 then (match PySem.W.nsIn K mainGlobals "NotFit" with
  | some (some (.ref C)) => some (C, [("word" : Str)])
  | _ => none) else none
def GP : Pg := ⟨P, fns, cons, tab, ["NotFit"], 200⟩
/-- what the written part says of NotFit (at C, its __init__ at fI) and of CastError (at B) -/
structure NfK (K : PySem.W.Frag) (C fI B : Addr) : Prop where
  gC : PySem.W.nsIn K mainGlobals "NotFit" = some (some (.ref C))
  gB : PySem.W.nsIn K mainGlobals "CastError" = some (some (.ref B))
  gS : PySem.W.nsIn K mainGlobals "super" = some none
  cls : ∃ nm q N bs sn sub ab col dd k0 k1 k2 k3 k5, K.lookup C = some (excClassObj nm q C N bs (.ref B :: PySem.HandSPX.veTail) true sn sub ab col dd k0 k1 k2 k3 k5 "ValueError.__new__")
  al : PySem.W.alongIn K "__init__" (.ref B :: PySem.HandSPX.veTail) = some (some (.builtin "ValueError.__init__"))
  sa : PySem.W.findIn K (.ref C) "__setattr__" = some (some (.builtin "object.__setattr__"))
  xc : ExcC K C
  noN : PySem.W.findIn K (.ref C) "word" = some none
  iC : PySem.W.findIn K (.ref C) "__init__" = some (some (.ref fI))
  tC : PySem.W.typeIn K (.ref fI) = some (.type "function")
  kC : PySem.W.keepIn K (.ref C) = true
  vC : PySem.W.subIn K (.ref C) (.type "ValueError") = some true
  sC : PySem.W.subIn K (.ref C) (.ref C) = some true
  mC : PySem.W.mroIn K C (.ref C) = some true
  op : PySem.W.nsIn K cStatics "thirdparty.any" = some none
  tyC : PySem.W.typeIn K (.ref C) = some (.type "type")
  kit : PySem.W.kitOne K (.ref C) (.ref B) = some true
  fn : ∃ (oc : Value) (od : Option Addr) (doc pm : Value) (an : Option Addr) (cda cc : Addr) (ct : Value) (osl : Array (Option Value)) (ccl cl : Value) (cdd cld : Option Addr) (vs : Array Value) (ccs csl : Array (Option Value)) (file : Str) (tf : Tok),
    K.lookup fI = some ⟨oc, od, .func (PySem.W.ksFn "__init__" "NotFit.__init__" (PySem.NfX.iA PySem.NfX.p0) (PySem.NfX.iB PySem.NfX.p0) PySem.NfX.iS .none .none doc pm an (.ref cda) ct cc), osl⟩ ∧ PySem.W.codeIn K (.ref cda) "NotFit.__init__" = true ∧
    K.lookup cda = some ⟨ccl, cdd, .fields vs, ccs⟩ ∧ vs[2]? = some (.str file tf) ∧ ((PK.main.file : Str) == file) = true ∧ K.lookup cc = some ⟨cl, cld, .cell (some (.ref C)), csl⟩
/-- the built-in names are free -/
def FreeK (K : PySem.W.Frag) : Prop := ∀ x ∈ blt, PySem.W.nsIn K mainGlobals x = some none
def ConsK (K : PySem.W.Frag) : Prop := ∀ x n, (x, n) ∈ cons → ∃ t, PySem.W.nsIn K mainGlobals x = some (some (.int n t))
/-- what Pg.Ok asks of one def -/
abbrev OkAt (w : World) (K : PySem.W.Frag) (mg : Str → Option Value) (base : Heap) (f : Nat) (x : Str) : Prop := ∃ a fd ps, mg x = some (.ref a) ∧ PySem.W.keepIn K (.ref a) = true ∧ Binds K fd ps [] ∧ (match P f with
  | .ir d => ∃ st N y q, Fun K y q st a fd ∧ FnScope N ps (defScope st) ∧ N.length = d.nl ∧ ps.length = d.np ∧ chkSs (ccOf fns cons tab ["NotFit"] N (defScope st)) d.body (defBody st) = true
  | .nat g => (∀ C ts st, ts.length ≠ ps.length → g C ts st = .bad) ∧ ∀ d, GP.All PK w K mg base (exK K) d → FnOk PK w K mg base (L2.CX PK w) (d + 4) a fd ps (spC (GP.ax K (exK K) (d + 1)) f ps.length)
  | .no => True)
abbrev BindsR (x : Str) (st : Stmt) (ps : List Str) : Prop := ∀ (kV doc pm : Value) (an : Option Addr) (cdv ct : Value) (us : List Value), us.length = ps.length → bindArgs (PySem.W.fnOf x x (defArgs st) (defBody st) (defScope st) .none kV doc pm an cdv ct) ⟨us, []⟩ = pure (ps.zip us)
section
variable {w : World} {K : PySem.W.Frag} {mg : Str → Option Value} {h : Heap} {C fI B : Addr}
theorem ok_ir {f i : Nat} {x y : Str} {N ps : List Str} {d : Fd} {base : Heap} (X : K.In h) (G : h.Ns mainGlobals mg) (hk : FK K x y (topS i)) (hP : P f = .ir d) (hc : one i N ps d = true) (hb : BindsR y (topS i) ps) : OkAt w K mg base f x := by
  obtain ⟨a, oc, od, kV, doc, pm, an, cdv, ct, osl, h1, h2, h3, h4⟩ := hk
  unfold one at hc
  simp only [Bool.and_eq_true, decide_eq_true_eq] at hc
  obtain ⟨⟨⟨e1, e2⟩, e3⟩, e4⟩ := hc
  have F := fun_mk (st := topS i) h2 h3 h4
  refine ⟨a, _, ps, PySem.W.mg_of X G h1, h4, F.binds hb, ?_⟩
  rw [hP]
  exact ⟨topS i, N, y, y, F, sc_of e3, e1, e2, e4⟩
theorem txt_of (X : K.In h) (G : h.Ns mainGlobals mg) (nf : NfK K C fI B) : PySem.NfX.Txt PK K mg C fI := by
  obtain ⟨nm, q, N, bs, sn, sub, ab, col, dd, k0, k1, k2, k3, k5, e⟩ := nf.cls
  exact {
    gC := PySem.W.mg_of X G nf.gC
    gS := PySem.W.mg_none_of X G nf.gS
    cls := ⟨nm, q, N, bs, _, sn, sub, ab, col, dd, k0, k1, k2, k3, k5, e, (by decide +kernel : PySem.HandSPX.refsVE PySem.HandSPX.veTail = true), nf.al⟩
    sa := nf.sa
    ga := nf.xc.hg
    gg := nf.xc.hk
    noN := nf.noN
    iC := nf.iC
    tC := nf.tC
    kC := nf.kC
    exC := nf.xc.hs
    vC := nf.vC
    mC := nf.mC
    op := nf.op
    tyC := nf.tyC
    hdC := nf.xc.hd
    htop := by decide +kernel
    fn := nf.fn }
theorem ex0 (nf : NfK K C fI B) : exK K 0 = some (C, [("word" : Str)]) := by
  unfold exK
  rw [if_pos rfl, nf.gC]
theorem frees (X : K.In h) (G : h.Ns mainGlobals mg) (fr : FreeK K) : ∀ x ∈ blt, mg x = none := fun x hx => PySem.W.mg_none_of X G (fr x hx)
theorem conss (X : K.In h) (G : h.Ns mainGlobals mg) (cs : ConsK K) : ∀ x n, (x, n) ∈ cons → ∃ t, mg x = some (.int n t) := fun x n hx => by
  obtain ⟨t, e⟩ := cs x n hx
  exact ⟨t, PySem.W.mg_of X G e⟩
theorem tab_ok : Ev.TabOk tab := ⟨by decide +kernel, by decide +kernel⟩
theorem tab_len : ∀ x ∈ tab, x.length ≤ 1000 := by decide +kernel
abbrev N3 : List Str := ["program", "path", "e"]
theorem c_nat1 : scB N3 ["program", "path"] (defScope (topS 71)) = true := by decide +kernel
theorem c_nat2 : scB N3 ["program", "path"] (defScope (topS 72)) = true := by decide +kernel
def ps71 (a b c d : Nat) : Pos := ⟨a, b, c, d⟩
theorem b_nat1 : defBody (topS 71) = [.Try [.Expr (.Call (.Name "road" ⟨425, 8, 425, 12⟩) [.Name "program" ⟨425, 13, 425, 20⟩, .Name "path" ⟨425, 22, 425, 26⟩] [] ⟨425, 8, 425, 27⟩) ⟨425, 8, 425, 27⟩] [.ExceptHandler (some (.Name "NotFit" ⟨426, 11, 426, 17⟩)) (some "e") ((.If (.Call (.Name "isinstance" ⟨427, 11, 427, 21⟩) [.Name "e" ⟨427, 22, 427, 23⟩, .Name "CastError" ⟨427, 25, 427, 34⟩] [] ⟨427, 11, 427, 35⟩) [.Return (some (.Attribute (.Name "e" ⟨428, 19, 428, 20⟩) "word" ⟨428, 19, 428, 25⟩)) ⟨428, 12, 428, 25⟩] [] ⟨427, 8, 428, 25⟩) :: []) ⟨426, 4, 428, 25⟩] [] [] ⟨424, 4, 428, 25⟩, .Return (some (.Constant (.str "") 0 ⟨429, 11, 429, 13⟩)) ⟨429, 4, 429, 13⟩] := by kernel_rfl
theorem b_nat2 : defBody (topS 72) = [.Try [.Expr (.Call (.Name "sure" ⟨432, 8, 432, 12⟩) [.Name "program" ⟨432, 13, 432, 20⟩, .Name "path" ⟨432, 22, 432, 26⟩, .Constant (.int 0) 0 ⟨432, 28, 432, 29⟩] [] ⟨432, 8, 432, 30⟩) ⟨432, 8, 432, 30⟩] [.ExceptHandler (some (.Name "NotFit" ⟨433, 11, 433, 17⟩)) (some "e") ((.Return (some (.Attribute (.Name "e" ⟨434, 15, 434, 16⟩) "word" ⟨434, 15, 434, 21⟩)) ⟨434, 8, 434, 21⟩) :: []) ⟨433, 4, 434, 21⟩] [] [] ⟨431, 4, 434, 21⟩, .Return (some (.Constant (.str "") 0 ⟨435, 11, 435, 13⟩)) ⟨435, 4, 435, 13⟩] := by kernel_rfl
theorem args2 (Cl : Cal) (ts : List T) (s : Ev.St) (hl : ts.length = 2) : evEs Cl [.v 0, .v 1] (startE 3 ts) s = .ok (ts, s) := by
  match ts, hl with
  | [a, b], _ => rfl
theorem args3 (Cl : Cal) (ts : List T) (s : Ev.St) (hl : ts.length = 2) : evEs Cl [.v 0, .v 1, .c (.int 0)] (startE 3 ts) s = .ok (ts ++ [.int 0], s) := by
  match ts, hl with
  | [a, b], _ => rfl
theorem word_post {r : X3} {k : (Bool × T × Ev.St) → Prop} {x : Nat → List T → Ev.St → Prop} (h : (wordOf r).post k x) : r.post (fun r => k (false, .sym 0, r.2.2)) (fun c fs s' => c = 0 ∧ ∃ t, fs = [t] ∧ k (false, t, s')) := by
  unfold wordOf at h
  split at h
  · exact h
  · exact ⟨rfl, _, rfl, h⟩
  · exact h.elim
theorem nat1_post (Cl : Cal) (ts : List T) (s : Ev.St) (k : (Bool × T × Ev.St) → Prop) (x : Nat → List T → Ev.St → Prop) (hl : ts.length = 2) (h : (n__law_word_of Cl ts s).post k x) : (Cl 22 ts s).post (fun r => k (false, .sym 0, r.2.2)) (fun c fs s' => c = 0 ∧ ∃ t, fs = [t] ∧ k (false, t, s')) := by
  unfold n__law_word_of at h
  rw [if_pos hl] at h
  exact word_post h
theorem nat2_post (Cl : Cal) (ts : List T) (s : Ev.St) (k : (Bool × T × Ev.St) → Prop) (x : Nat → List T → Ev.St → Prop) (hl : ts.length = 2) (h : (n__law_sure_word Cl ts s).post k x) : (Cl 25 (ts ++ [.int 0]) s).post (fun r => k (false, .sym 0, r.2.2)) (fun c fs s' => c = 0 ∧ ∃ t, fs = [t] ∧ k (false, t, s')) := by
  unfold n__law_sure_word at h
  rw [if_pos hl] at h
  exact word_post h
theorem exm_nf (nf : NfK K C fI B) : PySem.W.exmOne K (.ref C) (.ref C) = some true := PySem.W.exm_ref nf.xc.hs nf.xc.hd nf.tyC nf.sC
theorem ok__law_word_of (X : K.In h) (G : h.Ns mainGlobals mg) (hk : FK K "_law_word_of" "_law_word_of" (topS 71)) (nf : NfK K C fI B) (fr : FreeK K) (cs : ConsK K) (base : Heap) (hb : BindsR "_law_word_of" (topS 71) ["program", "path"]) : OkAt w K mg base 56 "_law_word_of" := by
  obtain ⟨a, oc, od, kV, doc, pm, an, cdv, ct, osl, h1, h2, h3, h4⟩ := hk
  have F := fun_mk (st := topS 71) h2 h3 h4
  have T := txt_of X G nf
  refine ⟨a, _, ["program", "path"], PySem.W.mg_of X G h1, h4, F.binds hb, fun Cl ts s n => if_neg n, fun d hA => ?_⟩
  refine nat_ok (f := 56) (g := 22) (s0 := 0) (nt := n__law_word_of) (es := [.v 0, .v 1]) (ar := fun ts => ts) hA tab_ok (frees X G fr) (conss X G cs) tab_len F (sc_of c_nat1) b_nat1 (by decide +kernel) args2 rfl (by decide +kernel) nat1_post T (ex0 nf) (exm_nf nf) (by decide +kernel) (by decide +kernel) ?_
  intro X' a oe cls d pn e1 e2 e3 e4 e5 e6 hz hf
  have T' : PySem.NfX.Txt X'.prog X'.K X'.mg C fI := by rw [e1, e2, e3]; exact T
  have gl : ∀ {x : Str}, (defScope (topS 71)).names.lookup x = some .globalImplicit → Gl X' x := fun {x} q => by
    rw [← e5] at q
    exact q
  exact su_isi (B := B) T' (by rw [e2]; exact nf.xc) hz hf (by rw [e4]; decide) (by rw [e4]; rfl) (.inl (by rw [e5]; decide +kernel)) (gl (by decide +kernel)) (by rw [e3]; exact frees X G fr _ (by decide)) (gl (by decide +kernel)) (by rw [e3]; exact PySem.W.mg_of X G nf.gB) (by rw [e2]; exact nf.kit)
theorem ok__law_sure_word (X : K.In h) (G : h.Ns mainGlobals mg) (hk : FK K "_law_sure_word" "_law_sure_word" (topS 72)) (nf : NfK K C fI B) (fr : FreeK K) (cs : ConsK K) (base : Heap) (hb : BindsR "_law_sure_word" (topS 72) ["program", "path"]) : OkAt w K mg base 57 "_law_sure_word" := by
  obtain ⟨a, oc, od, kV, doc, pm, an, cdv, ct, osl, h1, h2, h3, h4⟩ := hk
  have F := fun_mk (st := topS 72) h2 h3 h4
  have T := txt_of X G nf
  refine ⟨a, _, ["program", "path"], PySem.W.mg_of X G h1, h4, F.binds hb, fun Cl ts s n => if_neg n, fun d hA => ?_⟩
  refine nat_ok (f := 57) (g := 25) (s0 := 0) (nt := n__law_sure_word) (es := [.v 0, .v 1, .c (.int 0)]) (ar := fun ts => ts ++ [.int 0]) hA tab_ok (frees X G fr) (conss X G cs) tab_len F (sc_of c_nat2) b_nat2 (by decide +kernel) args3 rfl (by decide +kernel) nat2_post T (ex0 nf) (exm_nf nf) (by decide +kernel) (by decide +kernel) ?_
  intro X' a oe cls d pn e1 e2 e3 e4 e5 e6 hz hf
  have T' : PySem.NfX.Txt X'.prog X'.K X'.mg C fI := by rw [e1, e2, e3]; exact T
  exact su_ret T' hz hf (by rw [e4]; decide) (by rw [e4]; rfl) (.inl (by rw [e5]; decide +kernel))
end
theorem c_inner_blocks : one 1 N_inner_blocks ["row"] d_inner_blocks = true := by decide +kernel
theorem c_cap : one 6 N_cap ["test"] d_cap = true := by decide +kernel
theorem c_row_need : one 7 N_row_need ["row", "n"] d_row_need = true := by decide +kernel
theorem c_need : one 8 N_need ["block", "n"] d_need = true := by decide +kernel
theorem c_regions : one 9 N_regions ["words", "n"] d_regions = true := by decide +kernel
theorem c_holds : one 10 N_holds ["test", "start"] d_holds = true := by decide +kernel
theorem c_holds_in : one 11 N_holds_in ["test", "n", "region"] d_holds_in = true := by decide +kernel
theorem c_put_loops : one 13 N_put_loops ["block", "promises"] d_put_loops = true := by decide +kernel
theorem c_promised : one 16 N_promised ["program"] d_promised = true := by decide +kernel
theorem c_lowered : one 18 N_lowered ["states", "n"] d_lowered = true := by decide +kernel
theorem c_draw_numbers : one 19 N_draw_numbers ["draw", "c"] d_draw_numbers = true := by decide +kernel
theorem c_sums_below : one 20 N_sums_below ["some", "c"] d_sums_below = true := by decide +kernel
theorem c_sums_of : one 21 N_sums_of ["some", "many", "c"] d_sums_of = true := by decide +kernel
theorem c_drawn : one 22 N_drawn ["mine", "draw", "many", "c"] d_drawn = true := by decide +kernel
theorem c_numbers_behind : one 23 N_numbers_behind ["row", "state", "c"] d_numbers_behind = true := by decide +kernel
theorem c_simple_states : one 24 N_simple_states ["row", "states", "c"] d_simple_states = true := by decide +kernel
theorem c_row_states : one 25 N_row_states ["row", "states", "c"] d_row_states = true := by decide +kernel
theorem c_block_states : one 26 N_block_states ["block", "states", "c"] d_block_states = true := by decide +kernel
theorem c_ends : one 27 N_ends ["program", "test"] d_ends = true := by decide +kernel
theorem c_is_path_number : one 33 N_is_path_number ["datum"] d_is_path_number = true := by decide +kernel
theorem c_has_path : one 34 N_has_path ["block", "path"] d_has_path = true := by decide +kernel
theorem c_road_rows : one 35 N_road_rows ["block", "path"] d_road_rows = true := by decide +kernel
theorem c_road : one 36 N_road ["program", "path"] d_road = true := by decide +kernel
theorem c_states_behind : one 37 N_states_behind ["program"] d_states_behind = true := by decide +kernel
theorem c_sure_in : one 38 N_sure_in ["states", "w"] d_sure_in = true := by decide +kernel
theorem c_sure : one 39 N_sure ["program", "path", "w"] d_sure = true := by decide +kernel
theorem c__law_start : one 41 N__law_start ["script"] d__law_start = true := by decide +kernel
theorem c__law_draw : one 42 N__law_draw ["state", "most"] d__law_draw = true := by decide +kernel
theorem c__law_one_of : one 43 N__law_one_of ["state", "items"] d__law_one_of = true := by decide +kernel
theorem c__law_is_int : one 44 N__law_is_int ["x"] d__law_is_int = true := by decide +kernel
theorem c__law_same : one 45 N__law_same ["x", "y"] d__law_same = true := by decide +kernel
theorem c__law_gcd : one 46 N__law_gcd ["a", "b"] d__law_gcd = true := by decide +kernel
theorem c__law_fraction : one 47 N__law_fraction ["n", "d"] d__law_fraction = true := by decide +kernel
theorem c__law_plus : one 48 N__law_plus ["a", "b"] d__law_plus = true := by decide +kernel
theorem c__law_rest : one 49 N__law_rest ["c"] d__law_rest = true := by decide +kernel
theorem c__law_part_of : one 50 N__law_part_of ["c", "n"] d__law_part_of = true := by decide +kernel
theorem c__law_holds : one 51 N__law_holds ["test", "row"] d__law_holds = true := by decide +kernel
theorem c__law_put : one 52 N__law_put ["row", "w", "n"] d__law_put = true := by decide +kernel
theorem c__law_simple : one 53 N__law_simple ["row", "deed"] d__law_simple = true := by decide +kernel
theorem c__law_split : one 54 N__law_split ["table", "test"] d__law_split = true := by decide +kernel
theorem c__law_some_chance : one 55 N__law_some_chance ["state", "letter"] d__law_some_chance = true := by decide +kernel
theorem c__law_some_table : one 56 N__law_some_table ["state", "letter"] d__law_some_table = true := by decide +kernel
theorem c__law_some_test : one 57 N__law_some_test ["state", "words"] d__law_some_test = true := by decide +kernel
theorem c__law_some_row : one 58 N__law_some_row ["state", "words", "letter", "kinds"] d__law_some_row = true := by decide +kernel
theorem c__law_some_block : one 59 N__law_some_block ["state", "words", "letter", "kinds", "many", "deep"] d__law_some_block = true := by decide +kernel
theorem c__law_need : one 60 N__law_need ["block", "n"] d__law_need = true := by decide +kernel
theorem c__law_cap : one 61 N__law_cap ["test"] d__law_cap = true := by decide +kernel
theorem c__law_program : one 62 N__law_program ["letter", "words", "block"] d__law_program = true := by decide +kernel
theorem c__law_added : one 63 N__law_added ["rows", "w", "draw"] d__law_added = true := by decide +kernel
theorem c__law_support : one 64 N__law_support ["block", "rows"] d__law_support = true := by decide +kernel
theorem c__law_starts : one 65 N__law_starts ["words", "n"] d__law_starts = true := by decide +kernel
theorem c__law_road : one 66 N__law_road ["block", "path"] d__law_road = true := by decide +kernel
theorem c__law_states : one 67 N__law_states ["words", "block", "path"] d__law_states = true := by decide +kernel
theorem c__law_sure : one 68 N__law_sure ["states", "w"] d__law_sure = true := by decide +kernel
theorem c__law_paths : one 69 N__law_paths ["block", "ahead"] d__law_paths = true := by decide +kernel
theorem c__law_drawn_block : one 70 N__law_drawn_block ["state", "words"] d__law_drawn_block = true := by decide +kernel
theorem c_law : one 73 N_law ["script"] d_law = true := by decide +kernel
theorem c_with_block_blocks : one 2 N_with_block_blocks ["program", "block"] d_with_block_blocks = true := by decide +kernel
theorem c_with_block_promises : one 14 N_with_block_promises ["program", "block"] d_with_block_promises = true := by decide +kernel
/-- the text holds every def -/
def FKs (K : PySem.W.Frag) : Prop := FK K "inner_blocks" "inner_blocks" (topS 1) ∧ FK K "cap" "cap" (topS 6) ∧ FK K "row_need" "row_need" (topS 7) ∧ FK K "need" "need" (topS 8) ∧ FK K "regions" "regions" (topS 9) ∧ FK K "holds" "holds" (topS 10) ∧ FK K "holds_in" "holds_in" (topS 11) ∧ FK K "put_loops" "put_loops" (topS 13) ∧ FK K "promised" "promised" (topS 16) ∧ FK K "lowered" "lowered" (topS 18) ∧ FK K "draw_numbers" "draw_numbers" (topS 19) ∧ FK K "sums_below" "sums_below" (topS 20) ∧ FK K "sums_of" "sums_of" (topS 21) ∧ FK K "drawn" "drawn" (topS 22) ∧ FK K "numbers_behind" "numbers_behind" (topS 23) ∧ FK K "simple_states" "simple_states" (topS 24) ∧ FK K "row_states" "row_states" (topS 25) ∧ FK K "block_states" "block_states" (topS 26) ∧ FK K "ends" "ends" (topS 27) ∧ FK K "is_path_number" "is_path_number" (topS 33) ∧ FK K "has_path" "has_path" (topS 34) ∧ FK K "road_rows" "road_rows" (topS 35) ∧ FK K "road" "road" (topS 36) ∧ FK K "states_behind" "states_behind" (topS 37) ∧ FK K "sure_in" "sure_in" (topS 38) ∧ FK K "sure" "sure" (topS 39) ∧ FK K "_law_start" "_law_start" (topS 41) ∧ FK K "_law_draw" "_law_draw" (topS 42) ∧ FK K "_law_one_of" "_law_one_of" (topS 43) ∧ FK K "_law_is_int" "_law_is_int" (topS 44) ∧ FK K "_law_same" "_law_same" (topS 45) ∧ FK K "_law_gcd" "_law_gcd" (topS 46) ∧ FK K "_law_fraction" "_law_fraction" (topS 47) ∧ FK K "_law_plus" "_law_plus" (topS 48) ∧ FK K "_law_rest" "_law_rest" (topS 49) ∧ FK K "_law_part_of" "_law_part_of" (topS 50) ∧ FK K "_law_holds" "_law_holds" (topS 51) ∧ FK K "_law_put" "_law_put" (topS 52) ∧ FK K "_law_simple" "_law_simple" (topS 53) ∧ FK K "_law_split" "_law_split" (topS 54) ∧ FK K "_law_some_chance" "_law_some_chance" (topS 55) ∧ FK K "_law_some_table" "_law_some_table" (topS 56) ∧ FK K "_law_some_test" "_law_some_test" (topS 57) ∧ FK K "_law_some_row" "_law_some_row" (topS 58) ∧ FK K "_law_some_block" "_law_some_block" (topS 59) ∧ FK K "_law_need" "_law_need" (topS 60) ∧ FK K "_law_cap" "_law_cap" (topS 61) ∧ FK K "_law_program" "_law_program" (topS 62) ∧ FK K "_law_added" "_law_added" (topS 63) ∧ FK K "_law_support" "_law_support" (topS 64) ∧ FK K "_law_starts" "_law_starts" (topS 65) ∧ FK K "_law_road" "_law_road" (topS 66) ∧ FK K "_law_states" "_law_states" (topS 67) ∧ FK K "_law_sure" "_law_sure" (topS 68) ∧ FK K "_law_paths" "_law_paths" (topS 69) ∧ FK K "_law_drawn_block" "_law_drawn_block" (topS 70) ∧ FK K "_law_word_of" "_law_word_of" (topS 71) ∧ FK K "_law_sure_word" "_law_sure_word" (topS 72) ∧ FK K "law" "law" (topS 73) ∧ FK K "with_block_blocks" "with_block" (topS 2) ∧ FK K "with_block_promises" "with_block" (topS 14)
section
variable {w : World} {K : PySem.W.Frag} {mg : Str → Option Value} {h : Heap} {C fI B : Addr}
theorem o_inner_blocks (X : K.In h) (G : h.Ns mainGlobals mg) (f : FK K "inner_blocks" "inner_blocks" (topS 1)) (base : Heap) : OkAt w K mg base 0 "inner_blocks" := ok_ir (f := 0) (d := d_inner_blocks) X G f rfl c_inner_blocks fun _ _ _ _ _ _ us hl => match us, hl with | [_], _ => by kernel_rfl
theorem o_cap (X : K.In h) (G : h.Ns mainGlobals mg) (f : FK K "cap" "cap" (topS 6)) (base : Heap) : OkAt w K mg base 1 "cap" := ok_ir (f := 1) (d := d_cap) X G f rfl c_cap fun _ _ _ _ _ _ us hl => match us, hl with | [_], _ => by kernel_rfl
theorem o_row_need (X : K.In h) (G : h.Ns mainGlobals mg) (f : FK K "row_need" "row_need" (topS 7)) (base : Heap) : OkAt w K mg base 2 "row_need" := ok_ir (f := 2) (d := d_row_need) X G f rfl c_row_need fun _ _ _ _ _ _ us hl => match us, hl with | [_, _], _ => by kernel_rfl
theorem o_need (X : K.In h) (G : h.Ns mainGlobals mg) (f : FK K "need" "need" (topS 8)) (base : Heap) : OkAt w K mg base 3 "need" := ok_ir (f := 3) (d := d_need) X G f rfl c_need fun _ _ _ _ _ _ us hl => match us, hl with | [_, _], _ => by kernel_rfl
theorem o_regions (X : K.In h) (G : h.Ns mainGlobals mg) (f : FK K "regions" "regions" (topS 9)) (base : Heap) : OkAt w K mg base 4 "regions" := ok_ir (f := 4) (d := d_regions) X G f rfl c_regions fun _ _ _ _ _ _ us hl => match us, hl with | [_, _], _ => by kernel_rfl
theorem o_holds (X : K.In h) (G : h.Ns mainGlobals mg) (f : FK K "holds" "holds" (topS 10)) (base : Heap) : OkAt w K mg base 5 "holds" := ok_ir (f := 5) (d := d_holds) X G f rfl c_holds fun _ _ _ _ _ _ us hl => match us, hl with | [_, _], _ => by kernel_rfl
theorem o_holds_in (X : K.In h) (G : h.Ns mainGlobals mg) (f : FK K "holds_in" "holds_in" (topS 11)) (base : Heap) : OkAt w K mg base 6 "holds_in" := ok_ir (f := 6) (d := d_holds_in) X G f rfl c_holds_in fun _ _ _ _ _ _ us hl => match us, hl with | [_, _, _], _ => by kernel_rfl
theorem o_put_loops (X : K.In h) (G : h.Ns mainGlobals mg) (f : FK K "put_loops" "put_loops" (topS 13)) (base : Heap) : OkAt w K mg base 7 "put_loops" := ok_ir (f := 7) (d := d_put_loops) X G f rfl c_put_loops fun _ _ _ _ _ _ us hl => match us, hl with | [_, _], _ => by kernel_rfl
theorem o_promised (X : K.In h) (G : h.Ns mainGlobals mg) (f : FK K "promised" "promised" (topS 16)) (base : Heap) : OkAt w K mg base 8 "promised" := ok_ir (f := 8) (d := d_promised) X G f rfl c_promised fun _ _ _ _ _ _ us hl => match us, hl with | [_], _ => by kernel_rfl
theorem o_lowered (X : K.In h) (G : h.Ns mainGlobals mg) (f : FK K "lowered" "lowered" (topS 18)) (base : Heap) : OkAt w K mg base 9 "lowered" := ok_ir (f := 9) (d := d_lowered) X G f rfl c_lowered fun _ _ _ _ _ _ us hl => match us, hl with | [_, _], _ => by kernel_rfl
theorem o_draw_numbers (X : K.In h) (G : h.Ns mainGlobals mg) (f : FK K "draw_numbers" "draw_numbers" (topS 19)) (base : Heap) : OkAt w K mg base 10 "draw_numbers" := ok_ir (f := 10) (d := d_draw_numbers) X G f rfl c_draw_numbers fun _ _ _ _ _ _ us hl => match us, hl with | [_, _], _ => by kernel_rfl
theorem o_sums_below (X : K.In h) (G : h.Ns mainGlobals mg) (f : FK K "sums_below" "sums_below" (topS 20)) (base : Heap) : OkAt w K mg base 11 "sums_below" := ok_ir (f := 11) (d := d_sums_below) X G f rfl c_sums_below fun _ _ _ _ _ _ us hl => match us, hl with | [_, _], _ => by kernel_rfl
theorem o_sums_of (X : K.In h) (G : h.Ns mainGlobals mg) (f : FK K "sums_of" "sums_of" (topS 21)) (base : Heap) : OkAt w K mg base 12 "sums_of" := ok_ir (f := 12) (d := d_sums_of) X G f rfl c_sums_of fun _ _ _ _ _ _ us hl => match us, hl with | [_, _, _], _ => by kernel_rfl
theorem o_drawn (X : K.In h) (G : h.Ns mainGlobals mg) (f : FK K "drawn" "drawn" (topS 22)) (base : Heap) : OkAt w K mg base 13 "drawn" := ok_ir (f := 13) (d := d_drawn) X G f rfl c_drawn fun _ _ _ _ _ _ us hl => match us, hl with | [_, _, _, _], _ => by kernel_rfl
theorem o_numbers_behind (X : K.In h) (G : h.Ns mainGlobals mg) (f : FK K "numbers_behind" "numbers_behind" (topS 23)) (base : Heap) : OkAt w K mg base 14 "numbers_behind" := ok_ir (f := 14) (d := d_numbers_behind) X G f rfl c_numbers_behind fun _ _ _ _ _ _ us hl => match us, hl with | [_, _, _], _ => by kernel_rfl
theorem o_simple_states (X : K.In h) (G : h.Ns mainGlobals mg) (f : FK K "simple_states" "simple_states" (topS 24)) (base : Heap) : OkAt w K mg base 15 "simple_states" := ok_ir (f := 15) (d := d_simple_states) X G f rfl c_simple_states fun _ _ _ _ _ _ us hl => match us, hl with | [_, _, _], _ => by kernel_rfl
theorem o_row_states (X : K.In h) (G : h.Ns mainGlobals mg) (f : FK K "row_states" "row_states" (topS 25)) (base : Heap) : OkAt w K mg base 16 "row_states" := ok_ir (f := 16) (d := d_row_states) X G f rfl c_row_states fun _ _ _ _ _ _ us hl => match us, hl with | [_, _, _], _ => by kernel_rfl
theorem o_block_states (X : K.In h) (G : h.Ns mainGlobals mg) (f : FK K "block_states" "block_states" (topS 26)) (base : Heap) : OkAt w K mg base 17 "block_states" := ok_ir (f := 17) (d := d_block_states) X G f rfl c_block_states fun _ _ _ _ _ _ us hl => match us, hl with | [_, _, _], _ => by kernel_rfl
theorem o_ends (X : K.In h) (G : h.Ns mainGlobals mg) (f : FK K "ends" "ends" (topS 27)) (base : Heap) : OkAt w K mg base 18 "ends" := ok_ir (f := 18) (d := d_ends) X G f rfl c_ends fun _ _ _ _ _ _ us hl => match us, hl with | [_, _], _ => by kernel_rfl
theorem o_is_path_number (X : K.In h) (G : h.Ns mainGlobals mg) (f : FK K "is_path_number" "is_path_number" (topS 33)) (base : Heap) : OkAt w K mg base 19 "is_path_number" := ok_ir (f := 19) (d := d_is_path_number) X G f rfl c_is_path_number fun _ _ _ _ _ _ us hl => match us, hl with | [_], _ => by kernel_rfl
theorem o_has_path (X : K.In h) (G : h.Ns mainGlobals mg) (f : FK K "has_path" "has_path" (topS 34)) (base : Heap) : OkAt w K mg base 20 "has_path" := ok_ir (f := 20) (d := d_has_path) X G f rfl c_has_path fun _ _ _ _ _ _ us hl => match us, hl with | [_, _], _ => by kernel_rfl
theorem o_road_rows (X : K.In h) (G : h.Ns mainGlobals mg) (f : FK K "road_rows" "road_rows" (topS 35)) (base : Heap) : OkAt w K mg base 21 "road_rows" := ok_ir (f := 21) (d := d_road_rows) X G f rfl c_road_rows fun _ _ _ _ _ _ us hl => match us, hl with | [_, _], _ => by kernel_rfl
theorem o_road (X : K.In h) (G : h.Ns mainGlobals mg) (f : FK K "road" "road" (topS 36)) (base : Heap) : OkAt w K mg base 22 "road" := ok_ir (f := 22) (d := d_road) X G f rfl c_road fun _ _ _ _ _ _ us hl => match us, hl with | [_, _], _ => by kernel_rfl
theorem o_states_behind (X : K.In h) (G : h.Ns mainGlobals mg) (f : FK K "states_behind" "states_behind" (topS 37)) (base : Heap) : OkAt w K mg base 23 "states_behind" := ok_ir (f := 23) (d := d_states_behind) X G f rfl c_states_behind fun _ _ _ _ _ _ us hl => match us, hl with | [_], _ => by kernel_rfl
theorem o_sure_in (X : K.In h) (G : h.Ns mainGlobals mg) (f : FK K "sure_in" "sure_in" (topS 38)) (base : Heap) : OkAt w K mg base 24 "sure_in" := ok_ir (f := 24) (d := d_sure_in) X G f rfl c_sure_in fun _ _ _ _ _ _ us hl => match us, hl with | [_, _], _ => by kernel_rfl
theorem o_sure (X : K.In h) (G : h.Ns mainGlobals mg) (f : FK K "sure" "sure" (topS 39)) (base : Heap) : OkAt w K mg base 25 "sure" := ok_ir (f := 25) (d := d_sure) X G f rfl c_sure fun _ _ _ _ _ _ us hl => match us, hl with | [_, _, _], _ => by kernel_rfl
theorem o__law_start (X : K.In h) (G : h.Ns mainGlobals mg) (f : FK K "_law_start" "_law_start" (topS 41)) (base : Heap) : OkAt w K mg base 26 "_law_start" := ok_ir (f := 26) (d := d__law_start) X G f rfl c__law_start fun _ _ _ _ _ _ us hl => match us, hl with | [_], _ => by kernel_rfl
theorem o__law_draw (X : K.In h) (G : h.Ns mainGlobals mg) (f : FK K "_law_draw" "_law_draw" (topS 42)) (base : Heap) : OkAt w K mg base 27 "_law_draw" := ok_ir (f := 27) (d := d__law_draw) X G f rfl c__law_draw fun _ _ _ _ _ _ us hl => match us, hl with | [_, _], _ => by kernel_rfl
theorem o__law_one_of (X : K.In h) (G : h.Ns mainGlobals mg) (f : FK K "_law_one_of" "_law_one_of" (topS 43)) (base : Heap) : OkAt w K mg base 28 "_law_one_of" := ok_ir (f := 28) (d := d__law_one_of) X G f rfl c__law_one_of fun _ _ _ _ _ _ us hl => match us, hl with | [_, _], _ => by kernel_rfl
theorem o__law_is_int (X : K.In h) (G : h.Ns mainGlobals mg) (f : FK K "_law_is_int" "_law_is_int" (topS 44)) (base : Heap) : OkAt w K mg base 29 "_law_is_int" := ok_ir (f := 29) (d := d__law_is_int) X G f rfl c__law_is_int fun _ _ _ _ _ _ us hl => match us, hl with | [_], _ => by kernel_rfl
theorem o__law_same (X : K.In h) (G : h.Ns mainGlobals mg) (f : FK K "_law_same" "_law_same" (topS 45)) (base : Heap) : OkAt w K mg base 30 "_law_same" := ok_ir (f := 30) (d := d__law_same) X G f rfl c__law_same fun _ _ _ _ _ _ us hl => match us, hl with | [_, _], _ => by kernel_rfl
theorem o__law_gcd (X : K.In h) (G : h.Ns mainGlobals mg) (f : FK K "_law_gcd" "_law_gcd" (topS 46)) (base : Heap) : OkAt w K mg base 31 "_law_gcd" := ok_ir (f := 31) (d := d__law_gcd) X G f rfl c__law_gcd fun _ _ _ _ _ _ us hl => match us, hl with | [_, _], _ => by kernel_rfl
theorem o__law_fraction (X : K.In h) (G : h.Ns mainGlobals mg) (f : FK K "_law_fraction" "_law_fraction" (topS 47)) (base : Heap) : OkAt w K mg base 32 "_law_fraction" := ok_ir (f := 32) (d := d__law_fraction) X G f rfl c__law_fraction fun _ _ _ _ _ _ us hl => match us, hl with | [_, _], _ => by kernel_rfl
theorem o__law_plus (X : K.In h) (G : h.Ns mainGlobals mg) (f : FK K "_law_plus" "_law_plus" (topS 48)) (base : Heap) : OkAt w K mg base 33 "_law_plus" := ok_ir (f := 33) (d := d__law_plus) X G f rfl c__law_plus fun _ _ _ _ _ _ us hl => match us, hl with | [_, _], _ => by kernel_rfl
theorem o__law_rest (X : K.In h) (G : h.Ns mainGlobals mg) (f : FK K "_law_rest" "_law_rest" (topS 49)) (base : Heap) : OkAt w K mg base 34 "_law_rest" := ok_ir (f := 34) (d := d__law_rest) X G f rfl c__law_rest fun _ _ _ _ _ _ us hl => match us, hl with | [_], _ => by kernel_rfl
theorem o__law_part_of (X : K.In h) (G : h.Ns mainGlobals mg) (f : FK K "_law_part_of" "_law_part_of" (topS 50)) (base : Heap) : OkAt w K mg base 35 "_law_part_of" := ok_ir (f := 35) (d := d__law_part_of) X G f rfl c__law_part_of fun _ _ _ _ _ _ us hl => match us, hl with | [_, _], _ => by kernel_rfl
theorem o__law_holds (X : K.In h) (G : h.Ns mainGlobals mg) (f : FK K "_law_holds" "_law_holds" (topS 51)) (base : Heap) : OkAt w K mg base 36 "_law_holds" := ok_ir (f := 36) (d := d__law_holds) X G f rfl c__law_holds fun _ _ _ _ _ _ us hl => match us, hl with | [_, _], _ => by kernel_rfl
theorem o__law_put (X : K.In h) (G : h.Ns mainGlobals mg) (f : FK K "_law_put" "_law_put" (topS 52)) (base : Heap) : OkAt w K mg base 37 "_law_put" := ok_ir (f := 37) (d := d__law_put) X G f rfl c__law_put fun _ _ _ _ _ _ us hl => match us, hl with | [_, _, _], _ => by kernel_rfl
theorem o__law_simple (X : K.In h) (G : h.Ns mainGlobals mg) (f : FK K "_law_simple" "_law_simple" (topS 53)) (base : Heap) : OkAt w K mg base 38 "_law_simple" := ok_ir (f := 38) (d := d__law_simple) X G f rfl c__law_simple fun _ _ _ _ _ _ us hl => match us, hl with | [_, _], _ => by kernel_rfl
theorem o__law_split (X : K.In h) (G : h.Ns mainGlobals mg) (f : FK K "_law_split" "_law_split" (topS 54)) (base : Heap) : OkAt w K mg base 39 "_law_split" := ok_ir (f := 39) (d := d__law_split) X G f rfl c__law_split fun _ _ _ _ _ _ us hl => match us, hl with | [_, _], _ => by kernel_rfl
theorem o__law_some_chance (X : K.In h) (G : h.Ns mainGlobals mg) (f : FK K "_law_some_chance" "_law_some_chance" (topS 55)) (base : Heap) : OkAt w K mg base 40 "_law_some_chance" := ok_ir (f := 40) (d := d__law_some_chance) X G f rfl c__law_some_chance fun _ _ _ _ _ _ us hl => match us, hl with | [_, _], _ => by kernel_rfl
theorem o__law_some_table (X : K.In h) (G : h.Ns mainGlobals mg) (f : FK K "_law_some_table" "_law_some_table" (topS 56)) (base : Heap) : OkAt w K mg base 41 "_law_some_table" := ok_ir (f := 41) (d := d__law_some_table) X G f rfl c__law_some_table fun _ _ _ _ _ _ us hl => match us, hl with | [_, _], _ => by kernel_rfl
theorem o__law_some_test (X : K.In h) (G : h.Ns mainGlobals mg) (f : FK K "_law_some_test" "_law_some_test" (topS 57)) (base : Heap) : OkAt w K mg base 42 "_law_some_test" := ok_ir (f := 42) (d := d__law_some_test) X G f rfl c__law_some_test fun _ _ _ _ _ _ us hl => match us, hl with | [_, _], _ => by kernel_rfl
theorem o__law_some_row (X : K.In h) (G : h.Ns mainGlobals mg) (f : FK K "_law_some_row" "_law_some_row" (topS 58)) (base : Heap) : OkAt w K mg base 43 "_law_some_row" := ok_ir (f := 43) (d := d__law_some_row) X G f rfl c__law_some_row fun _ _ _ _ _ _ us hl => match us, hl with | [_, _, _, _], _ => by kernel_rfl
theorem o__law_some_block (X : K.In h) (G : h.Ns mainGlobals mg) (f : FK K "_law_some_block" "_law_some_block" (topS 59)) (base : Heap) : OkAt w K mg base 44 "_law_some_block" := ok_ir (f := 44) (d := d__law_some_block) X G f rfl c__law_some_block fun _ _ _ _ _ _ us hl => match us, hl with | [_, _, _, _, _, _], _ => by kernel_rfl
theorem o__law_need (X : K.In h) (G : h.Ns mainGlobals mg) (f : FK K "_law_need" "_law_need" (topS 60)) (base : Heap) : OkAt w K mg base 45 "_law_need" := ok_ir (f := 45) (d := d__law_need) X G f rfl c__law_need fun _ _ _ _ _ _ us hl => match us, hl with | [_, _], _ => by kernel_rfl
theorem o__law_cap (X : K.In h) (G : h.Ns mainGlobals mg) (f : FK K "_law_cap" "_law_cap" (topS 61)) (base : Heap) : OkAt w K mg base 46 "_law_cap" := ok_ir (f := 46) (d := d__law_cap) X G f rfl c__law_cap fun _ _ _ _ _ _ us hl => match us, hl with | [_], _ => by kernel_rfl
theorem o__law_program (X : K.In h) (G : h.Ns mainGlobals mg) (f : FK K "_law_program" "_law_program" (topS 62)) (base : Heap) : OkAt w K mg base 47 "_law_program" := ok_ir (f := 47) (d := d__law_program) X G f rfl c__law_program fun _ _ _ _ _ _ us hl => match us, hl with | [_, _, _], _ => by kernel_rfl
theorem o__law_added (X : K.In h) (G : h.Ns mainGlobals mg) (f : FK K "_law_added" "_law_added" (topS 63)) (base : Heap) : OkAt w K mg base 48 "_law_added" := ok_ir (f := 48) (d := d__law_added) X G f rfl c__law_added fun _ _ _ _ _ _ us hl => match us, hl with | [_, _, _], _ => by kernel_rfl
theorem o__law_support (X : K.In h) (G : h.Ns mainGlobals mg) (f : FK K "_law_support" "_law_support" (topS 64)) (base : Heap) : OkAt w K mg base 49 "_law_support" := ok_ir (f := 49) (d := d__law_support) X G f rfl c__law_support fun _ _ _ _ _ _ us hl => match us, hl with | [_, _], _ => by kernel_rfl
theorem o__law_starts (X : K.In h) (G : h.Ns mainGlobals mg) (f : FK K "_law_starts" "_law_starts" (topS 65)) (base : Heap) : OkAt w K mg base 50 "_law_starts" := ok_ir (f := 50) (d := d__law_starts) X G f rfl c__law_starts fun _ _ _ _ _ _ us hl => match us, hl with | [_, _], _ => by kernel_rfl
theorem o__law_road (X : K.In h) (G : h.Ns mainGlobals mg) (f : FK K "_law_road" "_law_road" (topS 66)) (base : Heap) : OkAt w K mg base 51 "_law_road" := ok_ir (f := 51) (d := d__law_road) X G f rfl c__law_road fun _ _ _ _ _ _ us hl => match us, hl with | [_, _], _ => by kernel_rfl
theorem o__law_states (X : K.In h) (G : h.Ns mainGlobals mg) (f : FK K "_law_states" "_law_states" (topS 67)) (base : Heap) : OkAt w K mg base 52 "_law_states" := ok_ir (f := 52) (d := d__law_states) X G f rfl c__law_states fun _ _ _ _ _ _ us hl => match us, hl with | [_, _, _], _ => by kernel_rfl
theorem o__law_sure (X : K.In h) (G : h.Ns mainGlobals mg) (f : FK K "_law_sure" "_law_sure" (topS 68)) (base : Heap) : OkAt w K mg base 53 "_law_sure" := ok_ir (f := 53) (d := d__law_sure) X G f rfl c__law_sure fun _ _ _ _ _ _ us hl => match us, hl with | [_, _], _ => by kernel_rfl
theorem o__law_paths (X : K.In h) (G : h.Ns mainGlobals mg) (f : FK K "_law_paths" "_law_paths" (topS 69)) (base : Heap) : OkAt w K mg base 54 "_law_paths" := ok_ir (f := 54) (d := d__law_paths) X G f rfl c__law_paths fun _ _ _ _ _ _ us hl => match us, hl with | [_, _], _ => by kernel_rfl
theorem o__law_drawn_block (X : K.In h) (G : h.Ns mainGlobals mg) (f : FK K "_law_drawn_block" "_law_drawn_block" (topS 70)) (base : Heap) : OkAt w K mg base 55 "_law_drawn_block" := ok_ir (f := 55) (d := d__law_drawn_block) X G f rfl c__law_drawn_block fun _ _ _ _ _ _ us hl => match us, hl with | [_, _], _ => by kernel_rfl
theorem o__law_word_of (X : K.In h) (G : h.Ns mainGlobals mg) (f : FK K "_law_word_of" "_law_word_of" (topS 71)) (nf : NfK K C fI B) (fr : FreeK K) (cs : ConsK K) (base : Heap) : OkAt w K mg base 56 "_law_word_of" := ok__law_word_of X G f nf fr cs base fun _ _ _ _ _ _ us hl => match us, hl with | [_, _], _ => by kernel_rfl
theorem o__law_sure_word (X : K.In h) (G : h.Ns mainGlobals mg) (f : FK K "_law_sure_word" "_law_sure_word" (topS 72)) (nf : NfK K C fI B) (fr : FreeK K) (cs : ConsK K) (base : Heap) : OkAt w K mg base 57 "_law_sure_word" := ok__law_sure_word X G f nf fr cs base fun _ _ _ _ _ _ us hl => match us, hl with | [_, _], _ => by kernel_rfl
theorem o_law (X : K.In h) (G : h.Ns mainGlobals mg) (f : FK K "law" "law" (topS 73)) (base : Heap) : OkAt w K mg base 58 "law" := ok_ir (f := 58) (d := d_law) X G f rfl c_law fun _ _ _ _ _ _ us hl => match us, hl with | [_], _ => by kernel_rfl
theorem o_with_block_blocks (X : K.In h) (G : h.Ns mainGlobals mg) (f : FK K "with_block_blocks" "with_block" (topS 2)) (base : Heap) : OkAt w K mg base 59 "with_block_blocks" := ok_ir (f := 59) (d := d_with_block_blocks) X G f rfl c_with_block_blocks fun _ _ _ _ _ _ us hl => match us, hl with | [_, _], _ => by kernel_rfl
theorem o_with_block_promises (X : K.In h) (G : h.Ns mainGlobals mg) (f : FK K "with_block_promises" "with_block" (topS 14)) (base : Heap) : OkAt w K mg base 60 "with_block_promises" := ok_ir (f := 60) (d := d_with_block_promises) X G f rfl c_with_block_promises fun _ _ _ _ _ _ us hl => match us, hl with | [_, _], _ => by kernel_rfl
theorem all_at (X : K.In h) (G : h.Ns mainGlobals mg) (q : FKs K) (nf : NfK K C fI B) (fr : FreeK K) (cs : ConsK K) (base : Heap) : ∀ (f : Nat) x, fns[f]? = some x → OkAt w K mg base f x := by
  obtain ⟨q0, q1, q2, q3, q4, q5, q6, q7, q8, q9, q10, q11, q12, q13, q14, q15, q16, q17, q18, q19, q20, q21, q22, q23, q24, q25, q26, q27, q28, q29, q30, q31, q32, q33, q34, q35, q36, q37, q38, q39, q40, q41, q42, q43, q44, q45, q46, q47, q48, q49, q50, q51, q52, q53, q54, q55, q56, q57, q58, q59, q60⟩ := q
  intro f x hx
  match f, hx with
  | 0, hx => exact (Option.some.inj hx) ▸ o_inner_blocks X G q0 base
  | 1, hx => exact (Option.some.inj hx) ▸ o_cap X G q1 base
  | 2, hx => exact (Option.some.inj hx) ▸ o_row_need X G q2 base
  | 3, hx => exact (Option.some.inj hx) ▸ o_need X G q3 base
  | 4, hx => exact (Option.some.inj hx) ▸ o_regions X G q4 base
  | 5, hx => exact (Option.some.inj hx) ▸ o_holds X G q5 base
  | 6, hx => exact (Option.some.inj hx) ▸ o_holds_in X G q6 base
  | 7, hx => exact (Option.some.inj hx) ▸ o_put_loops X G q7 base
  | 8, hx => exact (Option.some.inj hx) ▸ o_promised X G q8 base
  | 9, hx => exact (Option.some.inj hx) ▸ o_lowered X G q9 base
  | 10, hx => exact (Option.some.inj hx) ▸ o_draw_numbers X G q10 base
  | 11, hx => exact (Option.some.inj hx) ▸ o_sums_below X G q11 base
  | 12, hx => exact (Option.some.inj hx) ▸ o_sums_of X G q12 base
  | 13, hx => exact (Option.some.inj hx) ▸ o_drawn X G q13 base
  | 14, hx => exact (Option.some.inj hx) ▸ o_numbers_behind X G q14 base
  | 15, hx => exact (Option.some.inj hx) ▸ o_simple_states X G q15 base
  | 16, hx => exact (Option.some.inj hx) ▸ o_row_states X G q16 base
  | 17, hx => exact (Option.some.inj hx) ▸ o_block_states X G q17 base
  | 18, hx => exact (Option.some.inj hx) ▸ o_ends X G q18 base
  | 19, hx => exact (Option.some.inj hx) ▸ o_is_path_number X G q19 base
  | 20, hx => exact (Option.some.inj hx) ▸ o_has_path X G q20 base
  | 21, hx => exact (Option.some.inj hx) ▸ o_road_rows X G q21 base
  | 22, hx => exact (Option.some.inj hx) ▸ o_road X G q22 base
  | 23, hx => exact (Option.some.inj hx) ▸ o_states_behind X G q23 base
  | 24, hx => exact (Option.some.inj hx) ▸ o_sure_in X G q24 base
  | 25, hx => exact (Option.some.inj hx) ▸ o_sure X G q25 base
  | 26, hx => exact (Option.some.inj hx) ▸ o__law_start X G q26 base
  | 27, hx => exact (Option.some.inj hx) ▸ o__law_draw X G q27 base
  | 28, hx => exact (Option.some.inj hx) ▸ o__law_one_of X G q28 base
  | 29, hx => exact (Option.some.inj hx) ▸ o__law_is_int X G q29 base
  | 30, hx => exact (Option.some.inj hx) ▸ o__law_same X G q30 base
  | 31, hx => exact (Option.some.inj hx) ▸ o__law_gcd X G q31 base
  | 32, hx => exact (Option.some.inj hx) ▸ o__law_fraction X G q32 base
  | 33, hx => exact (Option.some.inj hx) ▸ o__law_plus X G q33 base
  | 34, hx => exact (Option.some.inj hx) ▸ o__law_rest X G q34 base
  | 35, hx => exact (Option.some.inj hx) ▸ o__law_part_of X G q35 base
  | 36, hx => exact (Option.some.inj hx) ▸ o__law_holds X G q36 base
  | 37, hx => exact (Option.some.inj hx) ▸ o__law_put X G q37 base
  | 38, hx => exact (Option.some.inj hx) ▸ o__law_simple X G q38 base
  | 39, hx => exact (Option.some.inj hx) ▸ o__law_split X G q39 base
  | 40, hx => exact (Option.some.inj hx) ▸ o__law_some_chance X G q40 base
  | 41, hx => exact (Option.some.inj hx) ▸ o__law_some_table X G q41 base
  | 42, hx => exact (Option.some.inj hx) ▸ o__law_some_test X G q42 base
  | 43, hx => exact (Option.some.inj hx) ▸ o__law_some_row X G q43 base
  | 44, hx => exact (Option.some.inj hx) ▸ o__law_some_block X G q44 base
  | 45, hx => exact (Option.some.inj hx) ▸ o__law_need X G q45 base
  | 46, hx => exact (Option.some.inj hx) ▸ o__law_cap X G q46 base
  | 47, hx => exact (Option.some.inj hx) ▸ o__law_program X G q47 base
  | 48, hx => exact (Option.some.inj hx) ▸ o__law_added X G q48 base
  | 49, hx => exact (Option.some.inj hx) ▸ o__law_support X G q49 base
  | 50, hx => exact (Option.some.inj hx) ▸ o__law_starts X G q50 base
  | 51, hx => exact (Option.some.inj hx) ▸ o__law_road X G q51 base
  | 52, hx => exact (Option.some.inj hx) ▸ o__law_states X G q52 base
  | 53, hx => exact (Option.some.inj hx) ▸ o__law_sure X G q53 base
  | 54, hx => exact (Option.some.inj hx) ▸ o__law_paths X G q54 base
  | 55, hx => exact (Option.some.inj hx) ▸ o__law_drawn_block X G q55 base
  | 56, hx => exact (Option.some.inj hx) ▸ o__law_word_of X G q56 nf fr cs base
  | 57, hx => exact (Option.some.inj hx) ▸ o__law_sure_word X G q57 nf fr cs base
  | 58, hx => exact (Option.some.inj hx) ▸ o_law X G q58 base
  | 59, hx => exact (Option.some.inj hx) ▸ o_with_block_blocks X G q59 base
  | 60, hx => exact (Option.some.inj hx) ▸ o_with_block_promises X G q60 base
  | n + 61, hx => exact absurd hx (by rw [List.getElem?_eq_none (by show 61 ≤ n + 61; omega)]; exact fun z => nomatch z)
end
end K82
end

section
set_option autoImplicit false
set_option linter.all false
set_option maxRecDepth 1000000
set_option maxHeartbeats 0
/-! K82E: the law's promise. -/
namespace K82
open PySem PySem.Spec PyProof.Rows L2 Ev
def spLaw (K : PySem.W.Frag) : Sp := spC (GP.ax K (exK K) 100) 58 1
section
variable {w : World} {K : PySem.W.Frag} {mg : Str → Option Value} {h : Heap} {C fI B : Addr}
theorem pg_ok (X : K.In h) (G : h.Ns mainGlobals mg) (q : FKs K) (nf : NfK K C fI B) (fr : FreeK K) (cs : ConsK K) (base : Heap) : GP.Ok PK w K mg base (exK K) where
  tab := tab_ok
  free := frees X G fr
  cons := conss X G cs
  rz := fun c x hx => by
    match c, hx with
    | 0, hx =>
      obtain rfl : "NotFit" = x := Option.some.inj hx
      refine ⟨C, "word", ex0 nf, fun X' e1 e2 e3 e4 e5 hc hr hg hd p p1 pos ta hA fm => ?_⟩
      have T' : PySem.NfX.Txt X'.prog X'.K X'.mg C fI := by rw [e1, e3, e4]; exact txt_of X G nf
      exact pmk_nf T' hr hA hg (form_star fm [] _) rfl
    | c + 1, hx => cases hx
  len := tab_len
  fns := all_at X G q nf fr cs base
theorem top_ok {fa : Addr} (X : K.In h) (G : h.Ns mainGlobals mg) (hfa : mg "law" = some (.ref fa)) (q : FKs K) (nf : NfK K C fI B) (fr : FreeK K) (cs : ConsK K) :
    ∃ fd : FuncData, (∀ (s : Shared) (u : Value), BindsTo s fd ⟨[u], []⟩ [("script", u)]) ∧ ∀ base : Heap, K.In base → base.Ns mainGlobals mg → FnOk PK w K mg base (L2.CX PK w) 103 fa fd ["script"] (spLaw K) := by
  have ok := fun base => pg_ok (w := w) X G q nf fr cs base
  obtain ⟨_, _, _, _, _, _, _, _, _, _, _, _, _, _, _, _, _, _, _, _, _, _, _, _, _, _, _, _, _, _, _, _, _, _, _, _, _, _, _, _, _, _, _, _, _, _, _, _, _, _, _, _, _, _, _, _, _, _, ⟨a, oc, od, kV, doc, pm, an, cdv, ct, osl, h1, h2, h3, h4⟩, _, _⟩ := q
  have e := hfa.symm.trans (PySem.W.mg_of X G h1)
  cases e
  have F := fun_mk (st := topS 73) h2 h3 h4
  have hc := c_law
  unfold one at hc
  simp only [Bool.and_eq_true, decide_eq_true_eq] at hc
  obtain ⟨⟨⟨e1, e2⟩, e3⟩, e4⟩ := hc
  exact ⟨_, fun s u => .of_eq (by kernel_rfl), fun base _ _ => Pg.irOk (d := 99) (ok base) (Pg.all (ok base) 99) (f := 58) (df := d_law) rfl F (sc_of e3) e1 e2 e4⟩
theorem reps_itsL {fx : Fx} {F : Addr → Prop} {μ : List Addr} {H : Hp} : ∀ ns : List Int, Reps fx F μ H (itsL ns) (ns.map V.int)
  | [] => by
    show Reps fx F μ H [] []
    rw [reps_nil]
  | n :: r => by
    show Reps fx F μ H (.int n :: itsL r) (V.int n :: r.map V.int)
    rw [reps_cons]
    exact ⟨_, _, rfl, by rw [rep_int], reps_itsL r⟩
/-- what is asked of the law holds -/
theorem sp_ok (nl : K.all (fun p => !(p.2.cls == .type "list")) = true) {H : Hp} {a : Addr} {ns : List Int} (hl : ns.length ≤ 63) (hS : SqL K H a (ns.map V.int)) : spLaw K [.ref a] H (fun v _ => v = .bl true) fun _ _ _ => False := by
  have hR : Rd H a (.lst (ns.map V.int)) := by
    rcases hS with h | ⟨o, its, n, hk, hcl, _⟩
    · exact h
    · exfalso
      have hm : ∀ (l : PySem.W.Frag), l.lookup a = some o → l.all (fun p => !(p.2.cls == .type "list")) = true → False := by
        intro l
        induction l with
        | nil => intro h _; cases h
        | cons p r ih =>
          intro h h2
          obtain ⟨b, ob⟩ := p
          rw [List.all_cons, Bool.and_eq_true] at h2
          rw [List.lookup_cons] at h
          split at h
          · cases h
            have z := h2.1
            rw [hcl] at z
            revert z
            decide
          · exact ih h h2.2
      exact hm K hk nl
  obtain ⟨st', e⟩ := law_ok ns (by omega) 100 (by decide)
  have live : H a ≠ none := by
    rcases hR with h | ⟨o, h⟩ <;> rw [h] <;> exact fun z => nomatch z
  refine ⟨fun b => b = a, [], [], [.lst (itsL ns)], ⟨rfl, List.nodup_nil, fun _ z => absurd z List.not_mem_nil, fun b hb => by subst hb; exact live, fun k b c z => by cases z⟩, ?_, rfl, ?_⟩
  · rw [reps_cons]
    refine ⟨.ref a, [], rfl, ?_, by rw [reps_nil]⟩
    unfold Rep
    exact ⟨a, _, rfl, rfl, hR, reps_itsL _⟩
  · have hC : (GP.ax K (exK K) 100).C = C 100 := rfl
    rw [hC, e]
    intro v H' F' μ' _ _ r
    unfold Res at r
    rw [if_neg Bool.false_ne_true, rep_bl] at r
    exact r
theorem no_way {w : World} (H : Hp) (s : Shared) (e : Value) (s' : Shared) (h : L2.CX PK w [] H s (fun _ _ _ => False) e s') : False := by
  obtain ⟨_, _, _, _, _, _, _, _, _, _, _, _, z⟩ := h
  exact z.elim
end
end K82
end

section
set_option Elab.async false
set_option autoImplicit false
set_option linter.all false
set_option maxRecDepth 1000000
set_option maxHeartbeats 0
/-! K82F: the head. -/
namespace K82
open PySem PySem.Spec PyProof.Rows L2 Ev
section
variable {K : PySem.W.Frag} {h : Heap} {C fI B : Addr}
theorem fk_at (_ : K.In h) {x y : Str} {st : Stmt} {a : Addr} {oc : Value} {od : Option Addr} {kV doc pm : Value} {an : Option Addr} {cdv ct : Value} {osl : Array (Option Value)} (h1 : PySem.W.nsIn K mainGlobals x = some (some (.ref a)))
    (h2 : K.lookup a = some ⟨oc, od, .func (PySem.W.fnOf y y (defArgs st) (defBody st) (defScope st) .none kV doc pm an cdv ct), osl⟩) (h3 : PySem.W.codeIn K cdv y = true) (h4 : PySem.W.keepIn K (.ref a) = true) : FK K x y st := fk_mk h1 h2 h3 h4
theorem free_mk (_ : K.In h)
    (b0 : PySem.W.nsIn K mainGlobals "len" = some none)
    (b1 : PySem.W.nsIn K mainGlobals "tuple" = some none)
    (b2 : PySem.W.nsIn K mainGlobals "list" = some none)
    (b3 : PySem.W.nsIn K mainGlobals "max" = some none)
    (b4 : PySem.W.nsIn K mainGlobals "min" = some none)
    (b5 : PySem.W.nsIn K mainGlobals "sum" = some none)
    (b6 : PySem.W.nsIn K mainGlobals "any" = some none)
    (b7 : PySem.W.nsIn K mainGlobals "all" = some none)
    (b8 : PySem.W.nsIn K mainGlobals "sorted" = some none)
    (b9 : PySem.W.nsIn K mainGlobals "int" = some none)
    (b10 : PySem.W.nsIn K mainGlobals "abs" = some none)
    (b11 : PySem.W.nsIn K mainGlobals "set" = some none)
    (b12 : PySem.W.nsIn K mainGlobals "isinstance" = some none)
    (b13 : PySem.W.nsIn K mainGlobals "range" = some none)
    (b14 : PySem.W.nsIn K mainGlobals "reversed" = some none)
    (b15 : PySem.W.nsIn K mainGlobals "enumerate" = some none)
    (b16 : PySem.W.nsIn K mainGlobals "str" = some none)
    (b17 : PySem.W.nsIn K mainGlobals "bool" = some none)
    (b18 : PySem.W.nsIn K mainGlobals "dict" = some none)
    : FreeK K := by
  intro x hx
  simp only [blt, List.mem_cons, List.not_mem_nil, or_false] at hx
  rcases hx with rfl | rfl | rfl | rfl | rfl | rfl | rfl | rfl | rfl | rfl | rfl | rfl | rfl | rfl | rfl | rfl | rfl | rfl | rfl
  · exact b0
  · exact b1
  · exact b2
  · exact b3
  · exact b4
  · exact b5
  · exact b6
  · exact b7
  · exact b8
  · exact b9
  · exact b10
  · exact b11
  · exact b12
  · exact b13
  · exact b14
  · exact b15
  · exact b16
  · exact b17
  · exact b18
theorem cons_mk (_ : K.In h) {t1 t2 : Tok} (f : PySem.W.nsIn K mainGlobals "FAR" = some (some (.int (-1) t1))) (c : PySem.W.nsIn K mainGlobals "CAP" = some (some (.int 10 t2))) : ConsK K := by
  intro x n hx
  have hx : (x, n) ∈ [(("FAR" : Str), (-1 : Int)), ("CAP", 10)] := hx
  simp only [List.mem_cons, List.not_mem_nil, or_false, Prod.mk.injEq] at hx
  rcases hx with ⟨rfl, rfl⟩ | ⟨rfl, rfl⟩
  · exact ⟨t1, f⟩
  · exact ⟨t2, c⟩
theorem nf_mk (_ : K.In h) {nm q : Str} {N : Addr} {bs : List Value} {sn : List Str} {sub : List Value} {ab : Bool} {col : Option Bool} {dd : Option Addr} {k0 k1 k2 k3 k5 : Option Value}
    {oc : Value} {od : Option Addr} {doc pm : Value} {an : Option Addr} {cda cc : Addr} {ct : Value} {osl : Array (Option Value)} {ccl cl : Value} {cdd cld : Option Addr} {vs : Array Value} {ccs csl : Array (Option Value)} {file : Str} {tf : Tok}
    (gC : PySem.W.nsIn K mainGlobals "NotFit" = some (some (.ref C))) (gB : PySem.W.nsIn K mainGlobals "CastError" = some (some (.ref B))) (gS : PySem.W.nsIn K mainGlobals "super" = some none)
    (xC : K.lookup C = some (excClassObj nm q C N bs (.ref B :: PySem.HandSPX.veTail) true sn sub ab col dd k0 k1 k2 k3 k5 "ValueError.__new__"))
    (al : PySem.W.alongIn K "__init__" (.ref B :: PySem.HandSPX.veTail) = some (some (.builtin "ValueError.__init__")))
    (sa : PySem.W.findIn K (.ref C) "__setattr__" = some (some (.builtin "object.__setattr__"))) (ga : PySem.W.findIn K (.ref C) "__getattribute__" = some (some (.builtin "BaseException.__getattribute__")))
    (gg : PySem.W.findIn K (.ref C) "__getattr__" = some none) (eC : PySem.W.subIn K (.ref C) (.type "BaseException") = some true) (hC : PySem.W.hasDictIn K C = true)
    (ca : PySem.W.findIn K (.ref C) "__class__" = some (some (.builtin "object.__class__"))) (cn : PySem.W.specialIn K (.builtin "object.__class__") "__get__" = some (some (.builtin "getset_descriptor.__get__")))
    (ck : PySem.W.takesIn K (.builtin "object.__class__") = some true) (mO : PySem.W.mroIn K C (.type "object") = some true)
    (noN : PySem.W.findIn K (.ref C) "word" = some none) (iC : PySem.W.findIn K (.ref C) "__init__" = some (some (.ref fI))) (tC : PySem.W.typeIn K (.ref fI) = some (.type "function")) (kC : PySem.W.keepIn K (.ref C) = true)
    (vC : PySem.W.subIn K (.ref C) (.type "ValueError") = some true) (sC : PySem.W.subIn K (.ref C) (.ref C) = some true) (mC : PySem.W.mroIn K C (.ref C) = some true) (op : PySem.W.nsIn K cStatics "thirdparty.any" = some none)
    (tyC : PySem.W.typeIn K (.ref C) = some (.type "type")) (kit : PySem.W.kitOne K (.ref C) (.ref B) = some true)
    (l1 : K.lookup fI = some ⟨oc, od, .func (PySem.W.ksFn "__init__" "NotFit.__init__" (PySem.NfX.iA PySem.NfX.p0) (PySem.NfX.iB PySem.NfX.p0) PySem.NfX.iS .none .none doc pm an (.ref cda) ct cc), osl⟩) (c1 : PySem.W.codeIn K (.ref cda) "NotFit.__init__" = true)
    (l2 : K.lookup cda = some ⟨ccl, cdd, .fields vs, ccs⟩) (v2 : vs[2]? = some (.str file tf)) (fi : ((PK.main.file : Str) == file) = true) (l3 : K.lookup cc = some ⟨cl, cld, .cell (some (.ref C)), csl⟩) : NfK K C fI B where
  gC := gC
  gB := gB
  gS := gS
  cls := ⟨nm, q, N, bs, sn, sub, ab, col, dd, k0, k1, k2, k3, k5, xC⟩
  al := al
  sa := sa
  xc := ⟨ga, gg, eC, hC, ca, cn, ck, mO⟩
  noN := noN
  iC := iC
  tC := tC
  kC := kC
  vC := vC
  sC := sC
  mC := mC
  op := op
  tyC := tyC
  kit := kit
  fn := ⟨oc, od, doc, pm, an, cda, cc, ct, osl, ccl, cl, cdd, cld, vs, ccs, csl, file, tf, l1, c1, l2, v2, fi, l3⟩
end
end K82
open PySem PySem.W PyProof.Rows
theorem PySem.Challenge.cw_castbypowers_k82_roads_to_rows_holds : PySem.Challenge.rw_castbypowers_k82_roads_to_rows.Holds := by
  w_on; o_law; k_head; (case hw => w_witness2)
  k_fill
  refine L2.walk_of (l := PySem.Challenge.rw_castbypowers_k82_roads_to_rows) (n := 63) (k := 103) (x := "script") (CX := fun w => L2.CX K82.PK w) (sp := fun w => K82.spLaw _) rfl (by decide) rfl ⟨rfl, by decide, by decide⟩ (fun w h Y => PySem.W.kIn_of Y) ?F (fun w H a ns hl _ hS => K82.sp_ok (by kernel_rfl) hl hS) (fun w H s e s' h => K82.no_way H s e s' h)
  case F =>
    intro w mg fa h KX G hmg
    have f0 := by
      refine' K82.fk_at KX (x := "inner_blocks") (y := "inner_blocks") (st := K82.topS 1) ?a1 ?l1 ?c1 ?k1
      (case a1 => k_is); (case l1 => k_is); (case c1 => k_is); (case k1 => k_is)
    have f1 := by
      refine' K82.fk_at KX (x := "cap") (y := "cap") (st := K82.topS 6) ?a1 ?l1 ?c1 ?k1
      (case a1 => k_is); (case l1 => k_is); (case c1 => k_is); (case k1 => k_is)
    have f2 := by
      refine' K82.fk_at KX (x := "row_need") (y := "row_need") (st := K82.topS 7) ?a1 ?l1 ?c1 ?k1
      (case a1 => k_is); (case l1 => k_is); (case c1 => k_is); (case k1 => k_is)
    have f3 := by
      refine' K82.fk_at KX (x := "need") (y := "need") (st := K82.topS 8) ?a1 ?l1 ?c1 ?k1
      (case a1 => k_is); (case l1 => k_is); (case c1 => k_is); (case k1 => k_is)
    have f4 := by
      refine' K82.fk_at KX (x := "regions") (y := "regions") (st := K82.topS 9) ?a1 ?l1 ?c1 ?k1
      (case a1 => k_is); (case l1 => k_is); (case c1 => k_is); (case k1 => k_is)
    have f5 := by
      refine' K82.fk_at KX (x := "holds") (y := "holds") (st := K82.topS 10) ?a1 ?l1 ?c1 ?k1
      (case a1 => k_is); (case l1 => k_is); (case c1 => k_is); (case k1 => k_is)
    have f6 := by
      refine' K82.fk_at KX (x := "holds_in") (y := "holds_in") (st := K82.topS 11) ?a1 ?l1 ?c1 ?k1
      (case a1 => k_is); (case l1 => k_is); (case c1 => k_is); (case k1 => k_is)
    have f7 := by
      refine' K82.fk_at KX (x := "put_loops") (y := "put_loops") (st := K82.topS 13) ?a1 ?l1 ?c1 ?k1
      (case a1 => k_is); (case l1 => k_is); (case c1 => k_is); (case k1 => k_is)
    have f8 := by
      refine' K82.fk_at KX (x := "promised") (y := "promised") (st := K82.topS 16) ?a1 ?l1 ?c1 ?k1
      (case a1 => k_is); (case l1 => k_is); (case c1 => k_is); (case k1 => k_is)
    have f9 := by
      refine' K82.fk_at KX (x := "lowered") (y := "lowered") (st := K82.topS 18) ?a1 ?l1 ?c1 ?k1
      (case a1 => k_is); (case l1 => k_is); (case c1 => k_is); (case k1 => k_is)
    have f10 := by
      refine' K82.fk_at KX (x := "draw_numbers") (y := "draw_numbers") (st := K82.topS 19) ?a1 ?l1 ?c1 ?k1
      (case a1 => k_is); (case l1 => k_is); (case c1 => k_is); (case k1 => k_is)
    have f11 := by
      refine' K82.fk_at KX (x := "sums_below") (y := "sums_below") (st := K82.topS 20) ?a1 ?l1 ?c1 ?k1
      (case a1 => k_is); (case l1 => k_is); (case c1 => k_is); (case k1 => k_is)
    have f12 := by
      refine' K82.fk_at KX (x := "sums_of") (y := "sums_of") (st := K82.topS 21) ?a1 ?l1 ?c1 ?k1
      (case a1 => k_is); (case l1 => k_is); (case c1 => k_is); (case k1 => k_is)
    have f13 := by
      refine' K82.fk_at KX (x := "drawn") (y := "drawn") (st := K82.topS 22) ?a1 ?l1 ?c1 ?k1
      (case a1 => k_is); (case l1 => k_is); (case c1 => k_is); (case k1 => k_is)
    have f14 := by
      refine' K82.fk_at KX (x := "numbers_behind") (y := "numbers_behind") (st := K82.topS 23) ?a1 ?l1 ?c1 ?k1
      (case a1 => k_is); (case l1 => k_is); (case c1 => k_is); (case k1 => k_is)
    have f15 := by
      refine' K82.fk_at KX (x := "simple_states") (y := "simple_states") (st := K82.topS 24) ?a1 ?l1 ?c1 ?k1
      (case a1 => k_is); (case l1 => k_is); (case c1 => k_is); (case k1 => k_is)
    have f16 := by
      refine' K82.fk_at KX (x := "row_states") (y := "row_states") (st := K82.topS 25) ?a1 ?l1 ?c1 ?k1
      (case a1 => k_is); (case l1 => k_is); (case c1 => k_is); (case k1 => k_is)
    have f17 := by
      refine' K82.fk_at KX (x := "block_states") (y := "block_states") (st := K82.topS 26) ?a1 ?l1 ?c1 ?k1
      (case a1 => k_is); (case l1 => k_is); (case c1 => k_is); (case k1 => k_is)
    have f18 := by
      refine' K82.fk_at KX (x := "ends") (y := "ends") (st := K82.topS 27) ?a1 ?l1 ?c1 ?k1
      (case a1 => k_is); (case l1 => k_is); (case c1 => k_is); (case k1 => k_is)
    have f19 := by
      refine' K82.fk_at KX (x := "is_path_number") (y := "is_path_number") (st := K82.topS 33) ?a1 ?l1 ?c1 ?k1
      (case a1 => k_is); (case l1 => k_is); (case c1 => k_is); (case k1 => k_is)
    have f20 := by
      refine' K82.fk_at KX (x := "has_path") (y := "has_path") (st := K82.topS 34) ?a1 ?l1 ?c1 ?k1
      (case a1 => k_is); (case l1 => k_is); (case c1 => k_is); (case k1 => k_is)
    have f21 := by
      refine' K82.fk_at KX (x := "road_rows") (y := "road_rows") (st := K82.topS 35) ?a1 ?l1 ?c1 ?k1
      (case a1 => k_is); (case l1 => k_is); (case c1 => k_is); (case k1 => k_is)
    have f22 := by
      refine' K82.fk_at KX (x := "road") (y := "road") (st := K82.topS 36) ?a1 ?l1 ?c1 ?k1
      (case a1 => k_is); (case l1 => k_is); (case c1 => k_is); (case k1 => k_is)
    have f23 := by
      refine' K82.fk_at KX (x := "states_behind") (y := "states_behind") (st := K82.topS 37) ?a1 ?l1 ?c1 ?k1
      (case a1 => k_is); (case l1 => k_is); (case c1 => k_is); (case k1 => k_is)
    have f24 := by
      refine' K82.fk_at KX (x := "sure_in") (y := "sure_in") (st := K82.topS 38) ?a1 ?l1 ?c1 ?k1
      (case a1 => k_is); (case l1 => k_is); (case c1 => k_is); (case k1 => k_is)
    have f25 := by
      refine' K82.fk_at KX (x := "sure") (y := "sure") (st := K82.topS 39) ?a1 ?l1 ?c1 ?k1
      (case a1 => k_is); (case l1 => k_is); (case c1 => k_is); (case k1 => k_is)
    have f26 := by
      refine' K82.fk_at KX (x := "_law_start") (y := "_law_start") (st := K82.topS 41) ?a1 ?l1 ?c1 ?k1
      (case a1 => k_is); (case l1 => k_is); (case c1 => k_is); (case k1 => k_is)
    have f27 := by
      refine' K82.fk_at KX (x := "_law_draw") (y := "_law_draw") (st := K82.topS 42) ?a1 ?l1 ?c1 ?k1
      (case a1 => k_is); (case l1 => k_is); (case c1 => k_is); (case k1 => k_is)
    have f28 := by
      refine' K82.fk_at KX (x := "_law_one_of") (y := "_law_one_of") (st := K82.topS 43) ?a1 ?l1 ?c1 ?k1
      (case a1 => k_is); (case l1 => k_is); (case c1 => k_is); (case k1 => k_is)
    have f29 := by
      refine' K82.fk_at KX (x := "_law_is_int") (y := "_law_is_int") (st := K82.topS 44) ?a1 ?l1 ?c1 ?k1
      (case a1 => k_is); (case l1 => k_is); (case c1 => k_is); (case k1 => k_is)
    have f30 := by
      refine' K82.fk_at KX (x := "_law_same") (y := "_law_same") (st := K82.topS 45) ?a1 ?l1 ?c1 ?k1
      (case a1 => k_is); (case l1 => k_is); (case c1 => k_is); (case k1 => k_is)
    have f31 := by
      refine' K82.fk_at KX (x := "_law_gcd") (y := "_law_gcd") (st := K82.topS 46) ?a1 ?l1 ?c1 ?k1
      (case a1 => k_is); (case l1 => k_is); (case c1 => k_is); (case k1 => k_is)
    have f32 := by
      refine' K82.fk_at KX (x := "_law_fraction") (y := "_law_fraction") (st := K82.topS 47) ?a1 ?l1 ?c1 ?k1
      (case a1 => k_is); (case l1 => k_is); (case c1 => k_is); (case k1 => k_is)
    have f33 := by
      refine' K82.fk_at KX (x := "_law_plus") (y := "_law_plus") (st := K82.topS 48) ?a1 ?l1 ?c1 ?k1
      (case a1 => k_is); (case l1 => k_is); (case c1 => k_is); (case k1 => k_is)
    have f34 := by
      refine' K82.fk_at KX (x := "_law_rest") (y := "_law_rest") (st := K82.topS 49) ?a1 ?l1 ?c1 ?k1
      (case a1 => k_is); (case l1 => k_is); (case c1 => k_is); (case k1 => k_is)
    have f35 := by
      refine' K82.fk_at KX (x := "_law_part_of") (y := "_law_part_of") (st := K82.topS 50) ?a1 ?l1 ?c1 ?k1
      (case a1 => k_is); (case l1 => k_is); (case c1 => k_is); (case k1 => k_is)
    have f36 := by
      refine' K82.fk_at KX (x := "_law_holds") (y := "_law_holds") (st := K82.topS 51) ?a1 ?l1 ?c1 ?k1
      (case a1 => k_is); (case l1 => k_is); (case c1 => k_is); (case k1 => k_is)
    have f37 := by
      refine' K82.fk_at KX (x := "_law_put") (y := "_law_put") (st := K82.topS 52) ?a1 ?l1 ?c1 ?k1
      (case a1 => k_is); (case l1 => k_is); (case c1 => k_is); (case k1 => k_is)
    have f38 := by
      refine' K82.fk_at KX (x := "_law_simple") (y := "_law_simple") (st := K82.topS 53) ?a1 ?l1 ?c1 ?k1
      (case a1 => k_is); (case l1 => k_is); (case c1 => k_is); (case k1 => k_is)
    have f39 := by
      refine' K82.fk_at KX (x := "_law_split") (y := "_law_split") (st := K82.topS 54) ?a1 ?l1 ?c1 ?k1
      (case a1 => k_is); (case l1 => k_is); (case c1 => k_is); (case k1 => k_is)
    have f40 := by
      refine' K82.fk_at KX (x := "_law_some_chance") (y := "_law_some_chance") (st := K82.topS 55) ?a1 ?l1 ?c1 ?k1
      (case a1 => k_is); (case l1 => k_is); (case c1 => k_is); (case k1 => k_is)
    have f41 := by
      refine' K82.fk_at KX (x := "_law_some_table") (y := "_law_some_table") (st := K82.topS 56) ?a1 ?l1 ?c1 ?k1
      (case a1 => k_is); (case l1 => k_is); (case c1 => k_is); (case k1 => k_is)
    have f42 := by
      refine' K82.fk_at KX (x := "_law_some_test") (y := "_law_some_test") (st := K82.topS 57) ?a1 ?l1 ?c1 ?k1
      (case a1 => k_is); (case l1 => k_is); (case c1 => k_is); (case k1 => k_is)
    have f43 := by
      refine' K82.fk_at KX (x := "_law_some_row") (y := "_law_some_row") (st := K82.topS 58) ?a1 ?l1 ?c1 ?k1
      (case a1 => k_is); (case l1 => k_is); (case c1 => k_is); (case k1 => k_is)
    have f44 := by
      refine' K82.fk_at KX (x := "_law_some_block") (y := "_law_some_block") (st := K82.topS 59) ?a1 ?l1 ?c1 ?k1
      (case a1 => k_is); (case l1 => k_is); (case c1 => k_is); (case k1 => k_is)
    have f45 := by
      refine' K82.fk_at KX (x := "_law_need") (y := "_law_need") (st := K82.topS 60) ?a1 ?l1 ?c1 ?k1
      (case a1 => k_is); (case l1 => k_is); (case c1 => k_is); (case k1 => k_is)
    have f46 := by
      refine' K82.fk_at KX (x := "_law_cap") (y := "_law_cap") (st := K82.topS 61) ?a1 ?l1 ?c1 ?k1
      (case a1 => k_is); (case l1 => k_is); (case c1 => k_is); (case k1 => k_is)
    have f47 := by
      refine' K82.fk_at KX (x := "_law_program") (y := "_law_program") (st := K82.topS 62) ?a1 ?l1 ?c1 ?k1
      (case a1 => k_is); (case l1 => k_is); (case c1 => k_is); (case k1 => k_is)
    have f48 := by
      refine' K82.fk_at KX (x := "_law_added") (y := "_law_added") (st := K82.topS 63) ?a1 ?l1 ?c1 ?k1
      (case a1 => k_is); (case l1 => k_is); (case c1 => k_is); (case k1 => k_is)
    have f49 := by
      refine' K82.fk_at KX (x := "_law_support") (y := "_law_support") (st := K82.topS 64) ?a1 ?l1 ?c1 ?k1
      (case a1 => k_is); (case l1 => k_is); (case c1 => k_is); (case k1 => k_is)
    have f50 := by
      refine' K82.fk_at KX (x := "_law_starts") (y := "_law_starts") (st := K82.topS 65) ?a1 ?l1 ?c1 ?k1
      (case a1 => k_is); (case l1 => k_is); (case c1 => k_is); (case k1 => k_is)
    have f51 := by
      refine' K82.fk_at KX (x := "_law_road") (y := "_law_road") (st := K82.topS 66) ?a1 ?l1 ?c1 ?k1
      (case a1 => k_is); (case l1 => k_is); (case c1 => k_is); (case k1 => k_is)
    have f52 := by
      refine' K82.fk_at KX (x := "_law_states") (y := "_law_states") (st := K82.topS 67) ?a1 ?l1 ?c1 ?k1
      (case a1 => k_is); (case l1 => k_is); (case c1 => k_is); (case k1 => k_is)
    have f53 := by
      refine' K82.fk_at KX (x := "_law_sure") (y := "_law_sure") (st := K82.topS 68) ?a1 ?l1 ?c1 ?k1
      (case a1 => k_is); (case l1 => k_is); (case c1 => k_is); (case k1 => k_is)
    have f54 := by
      refine' K82.fk_at KX (x := "_law_paths") (y := "_law_paths") (st := K82.topS 69) ?a1 ?l1 ?c1 ?k1
      (case a1 => k_is); (case l1 => k_is); (case c1 => k_is); (case k1 => k_is)
    have f55 := by
      refine' K82.fk_at KX (x := "_law_drawn_block") (y := "_law_drawn_block") (st := K82.topS 70) ?a1 ?l1 ?c1 ?k1
      (case a1 => k_is); (case l1 => k_is); (case c1 => k_is); (case k1 => k_is)
    have f56 := by
      refine' K82.fk_at KX (x := "_law_word_of") (y := "_law_word_of") (st := K82.topS 71) ?a1 ?l1 ?c1 ?k1
      (case a1 => k_is); (case l1 => k_is); (case c1 => k_is); (case k1 => k_is)
    have f57 := by
      refine' K82.fk_at KX (x := "_law_sure_word") (y := "_law_sure_word") (st := K82.topS 72) ?a1 ?l1 ?c1 ?k1
      (case a1 => k_is); (case l1 => k_is); (case c1 => k_is); (case k1 => k_is)
    have f58 := by
      refine' K82.fk_at KX (x := "law") (y := "law") (st := K82.topS 73) ?a1 ?l1 ?c1 ?k1
      (case a1 => k_is); (case l1 => k_is); (case c1 => k_is); (case k1 => k_is)
    have f59 := by
      refine' K82.fk_at KX (x := "with_block_blocks") (y := "with_block") (st := K82.topS 2) ?a1 ?l1 ?c1 ?k1
      (case a1 => k_is); (case l1 => k_is); (case c1 => k_is); (case k1 => k_is)
    have f60 := by
      refine' K82.fk_at KX (x := "with_block_promises") (y := "with_block") (st := K82.topS 14) ?a1 ?l1 ?c1 ?k1
      (case a1 => k_is); (case l1 => k_is); (case c1 => k_is); (case k1 => k_is)
    have nf := by
      refine' K82.nf_mk KX ?gC ?gB ?gS ?xC ?al ?sa ?ga ?gg ?eC ?hC ?ca ?cn ?ck ?mO ?noN ?iC ?tC ?kC ?vC ?sC ?mC ?op ?tyC ?kit ?l1 ?c1 ?l2 ?v2 ?fi ?l3
      (case gC => k_is)
      (case gB => k_is)
      (case gS => k_is)
      (case xC => k_is)
      (case al => kernel_rfl)
      (case sa => k_is)
      (case ga => k_is)
      (case gg => k_is)
      (case eC => k_is)
      (case hC => k_is)
      (case ca => k_is)
      (case cn => k_is)
      (case ck => k_is)
      (case mO => k_is)
      (case noN => k_is)
      (case iC => k_is)
      (case tC => k_is)
      (case kC => k_is)
      (case vC => k_is)
      (case sC => first | k_is | rfl)
      (case mC => k_is)
      (case op => k_is)
      (case tyC => k_is)
      (case kit => kit_is)
      (case l1 => k_is)
      (case c1 => k_is)
      (case l2 => k_is)
      (case v2 => rfl)
      (case fi => kernel_rfl)
      (case l3 => k_is)
    have fr := by
      refine' K82.free_mk KX ?b0 ?b1 ?b2 ?b3 ?b4 ?b5 ?b6 ?b7 ?b8 ?b9 ?b10 ?b11 ?b12 ?b13 ?b14 ?b15 ?b16 ?b17 ?b18
      (case b0 => k_is)
      (case b1 => k_is)
      (case b2 => k_is)
      (case b3 => k_is)
      (case b4 => k_is)
      (case b5 => k_is)
      (case b6 => k_is)
      (case b7 => k_is)
      (case b8 => k_is)
      (case b9 => k_is)
      (case b10 => k_is)
      (case b11 => k_is)
      (case b12 => k_is)
      (case b13 => k_is)
      (case b14 => k_is)
      (case b15 => k_is)
      (case b16 => k_is)
      (case b17 => k_is)
      (case b18 => k_is)
    have cs := by
      refine' K82.cons_mk KX ?f ?c
      (case f => k_is); (case c => k_is)
    exact K82.top_ok KX G hmg ⟨f0, f1, f2, f3, f4, f5, f6, f7, f8, f9, f10, f11, f12, f13, f14, f15, f16, f17, f18, f19, f20, f21, f22, f23, f24, f25, f26, f27, f28, f29, f30, f31, f32, f33, f34, f35, f36, f37, f38, f39, f40, f41, f42, f43, f44, f45, f46, f47, f48, f49, f50, f51, f52, f53, f54, f55, f56, f57, f58, f59, f60⟩ nf fr cs
#print axioms PySem.Challenge.cw_castbypowers_k82_roads_to_rows_holds
end

