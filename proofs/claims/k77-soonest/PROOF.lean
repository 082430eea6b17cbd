import PyProof.Rows.All
import Wide.All
import OpenK.AllK
import Wide.FinOn
import KE.SortData
import KE.DataEq
import HandS.ForMost
import HandS.Exc
import HandS.ExcOwn
import HandS.ExcInit
import HandS.ExcIs
import HandS.ExcField
import HandS.WordsExc
import HandS.Defaults
import HandS.CallSlots
import HandS.TupAny
import HandS.TupMul
import HandS.Conv
import HandS.Zip
import HandS.Strs
import HandS.IsInst
import HandS.Evl
import KE.DataCmp
import KE.DataMinMax
import KE.DataIsa
import KE.SortKeyHeap
import KE.DatumIndex
import KE.KTupSum
import HandS.SetFor
import HandS.TupSets
import HandS.ReCall
import HandS.HeadHook2
import HandS.SortKw
import HandS.Iter
import HandS.Comp
import HandS.Head0
import HandS.Head1
import HandS.Head2
import HandS.HeadEnd
import HandS.HeadHook1
import PySem.Challenge.RW_oneturn_k77_whole_soonest
section
set_option Elab.async false
set_option linter.all false
/-! PV1: a value-semantics interpreter for a fragment of Python, over PyData. Lists and dicts are values; an instance or an exception is a dict whose first key is None. -/
namespace PV
open PySem

abbrev D := PyData
abbrev Env := List (Option D)

inductive R (α : Type) where
  | ok (a : α) | ex (x : D) | bad

def R.bind {α β : Type} : R α → (α → R β) → R β
  | .ok a, f => f a
  | .ex x, _ => .ex x
  | .bad, _ => .bad
@[simp] theorem rb_ok {α β : Type} (a : α) (f : α → R β) : (R.ok a).bind f = f a := (rfl)
@[simp] theorem rb_ex {α β : Type} (x : D) (f : α → R β) : (R.ex x : R α).bind f = .ex x := (rfl)
@[simp] theorem rb_bad {α β : Type} (f : α → R β) : (R.bad : R α).bind f = .bad := (rfl)
instance : Monad R where
  pure := .ok
  bind := R.bind
@[simp] theorem bind_ok {α β : Type} (a : α) (f : α → R β) : (R.ok a >>= f) = f a := (rfl)
@[simp] theorem bind_ex {α β : Type} (x : D) (f : α → R β) : ((R.ex x : R α) >>= f) = .ex x := (rfl)
@[simp] theorem bind_bad {α β : Type} (f : α → R β) : ((R.bad : R α) >>= f) = .bad := (rfl)
@[simp] theorem pure_ok {α : Type} (a : α) : (pure a : R α) = .ok a := (rfl)

inductive B2 where
  | add | sub | mul | fdiv | mod | pow
  deriving DecidableEq
inductive Cm where
  | eq | ne | lt | le | gt | ge | isin | nin
  deriving DecidableEq
/-- built-ins of one argument -/
inductive F1 where
  | len | tuple | list | sorted | max | min | sum | int
  deriving DecidableEq
/-- built-in classes for isinstance -/
inductive Ty where
  | int | bool | str | tuple | list | dict
  deriving DecidableEq

mutual
inductive E where
  | v (i : Nat) | pk (i : Nat)
  | none | bool (b : Bool) | int (i : Int) | str (x : Str)
  | glob (x : Str)
  | bin (o : B2) (a b : E)
  | neg (a : E)
  | cmp (o : Cm) (a b : E)
  | chain (o p : Cm) (a b c : E)
  | isN (a : E) | notN (a : E)
  | and (es : Es) | or (es : Es)
  | not (a : E)
  | ite (c a b : E)
  | tup (es : Es) | lst (es : Es) | dT
  | ix (a i : E)
  | sl (a lo hi : E) | slL (a lo : E) | slH (a hi : E)
  | call (f : Nat) (as ks : Es) (dfl : List D)
  | f1 (f : F1) (a : E)
  | mx2 (a b : E) | mn2 (a b : E)
  | isa (t : Ty) (a : E)
  | lenset (a : E)
  | sortk (f : Str) (a : E)
  | get2 (d k x : E)
  | index (a x : E)
  | comp (elt : E) (i : Nat) (it : E)
  | compIf (elt : E) (i : Nat) (it c : E)
  | compD (elt : E) (i : Nat) (j : Nat)
  | compIfD (elt : E) (i : Nat) (j : Nat) (c : E)
  | rng1 (a : E) | rng2 (a b : E) | rng3 (a b c : E)
  | fld (k : Nat) (f : Str) | isaC (c : Nat) (x : Str)
inductive Es where
  | nil | cons (e : E) (r : Es)
end

/-! ### operations on data -/
def LIM : Nat := 16777216
def fit (d : D) : Bool := d.plain && decide (d.depth ≤ 60)
def fitAll (xs : List D) : Bool := PyData.plainAll xs && decide (PyData.depthAll xs ≤ 60)

def dget : List (D × D) → D → Option D
  | [], _ => none
  | (k, v) :: r, j => if PyData.eqv k j = true then some v else dget r j
def dput : List (D × D) → D → D → List (D × D)
  | [], j, v => [(j, v)]
  | (k, u) :: r, j, v => if PyData.eqv k j = true then (k, v) :: r else (k, u) :: dput r j v

/-- a key of a dict of tuple keys: a tuple of ints and texts -/
def flatKey : D → Bool
  | .int _ => true
  | .str _ => true
  | _ => false
def tkey : D → Bool
  | .tuple xs => xs.all flatKey
  | _ => false

def mulOk (i j : Int) : Bool := decide (-(2 ^ 64) < i ∧ i < 2 ^ 64) || decide (-(2 ^ 64) < j ∧ j < 2 ^ 64)
def rep {α : Type} (n : Nat) (xs : List α) : List α := (List.replicate n xs).flatten

def bin2 : B2 → D → D → R D
  | .add, .int i, .int j => .ok (.int (i + j))
  | .add, .tuple xs, .tuple ys => if xs.length + ys.length ≤ LIM then .ok (.tuple (xs ++ ys)) else .bad
  | .add, .list xs, .list ys => if xs.length + ys.length ≤ LIM then .ok (.list (xs ++ ys)) else .bad
  | .sub, .int i, .int j => .ok (.int (i - j))
  | .mul, .int i, .int j => if mulOk i j = true then .ok (.int (i * j)) else .bad
  | .mul, .tuple xs, .int j => if 0 ≤ j ∧ j ≤ 64 ∧ xs.length ≤ 64 then .ok (.tuple (rep j.toNat xs)) else .bad
  | .mul, .list xs, .int j => if 0 ≤ j ∧ j ≤ 64 ∧ xs.length ≤ 64 then .ok (.list (rep j.toNat xs)) else .bad
  | .fdiv, .int i, .int j => if 0 < j ∧ j < 1073741824 then .ok (.int (i / j)) else .bad
  | .mod, .int i, .int j => if 0 < j then .ok (.int (i % j)) else .bad
  | .pow, .int i, .int j => if 0 ≤ j ∧ j ≤ 1000 ∧ i.natAbs < 2 ^ 64 then .ok (.int (i ^ j.toNat)) else .bad
  | _, _, _ => .bad

def ltOk (a b : D) : Bool := W.alike a b && fit a && fit b && (match a with | .none => false | _ => true)
def cmp2 : Cm → D → D → R Bool
  | .eq, a, b => if fit a = true ∧ fit b = true then .ok (PyData.eqv a b) else .bad
  | .ne, a, b => if fit a = true ∧ fit b = true then .ok (!PyData.eqv a b) else .bad
  | .lt, a, b => if ltOk a b = true then .ok (W.dataLt a b) else .bad
  | .gt, a, b => if ltOk a b = true then .ok (W.dataLt b a) else .bad
  | .le, a, b => if ltOk a b = true then .ok (!W.dataLt b a) else .bad
  | .ge, a, b => if ltOk a b = true then .ok (!W.dataLt a b) else .bad
  | .isin, a, .tuple ys => if fit a = true ∧ fitAll ys = true then .ok (ys.any fun y => PyData.eqv y a) else .bad
  | .isin, a, .list ys => if fit a = true ∧ fitAll ys = true then .ok (ys.any fun y => PyData.eqv y a) else .bad
  | .nin, a, .tuple ys => if fit a = true ∧ fitAll ys = true then .ok (!ys.any fun y => PyData.eqv y a) else .bad
  | .nin, a, .list ys => if fit a = true ∧ fitAll ys = true then .ok (!ys.any fun y => PyData.eqv y a) else .bad
  | .isin, a, .dict kvs => if tkey a = true then .ok (dget kvs a).isSome else .bad
  | .nin, a, .dict kvs => if tkey a = true then .ok (!(dget kvs a).isSome) else .bad
  | _, _, _ => .bad

/-- the place that an index names -/
def place (n : Nat) (i : Int) : Option Nat :=
  if 0 ≤ i then (if i < n then some i.toNat else none) else if -(n : Int) ≤ i then some (i + n).toNat else none
def index2 : D → D → R D
  | .tuple xs, .int i => match place xs.length i with
    | some k => .ok (xs.getD k .none)
    | none => .bad
  | .list xs, .int i => match place xs.length i with
    | some k => .ok (xs.getD k .none)
    | none => .bad
  | .dict kvs, k => if tkey k = true then (match dget kvs k with
    | some v => .ok v
    | none => .bad) else .bad
  | _, _ => .bad

/-- a slice's bound as a place -/
def bound (n : Nat) (v : Int) : Nat := if v < 0 then (v + n).toNat else min v.toNat n
def cut (xs : List D) (lo hi : Nat) : List D := (xs.drop lo).take (hi - lo)
def slice3 : D → (Nat → Nat) → (Nat → Nat) → R D
  | .tuple xs, lo, hi => .ok (.tuple (cut xs (lo xs.length) (hi xs.length)))
  | .list xs, lo, hi => .ok (.list (cut xs (lo xs.length) (hi xs.length)))
  | _, _, _ => .bad
def asInt : D → R Int
  | .int i => .ok i
  | _ => .bad

def ints? : List D → Option (List Int)
  | [] => some []
  | .int i :: r => (ints? r).map (i :: ·)
  | _ :: _ => none

def items : D → R (List D)
  | .tuple xs => .ok xs
  | .list xs => .ok xs
  | _ => .bad
def dkeys : D → R (List D)
  | .dict kvs => .ok (kvs.map (·.1))
  | _ => .bad

def alikeL (xs : List D) : Bool := xs.all fun x => xs.all fun y => W.alike x y
def noneFree (xs : List D) : Bool := xs.all fun x => match x with | .none => false | _ => true
def minD (x : D) (xs : List D) : D := xs.foldl (fun a y => if W.dataLt y a then y else a) x
def maxD (x : D) (xs : List D) : D := xs.foldl (fun a y => if W.dataLt a y then y else a) x
def tupsOf (xs : List D) : Bool := xs.all fun x => match x with | .tuple (_ :: _) => true | _ => false
def flatsOf (xs : List D) : Bool := xs.all fun x => match x with | .tuple _ => false | .none => false | _ => true
def sortOk (xs : List D) : Bool := alikeL xs && fitAll xs && (tupsOf xs || flatsOf xs) && decide (xs.length ≤ LIM)
mutual
/-- no list lies within -/
def noLst : D → Bool
  | .list _ => false
  | .dict _ => false
  | .tuple xs => noLstAll xs
  | _ => true
def noLstAll : List D → Bool
  | [] => true
  | x :: xs => noLst x && noLstAll xs
end
/-- the key (len(x), x) -/
def lenKey : D → R D
  | .tuple xs => .ok (.tuple [.int xs.length, .tuple xs])
  | _ => .bad

def call1 : F1 → D → R D
  | .len, .tuple xs => .ok (.int xs.length)
  | .len, .list xs => .ok (.int xs.length)
  | .tuple, .tuple xs => .ok (.tuple xs)
  | .tuple, .list xs => .ok (.tuple xs)
  | .list, .tuple xs => .ok (.list xs)
  | .list, .list xs => .ok (.list xs)
  | .list, .dict kvs => .ok (.list (kvs.map (·.1)))
  | .sorted, .list xs => if sortOk xs = true then .ok (.list (xs.mergeSort (W.dataLe false id))) else .bad
  | .max, .tuple (x :: xs) => if alikeL (x :: xs) && noneFree (x :: xs) && fitAll (x :: xs) then .ok (maxD x xs) else .bad
  | .max, .list (x :: xs) => if alikeL (x :: xs) && noneFree (x :: xs) && fitAll (x :: xs) then .ok (maxD x xs) else .bad
  | .min, .tuple (x :: xs) => if alikeL (x :: xs) && noneFree (x :: xs) && fitAll (x :: xs) then .ok (minD x xs) else .bad
  | .min, .list (x :: xs) => if alikeL (x :: xs) && noneFree (x :: xs) && fitAll (x :: xs) then .ok (minD x xs) else .bad
  | .sum, .tuple xs => match ints? xs with
    | some ns => .ok (.int ns.sum)
    | none => .bad
  | .sum, .list xs => match ints? xs with
    | some ns => .ok (.int ns.sum)
    | none => .bad
  | .int, .int i => .ok (.int i)
  | .int, .bool b => .ok (.int (if b then 1 else 0))
  | _, _ => .bad

def isTy : Ty → D → Bool
  | .int, .int _ => true
  | .int, .bool _ => true
  | .bool, .bool _ => true
  | .str, .str _ => true
  | .tuple, .tuple _ => true
  | .list, .list _ => true
  | .dict, .dict _ => true
  | _, _ => false

def b2 (r : R Bool) : R D := r.bind fun b => .ok (.bool b)
def isNone : D → Bool
  | .none => true
  | _ => false
def asBool : D → R Bool
  | .bool b => .ok b
  | _ => .bad
def rngD (lo : Int) (n : Nat) (st : Int) : List D := (List.range n).map fun (k : Nat) => .int (lo + (k : Int) * st)
def inR (i : Int) : Bool := decide (-(2 ^ 22) < i ∧ i < 2 ^ 22)
/-- the number of turns of range(i, j, c), c > 0 -/
def turns (i j c : Int) : Nat := ((j - i + c - 1) / c).toNat

def mapR (f : D → R D) : List D → R (List D)
  | [] => .ok []
  | x :: xs => (f x).bind fun y => (mapR f xs).bind fun ys => .ok (y :: ys)
def filterMapR (c : D → R Bool) (f : D → R D) : List D → R (List D)
  | [] => .ok []
  | x :: xs => (c x).bind fun b => if b = true then (f x).bind fun y => (filterMapR c f xs).bind fun ys => .ok (y :: ys) else filterMapR c f xs
def R.noEx {α : Type} : R α → R α
  | .ex _ => .bad
  | r => r
def findEq : List D → D → Option Nat
  | [], _ => none
  | y :: ys, x => if PyData.eqv y x = true then some 0 else (findEq ys x).map (· + 1)
def distinct : List Int → Nat
  | [] => 0
  | x :: xs => if x ∈ xs then distinct xs else distinct xs + 1

def slot (ρ : Env) (i : Nat) : R D := match ρ[i]? with
  | some (some d) => .ok d
  | _ => .bad

def clsX : D → Str
  | .dict ((.none, .str x) :: _) => x
  | _ => Str.ofString ""
/-- the text's surroundings: constants, the exception that a suite holds, which class (by its number) a class's name is under -/
structure Gls where
  g : Str → Option D
  x : Option D := none
  sub : Str → Nat → Bool := fun _ _ => false
  id : Str → Option Nat := fun _ => none
section
variable (G : Gls) (C : Nat → List D → R D)
mutual
def evE : E → Env → R D
  | .v i, ρ => slot ρ i
  | .pk i, ρ => slot ρ i
  | .none, _ => .ok .none
  | .bool b, _ => .ok (.bool b)
  | .int i, _ => .ok (.int i)
  | .str x, _ => .ok (.str x)
  | .glob x, _ => match G.g x with
    | some d => .ok d
    | none => .bad
  | .bin o a b, ρ => (evE a ρ).bind fun x => (evE b ρ).bind fun y => bin2 o x y
  | .neg a, ρ => (evE a ρ).bind fun x => (asInt x).bind fun i => .ok (.int (-i))
  | .cmp o a b, ρ => (evE a ρ).bind fun x => (evE b ρ).bind fun y => b2 (cmp2 o x y)
  | .chain o p a b c, ρ => (evE a ρ).bind fun x => (evE b ρ).bind fun y => (cmp2 o x y).bind fun k => if k = true then (evE c ρ).bind fun z => b2 (cmp2 p y z) else .ok (.bool false)
  | .isN a, ρ => (evE a ρ).bind fun x => .ok (.bool (isNone x))
  | .notN a, ρ => (evE a ρ).bind fun x => .ok (.bool (!isNone x))
  | .and es, ρ => evAnd es ρ
  | .or es, ρ => evOr es ρ
  | .not a, ρ => (evE a ρ).bind fun x => (asBool x).bind fun b => .ok (.bool (!b))
  | .ite c a b, ρ => (evE c ρ).bind fun x => (asBool x).bind fun k => if k = true then evE a ρ else evE b ρ
  | .tup es, ρ => (evEs es ρ).bind fun xs => .ok (.tuple xs)
  | .lst es, ρ => (evEs es ρ).bind fun xs => .ok (.list xs)
  | .dT, _ => .ok (.dict [])
  | .ix a i, ρ => (evE a ρ).bind fun x => (evE i ρ).bind fun y => index2 x y
  | .sl a lo hi, ρ => (evE a ρ).bind fun x => (evE lo ρ).bind fun l => (asInt l).bind fun i => (evE hi ρ).bind fun h => (asInt h).bind fun j => slice3 x (fun n => bound n i) (fun n => bound n j)
  | .slL a lo, ρ => (evE a ρ).bind fun x => (evE lo ρ).bind fun l => (asInt l).bind fun i => slice3 x (fun n => bound n i) (fun n => n)
  | .slH a hi, ρ => (evE a ρ).bind fun x => (evE hi ρ).bind fun h => (asInt h).bind fun j => slice3 x (fun _ => 0) (fun n => bound n j)
  | .call f as ks dfl, ρ => (evEs as ρ).bind fun xs => (evEs ks ρ).bind fun ys => C f (xs ++ ys ++ dfl)
  | .f1 f a, ρ => (evE a ρ).bind fun x => call1 f x
  | .mx2 a b, ρ => (evE a ρ).bind fun x => (evE b ρ).bind fun y => (asInt x).bind fun i => (asInt y).bind fun j => .ok (.int (if j > i then j else i))
  | .mn2 a b, ρ => (evE a ρ).bind fun x => (evE b ρ).bind fun y => (asInt x).bind fun i => (asInt y).bind fun j => .ok (.int (if j < i then j else i))
  | .isa t a, ρ => (evE a ρ).bind fun x => if x.plain = true then .ok (.bool (isTy t x)) else .bad
  | .lenset a, ρ => (evE a ρ).bind fun x => match x with
    | .tuple xs => (match ints? xs with
      | some ns => if ns.length < 64 then .ok (.int (distinct ns)) else .bad
      | none => .bad)
    | _ => .bad
  | .sortk f a, ρ => (evE a ρ).bind fun x => match x with
    | .list xs => (mapR lenKey xs).bind fun ks => if sortOk ks = true ∧ noLstAll ks = true then .ok (.list (((xs.zip ks).mergeSort (W.dataLe false Prod.snd)).map Prod.fst)) else .bad
    | _ => .bad
  | .get2 d k x, ρ => (evE d ρ).bind fun y => match y with
    | .dict kvs => (evE k ρ).bind fun z => (evE x ρ).bind fun w => if tkey z = true then .ok ((dget kvs z).getD w) else .bad
    | _ => .bad
  | .index a x, ρ => (evE a ρ).bind fun y => match y with
    | .tuple xs => if xs.all flatKey = true then .bad else (evE x ρ).bind fun z => if fitAll xs = true ∧ fit z = true then (match findEq xs z with
      | some k => .ok (.int k)
      | none => .bad) else .bad
    | _ => .bad
  | .comp elt i it, ρ => ((evE it ρ).bind items).bind fun xs => (mapR (fun d => (evE elt (ρ.set i (some d))).noEx) xs).bind fun ys => .ok (.list ys)
  | .compIf elt i it c, ρ => ((evE it ρ).bind items).bind fun xs => (filterMapR (fun d => ((evE c (ρ.set i (some d))).bind asBool).noEx) (fun d => (evE elt (ρ.set i (some d))).noEx) xs).bind fun ys => .ok (.list ys)
  | .compD elt i j, ρ => ((slot ρ j).bind dkeys).bind fun xs => (mapR (fun d => (evE elt (ρ.set i (some d))).noEx) xs).bind fun ys => .ok (.list ys)
  | .compIfD elt i j c, ρ => ((slot ρ j).bind dkeys).bind fun xs => (filterMapR (fun d => ((evE c (ρ.set i (some d))).bind asBool).noEx) (fun d => (evE elt (ρ.set i (some d))).noEx) xs).bind fun ys => .ok (.list ys)
  | .rng1 a, ρ => (evE a ρ).bind fun x => (asInt x).bind fun j => if inR j = true then .ok (.list (rngD 0 j.toNat 1)) else .bad
  | .rng2 a b, ρ => (evE a ρ).bind fun x => (evE b ρ).bind fun y => (asInt x).bind fun i => (asInt y).bind fun j => if inR i = true ∧ inR j = true then .ok (.list (rngD i (j - i).toNat 1)) else .bad
  | .rng3 a b c, ρ => (evE a ρ).bind fun x => (evE b ρ).bind fun y => (evE c ρ).bind fun z => (asInt x).bind fun i => (asInt y).bind fun j => (asInt z).bind fun k =>
      if inR i = true ∧ inR j = true ∧ inR k = true ∧ 0 < k then .ok (.list (rngD i (turns i j k) k)) else .bad
  | .fld _ f, _ => match G.x with
    | some (.dict kvs) => (match dget kvs (.str f) with
      | some v => .ok v
      | none => .bad)
    | _ => .bad
  | .isaC c _, _ => match G.x with
    | some x => .ok (.bool (G.sub (clsX x) c))
    | none => .bad
def evEs : Es → Env → R (List D)
  | .nil, _ => .ok []
  | .cons e r, ρ => (evE e ρ).bind fun x => (evEs r ρ).bind fun xs => .ok (x :: xs)
def evAnd : Es → Env → R D
  | .nil, _ => .bad
  | .cons e .nil, ρ => evE e ρ
  | .cons e (.cons e' r), ρ => (evE e ρ).bind fun x => (asBool x).bind fun k => if k = true then evAnd (.cons e' r) ρ else .ok (.bool false)
def evOr : Es → Env → R D
  | .nil, _ => .bad
  | .cons e .nil, ρ => evE e ρ
  | .cons e (.cons e' r), ρ => (evE e ρ).bind fun x => (asBool x).bind fun k => if k = true then .ok (.bool true) else evOr (.cons e' r) ρ
end
end
/-! ### statements -/
/-- what stands behind a statement -/
inductive Out where
  | nx (ρ : Env) | rt (d : D) (ρ : Env) | bk (ρ : Env) | ct (ρ : Env) | ex (x : D) (ρ : Env) | bad
/-- an except suite: ifs that return, a last return -/
inductive Su where
  | ret (e : E) | iff (t e : E) (r : Su) | fall
mutual
inductive S where
  | set (ks : List Nat) (i : Nat) (e : E)
  | unp (ks : List Nat) (is : List Nat) (e : E)
  | app (ks : List Nat) (i : Nat) (e : E)
  | put (ks : List Nat) (i : Nat) (k e : E)
  | ex (e : E)
  | ret (ks : List Nat) (e : E)
  | ite (c : E) (a b : Ss)
  | for_ (i : Nat) (it : E) (body : Ss) (clr : List Nat)
  | while_ (c : E) (body : Ss) (clr : List Nat)
  | brk | cont | pass
  | raise (c : Nat) (as : Es)
  | try_ (body : Ss) (c : Nat) (i : Nat) (suite : Su)
inductive Ss where
  | nil | cons (s : S) (r : Ss)
end
def clear (ρ : Env) : List Nat → Env
  | [] => ρ
  | k :: ks => clear (ρ.set k none) ks
def sets (ρ : Env) : List Nat → List D → Option Env
  | [], [] => some ρ
  | i :: is, d :: ds => sets (ρ.set i (some d)) is ds
  | _, _ => none
def Out.thn : Out → (Env → Out) → Out
  | .nx ρ, f => f ρ
  | o, _ => o
@[simp] theorem thn_nx (ρ : Env) (f : Env → Out) : (Out.nx ρ).thn f = f ρ := (rfl)
@[simp] theorem thn_rt (d : D) (ρ : Env) (f : Env → Out) : (Out.rt d ρ).thn f = .rt d ρ := (rfl)
@[simp] theorem thn_bk (ρ : Env) (f : Env → Out) : (Out.bk ρ).thn f = .bk ρ := (rfl)
@[simp] theorem thn_ct (ρ : Env) (f : Env → Out) : (Out.ct ρ).thn f = .ct ρ := (rfl)
@[simp] theorem thn_ex (d : D) (ρ : Env) (f : Env → Out) : (Out.ex d ρ).thn f = .ex d ρ := (rfl)
@[simp] theorem thn_bad (f : Env → Out) : Out.bad.thn f = .bad := (rfl)
def R.out {α : Type} (ρ : Env) : R α → (α → Out) → Out
  | .ok a, f => f a
  | .ex x, _ => .ex x ρ
  | .bad, _ => .bad
@[simp] theorem out_ok {α : Type} (ρ : Env) (a : α) (f : α → Out) : (R.ok a).out ρ f = f a := (rfl)
@[simp] theorem out_ex {α : Type} (ρ : Env) (x : D) (f : α → Out) : (R.ex x : R α).out ρ f = .ex x ρ := (rfl)
@[simp] theorem out_bad {α : Type} (ρ : Env) (f : α → Out) : (R.bad : R α).out ρ f = .bad := (rfl)
/-- a for loop over the items -/
def evFor (body : Env → Out) (i : Nat) (clr : List Nat) : List D → Env → Out
  | [], ρ => .nx ρ
  | x :: xs, ρ => match body (ρ.set i (some x)) with
    | .nx ρ' => evFor body i clr xs (clear ρ' clr)
    | .ct ρ' => evFor body i clr xs (clear ρ' clr)
    | .bk ρ' => .nx (clear ρ' clr)
    | o => o
/-- a while loop, so many turns at most -/
def evWhile (c : Env → R Bool) (body : Env → Out) (clr : List Nat) : Nat → Env → Out
  | 0, _ => .bad
  | n + 1, ρ => (c ρ).out ρ fun b => if b = true then (match body ρ with
    | .nx ρ' => evWhile c body clr n (clear ρ' clr)
    | .ct ρ' => evWhile c body clr n (clear ρ' clr)
    | .bk ρ' => .nx (clear ρ' clr)
    | o => o) else .nx ρ
/-- an exception's class: its name, its fields' names, the names of the classes over it (itself first) -/
structure Xc where
  name : Str
  fields : List Str
  own : Bool := true
def mkX (c : Xc) (ds : List D) : R D := if ds.length = c.fields.length then .ok (.dict ((.none, .str c.name) :: (c.fields.map PyData.str).zip ds)) else .bad
section
variable (G : Gls) (X : Nat → Option Xc) (W : Nat) (C : Nat → List D → R D)
def evSu (G : Gls) (C : Nat → List D → R D) : Su → Env → Out
  | .ret e, ρ => (evE G C e ρ).noEx.out ρ fun d => .rt d ρ
  | .iff t e r, ρ => ((evE G C t ρ).bind asBool).noEx.out ρ fun k => if k = true then (evE G C e ρ).noEx.out ρ fun d => .rt d ρ else evSu G C r ρ
  | .fall, ρ => .nx ρ
mutual
def evS : S → Env → Out
  | .set ks i e, ρ => (evE G C e ρ).out (clear ρ ks) fun d => .nx ((clear ρ ks).set i (some d))
  | .unp ks is e, ρ => (evE G C e ρ).out (clear ρ ks) fun d => match d with
    | .tuple ds => (match sets (clear ρ ks) is ds with
      | some ρ' => .nx ρ'
      | none => .bad)
    | _ => .bad
  | .app ks i e, ρ => match (clear ρ ks)[i]? with
    | some (some (.list xs)) => (evE G C e ρ).out (clear ρ ks) fun d => if xs.length < LIM then .nx ((clear ρ ks).set i (some (.list (xs ++ [d])))) else .bad
    | _ => .bad
  | .put ks i k e, ρ => (evE G C e ρ).out (clear ρ ks) fun d => match (clear ρ ks)[i]? with
    | some (some (.dict kvs)) => (evE G C k ρ).out (clear ρ ks) fun j => if tkey j = true ∧ kvs.length < LIM then .nx ((clear ρ ks).set i (some (.dict (dput kvs j d)))) else .bad
    | some (some (.list xs)) => (evE G C k ρ).out (clear ρ ks) fun j => match j with
      | .int n => (match place xs.length n with
        | some m => .nx ((clear ρ ks).set i (some (.list (xs.set m d))))
        | none => .bad)
      | _ => .bad
    | _ => .bad
  | .ex e, ρ => (evE G C e ρ).out ρ fun _ => .nx ρ
  | .ret ks e, ρ => (evE G C e ρ).out (clear ρ ks) fun d => .rt d (clear ρ ks)
  | .ite c a b, ρ => (evE G C c ρ).out ρ fun d => (asBool d).out ρ fun k => if k = true then evSs a ρ else evSs b ρ
  | .for_ i it body clr, ρ => ((evE G C it ρ).bind items).out ρ fun xs => evFor (evSs body) i clr xs ρ
  | .while_ c body clr, ρ => evWhile (fun ρ => (evE G C c ρ).bind asBool) (evSs body) clr W ρ
  | .brk, ρ => .bk ρ
  | .cont, ρ => .ct ρ
  | .pass, ρ => .nx ρ
  | .raise c as, ρ => match X c with
    | some x => ((evEs G C as ρ).bind (mkX x)).out ρ fun d => .ex d ρ
    | none => .bad
  | .try_ body c i suite, ρ => match evSs body ρ with
    | .ex x ρ' => match G.id (clsX x) with
      | none => .bad
      | some j => match X j with
        | none => .bad
        | some xj => if xj.name = clsX x then (if G.sub xj.name c = true then evSu { G with x := some x } C suite (ρ'.set i none) else .ex x ρ') else .bad
    | o => o
def evSs : Ss → Env → Out
  | .nil, ρ => .nx ρ
  | .cons s r, ρ => (evS s ρ).thn (evSs r)
end
end
/-- a def: its number of parameters, of slots, its body -/
structure Fd where
  np : Nat
  ns : Nat
  body : Ss
def callN (G : Gls) (X : Nat → Option Xc) (W : Nat) (T : Nat → Option Fd) : Nat → Nat → List D → R D
  | 0, _, _ => .bad
  | n + 1, f, ds => match T f with
    | none => .bad
    | some fd => if ds.length = fd.np then (match evSs G X W (callN G X W T n) fd.body (ds.map some ++ List.replicate (fd.ns - fd.np) none) with
      | .rt d _ => .ok d
      | .nx _ => .ok .none
      | .ex x _ => .ex x
      | _ => .bad) else .bad
end PV
end
section
set_option Elab.async false
set_option linter.all false
set_option maxRecDepth 100000
set_option maxHeartbeats 4000000
/-! PV2: how data lie in HandS's abstract heap, and the operations on data. -/
namespace PV
open PySem PySem.Spec PyProof.Rows L2

def kD : Key → D
  | .inl i => .int i
  | .inr x => .str x
theorem kD_flat (k : Key) : flatKey (kD k) = true := by cases k <;> rfl

/-- a tuple: a flat one may be a dict's key; any other is known to its object, which has no dict -/
def TupAt (H : Hp) (a : Addr) (ds : List D) (xs : List V) : Prop := (ds.all flatKey = true ∧ H a = some (.tup xs)) ∨ (ds.all flatKey = false ∧ ∃ o : Obj, o.dict = none ∧ H a = some (.frz o (.tup xs)))
theorem TupAt.rd {H : Hp} {a : Addr} {ds : List D} {xs : List V} (h : TupAt H a ds xs) : Rd H a (.tup xs) := by
  rcases h with ⟨_, h⟩ | ⟨_, o, _, h⟩
  · exact .inl h
  · exact .inr ⟨o, h⟩
mutual
/-- v stands for d; no list or dict in it lies at an address of B -/
inductive RD (B : Addr → Prop) (H : Hp) : V → D → Prop
  | non : RD B H .non .none
  | bl (b : Bool) : RD B H (.bl b) (.bool b)
  | int (i : Int) : RD B H (.int i) (.int i)
  | str (x : Str) : RD B H (.str x) (.str x)
  | tup {a : Addr} {xs : List V} {ds : List D} : TupAt H a ds xs → RDs B H xs ds → RD B H (.ref a) (.tuple ds)
  | lst {a : Addr} {xs : List V} {ds : List D} : ¬ B a → Rd H a (.lst xs) → RDs B H xs ds → RD B H (.ref a) (.list ds)
  | dT {a : Addr} {kvs : List (List Key × V)} {ds : List (D × D)} : ¬ B a → Rd H a (.dT kvs) → RDt B H kvs ds → RD B H (.ref a) (.dict ds)
inductive RDs (B : Addr → Prop) (H : Hp) : List V → List D → Prop
  | nil : RDs B H [] []
  | cons {v : V} {vs : List V} {d : D} {ds : List D} : RD B H v d → RDs B H vs ds → RDs B H (v :: vs) (d :: ds)
inductive RDt (B : Addr → Prop) (H : Hp) : List (List Key × V) → List (D × D) → Prop
  | nil : RDt B H [] []
  | cons {k : List Key} {v : V} {kvs : List (List Key × V)} {d : D} {ds : List (D × D)} : RD B H v d → RDt B H kvs ds → RDt B H ((k, v) :: kvs) ((.tuple (k.map kD), d) :: ds)
end
/-- an operand: what is read alone, its top may lie in B or in the written part -/
inductive TopD (B : Addr → Prop) (H : Hp) : V → D → Prop
  | rd {v : V} {d : D} : RD B H v d → TopD B H v d
  | lst {a : Addr} {xs : List V} {ds : List D} : Rd H a (.lst xs) → RDs B H xs ds → TopD B H (.ref a) (.list ds)
  | dT {a : Addr} {kvs : List (List Key × V)} {ds : List (D × D)} : Rd H a (.dT kvs) → RDt B H kvs ds → TopD B H (.ref a) (.dict ds)

/-- the object at a is just the list or dict d -/
def OwnAt (B : Addr → Prop) (H : Hp) (a : Addr) (d : D) : Prop := (∃ xs ds, d = .list ds ∧ H a = some (.lst xs) ∧ RDs B H xs ds) ∨ ∃ kvs ds, d = .dict ds ∧ H a = some (.dT kvs) ∧ RDt B H kvs ds
/-! ### other heaps -/
def Nf : HO → Prop
  | .frz _ _ => False
  | _ => True
structure Mv (B B' : Addr → Prop) (H H' : Hp) : Prop where
  rd : ∀ b u, Nf u → Rd H b u → ¬ B b → Rd H' b u
  tup : ∀ b xs, H b = some (.tup xs) → H' b = some (.tup xs)
  frz : ∀ b o xs, H b = some (.frz o (.tup xs)) → H' b = some (.frz o (.tup xs))
  new : ∀ b, B' b → H b ≠ none → B b
theorem TupAt.mv {B B' : Addr → Prop} {H H' : Hp} {a : Addr} {ds : List D} {xs : List V} (m : Mv B B' H H') (h : TupAt H a ds xs) : TupAt H' a ds xs := by
  rcases h with ⟨f, h⟩ | ⟨f, o, d, h⟩
  · exact .inl ⟨f, m.tup _ _ h⟩
  · exact .inr ⟨f, o, d, m.frz _ _ _ h⟩
theorem rd_there {H : Hp} {a : Addr} {u : HO} (h : Rd H a u) : H a ≠ none := by
  rcases h with h | ⟨o, h⟩ <;> (rw [h]; exact fun z => nomatch z)
mutual
theorem RD.mv {B B' : Addr → Prop} {H H' : Hp} (m : Mv B B' H H') : ∀ {d : D} {v : V}, RD B H v d → RD B' H' v d
  | .none, _, h => by cases h; exact .non
  | .bool b, _, h => by cases h; exact .bl b
  | .int i, _, h => by cases h; exact .int i
  | .str x, _, h => by cases h; exact .str x
  | .tuple ds, _, h => by
    cases h with
    | tup h1 h2 => exact .tup (h1.mv m) (RDs.mv m h2)
  | .list ds, _, h => by
    cases h with
    | lst h0 h1 h2 => exact .lst (fun z => h0 (m.new _ z (rd_there h1))) (m.rd _ _ trivial h1 h0) (RDs.mv m h2)
  | .dict ds, _, h => by
    cases h with
    | dT h0 h1 h2 => exact .dT (fun z => h0 (m.new _ z (rd_there h1))) (m.rd _ _ trivial h1 h0) (RDt.mv m h2)
theorem RDs.mv {B B' : Addr → Prop} {H H' : Hp} (m : Mv B B' H H') : ∀ {ds : List D} {vs : List V}, RDs B H vs ds → RDs B' H' vs ds
  | [], _, h => by cases h; exact .nil
  | d :: ds, _, h => by
    cases h with
    | cons h1 h2 => exact .cons (RD.mv m h1) (RDs.mv m h2)
theorem RDt.mv {B B' : Addr → Prop} {H H' : Hp} (m : Mv B B' H H') : ∀ {ds : List (D × D)} {kvs : List (List Key × V)}, RDt B H kvs ds → RDt B' H' kvs ds
  | [], _, h => by cases h; exact .nil
  | (_, d) :: ds, _, h => by
    cases h with
    | cons h1 h2 => exact .cons (RD.mv m h1) (RDt.mv m h2)
end
theorem Same.rd {H H' : Hp} (e : Same H H') {b : Addr} {u : HO} (h : Rd H b u) : Rd H' b u := by
  rcases h with h | ⟨o, h⟩
  · exact .inl (e _ _ h)
  · exact .inr ⟨o, e _ _ h⟩
theorem Mv.same {B : Addr → Prop} {H H' : Hp} (e : Same H H') : Mv B B H H' := ⟨fun _ _ _ h _ => Same.rd e h, fun _ _ h => e _ _ h, fun _ _ _ h => e _ _ h, fun _ h _ => h⟩
/-- the same heap, less forbidden -/
theorem Mv.less {B B' : Addr → Prop} {H : Hp} (h : ∀ b, B' b → H b ≠ none → B b) : Mv B B' H H := ⟨fun _ _ _ h _ => h, fun _ _ h => h, fun _ _ _ h => h, h⟩
theorem TopD.mvs {B : Addr → Prop} {H H' : Hp} (e : Same H H') {v : V} {d : D} (h : TopD B H v d) : TopD B H' v d := by
  cases h with
  | rd h => exact .rd (h.mv (.same e))
  | lst h1 h2 => exact .lst (Same.rd e h1) (RDs.mv (.same e) h2)
  | dT h1 h2 => exact .dT (Same.rd e h1) (RDt.mv (.same e) h2)
theorem same_upd {H : Hp} {p : Addr} {o : HO} (h : H p = none) : Same H (upd H p o) := fun b x e => by
  rw [upd_ne (ne_of_none e h)]
  exact e

theorem RDs.length {B : Addr → Prop} {H : Hp} : ∀ {vs : List V} {ds : List D}, RDs B H vs ds → vs.length = ds.length
  | _, _, .nil => rfl
  | _, _, .cons _ t => congrArg Nat.succ (RDs.length t)
theorem RDs.append {B : Addr → Prop} {H : Hp} : ∀ {vs ws : List V} {ds es : List D}, RDs B H vs ds → RDs B H ws es → RDs B H (vs ++ ws) (ds ++ es)
  | _, _, _, _, .nil, s => s
  | _, _, _, _, .cons r t, s => .cons r (RDs.append t s)
theorem RDs.get {B : Addr → Prop} {H : Hp} : ∀ {vs : List V} {ds : List D} {i : Nat} {d : D}, RDs B H vs ds → ds[i]? = some d → ∃ v, vs[i]? = some v ∧ RD B H v d
  | _, _, _, _, .nil, e => by simp at e
  | _, _, 0, _, .cons r _, e => by simp at e; subst e; exact ⟨_, rfl, r⟩
  | _, _, i + 1, d, .cons _ t, e => by
    obtain ⟨v, h1, h2⟩ := RDs.get (i := i) (d := d) t (by simpa using e)
    exact ⟨v, by simpa using h1, h2⟩
theorem RDs.at {B : Addr → Prop} {H : Hp} : ∀ {vs : List V} {ds : List D} {i : Nat} {v : V}, RDs B H vs ds → vs[i]? = some v → ∃ d, ds[i]? = some d ∧ RD B H v d
  | _, _, _, _, .nil, e => by simp at e
  | _, _, 0, _, .cons r _, e => by simp at e; subst e; exact ⟨_, rfl, r⟩
  | _, _, i + 1, d, .cons _ t, e => by
    obtain ⟨v, h1, h2⟩ := RDs.at (i := i) (v := d) t (by simpa using e)
    exact ⟨v, by simpa using h1, h2⟩
theorem RDs.take {B : Addr → Prop} {H : Hp} : ∀ {vs : List V} {ds : List D} (n : Nat), RDs B H vs ds → RDs B H (vs.take n) (ds.take n)
  | _, _, 0, _ => .nil
  | _, _, _ + 1, .nil => .nil
  | _, _, n + 1, .cons r t => .cons r (RDs.take n t)
theorem RDs.drop {B : Addr → Prop} {H : Hp} : ∀ {vs : List V} {ds : List D} (n : Nat), RDs B H vs ds → RDs B H (vs.drop n) (ds.drop n)
  | _, _, 0, r => r
  | _, _, _ + 1, .nil => .nil
  | _, _, n + 1, .cons _ t => RDs.drop n t
theorem RDs.set {B : Addr → Prop} {H : Hp} {v : V} {d : D} (r : RD B H v d) : ∀ {vs : List V} {ds : List D} (i : Nat), RDs B H vs ds → RDs B H (vs.set i v) (ds.set i d)
  | _, _, _, .nil => .nil
  | _, _, 0, .cons _ t => .cons r t
  | _, _, i + 1, .cons q t => .cons q (RDs.set r i t)
theorem RDs.flat {B : Addr → Prop} {H : Hp} {vs : List V} {ds : List D} (r : RDs B H vs ds) : ∀ n : Nat, RDs B H (List.replicate n vs).flatten (List.replicate n ds).flatten
  | 0 => .nil
  | n + 1 => by
    rw [List.replicate_succ, List.replicate_succ, List.flatten_cons, List.flatten_cons]
    exact r.append (RDs.flat r n)
theorem RDs.ints {B : Addr → Prop} {H : Hp} : ∀ {ds : List D} {vs : List V} {ns : List Int}, RDs B H vs ds → ints? ds = some ns → vs = ns.map V.int
  | [], _, ns, r, e => by
    cases r
    have e' : some ([] : List Int) = some ns := e
    cases e'; rfl
  | d :: ds, _, ns, r, e => by
    cases r with
    | cons r t =>
      cases d with
      | int i =>
        cases r
        have e1 : (ints? ds).map (i :: ·) = some ns := e
        cases h : ints? ds with
        | none => rw [h] at e1; cases e1
        | some ms =>
          rw [h] at e1
          cases e1
          rw [RDs.ints t h]; rfl
      | none => cases e
      | bool b => cases e
      | str x => cases e
      | list xs => cases e
      | tuple xs => cases e
      | dict xs => cases e
theorem RDs.keysV {B : Addr → Prop} {H : Hp} : ∀ (k : List Key), RDs B H (k.map kV) (k.map kD)
  | [] => .nil
  | .inl i :: r => .cons (.int i) (RDs.keysV r)
  | .inr x :: r => .cons (.str x) (RDs.keysV r)
/-- a tuple that may be a key -/
theorem key_of_flat {B : Addr → Prop} {H : Hp} : ∀ {vs : List V} {ds : List D}, RDs B H vs ds → ds.all flatKey = true → ∃ k : List Key, vs = k.map kV ∧ ds = k.map kD
  | _, _, .nil, _ => ⟨[], rfl, rfl⟩
  | _, _, .cons (d := d) r t, e => by
    rw [List.all_cons, Bool.and_eq_true] at e
    obtain ⟨k, rfl, rfl⟩ := key_of_flat t e.2
    cases r with
    | int i => exact ⟨.inl i :: k, rfl, rfl⟩
    | str x => exact ⟨.inr x :: k, rfl, rfl⟩
    | non => exact absurd e.1 (by decide)
    | bl b => exact absurd e.1 (by unfold flatKey; exact fun z => nomatch z)
    | tup => exact absurd e.1 (by unfold flatKey; exact fun z => nomatch z)
    | lst => exact absurd e.1 (by unfold flatKey; exact fun z => nomatch z)
    | dT => exact absurd e.1 (by unfold flatKey; exact fun z => nomatch z)
theorem flat_keys (k : List Key) : (k.map kD).all flatKey = true := by
  rw [List.all_map]
  exact List.all_eq_true.mpr fun x _ => kD_flat x
theorem kD_inj {a b : Key} (e : kD a = kD b) : a = b := by
  cases a <;> cases b <;> cases e <;> rfl
theorem eqv_kD (a b : Key) : PyData.eqv (kD a) (kD b) = decide (a = b) := by
  cases a with
  | inl i =>
    cases b with
    | inl j => simp only [kD, PyData.eqv]; by_cases h : i = j <;> simp [h]
    | inr y => simp [kD, PyData.eqv]
  | inr x =>
    cases b with
    | inl j => simp [kD, PyData.eqv]
    | inr y => simp only [kD, PyData.eqv]; by_cases h : x = y <;> simp [h]
theorem eqvAll_kD : ∀ a b : List Key, PyData.eqvAll (a.map kD) (b.map kD) = decide (a = b)
  | [], [] => by simp [PyData.eqvAll]
  | [], _ :: _ => by simp [PyData.eqvAll]
  | _ :: _, [] => by simp [PyData.eqvAll]
  | x :: a, y :: b => by
    simp only [List.map_cons, PyData.eqvAll, eqv_kD, eqvAll_kD a b]
    by_cases h : x = y <;> by_cases h2 : a = b <;> simp [h, h2]
theorem RDt.get {B : Addr → Prop} {H : Hp} (j : List Key) : ∀ {kvs : List (List Key × V)} {ds : List (D × D)}, RDt B H kvs ds →
    (valV kvs j = none ∧ dget ds (.tuple (j.map kD)) = none) ∨ ∃ v d, valV kvs j = some v ∧ dget ds (.tuple (j.map kD)) = some d ∧ RD B H v d
  | _, _, .nil => .inl ⟨rfl, rfl⟩
  | _, _, .cons (k := k) (v := v) (kvs := kvs) (d := d) (ds := ds) r t => by
    have he : PyData.eqv (.tuple (k.map kD)) (.tuple (j.map kD)) = decide (k = j) := by simp only [PyData.eqv]; exact eqvAll_kD k j
    by_cases h : k = j
    · refine .inr ⟨v, d, valV_pos h, ?_, r⟩
      unfold dget
      rw [he, if_pos (decide_eq_true h)]
    · rw [valV_neg h]
      unfold dget
      rw [he, if_neg (by rw [decide_eq_false h]; exact Bool.false_ne_true)]
      exact RDt.get j t
theorem RDt.map {B : Addr → Prop} {H : Hp} (j : List Key) {v : V} {d : D} (r : RD B H v d) : ∀ {kvs : List (List Key × V)} {ds : List (D × D)}, RDt B H kvs ds → (kvs.map (·.1)).Nodup →
    RDt B H (putK kvs j v) (dput ds (.tuple (j.map kD)) d)
  | _, _, .nil, _ => by
    show RDt B H [(j, v)] [(.tuple (j.map kD), d)]
    exact .cons r .nil
  | _, _, .cons (k := k) (v := u) (kvs := kvs) (d := e) (ds := ds) q t, hn => by
    have he : PyData.eqv (.tuple (k.map kD)) (.tuple (j.map kD)) = decide (k = j) := by simp only [PyData.eqv]; exact eqvAll_kD k j
    have hn' := List.nodup_cons.mp hn
    by_cases h : k = j
    · subst h
      have e1 : putK ((k, u) :: kvs) k v = (k, v) :: kvs := by
        unfold putK
        have a1 : (((k, u) :: kvs).any fun kv => decide (kv.1 = k)) = true := by simp
        rw [if_pos a1, List.map_cons]
        have a2 : kvs.map (fun kv => if kv.1 = k then (kv.1, v) else kv) = kvs := by
          conv => rhs; rw [← List.map_id kvs]
          refine List.map_congr_left fun p hp => ?_
          rw [if_neg (fun z => hn'.1 (List.mem_map.mpr ⟨p, hp, z⟩))]; rfl
        rw [a2]; simp
      rw [e1]
      unfold dput
      rw [he, if_pos (decide_eq_true rfl)]
      exact .cons r t
    · have e1 : putK ((k, u) :: kvs) j v = (k, u) :: putK kvs j v := by
        unfold putK
        rw [List.any_cons, decide_eq_false h, Bool.false_or]
        split
        · rw [List.map_cons, if_neg h]
        · rfl
      rw [e1]
      unfold dput
      rw [he, if_neg (by rw [decide_eq_false h]; exact Bool.false_ne_true)]
      exact .cons q (RDt.map j r t hn'.2)
theorem RDt.length {B : Addr → Prop} {H : Hp} : ∀ {kvs : List (List Key × V)} {ds : List (D × D)}, RDt B H kvs ds → kvs.length = ds.length
  | _, _, .nil => rfl
  | _, _, .cons _ t => congrArg Nat.succ (RDt.length t)

/-! ### data that read -/
mutual
theorem RD.dp {K : W.Frag} {B : Addr → Prop} {H : Hp} : ∀ {d : D} {v : V}, RD B H v d → d.plain = true → Dp K H v d
  | .none, _, h, _ => by cases h; exact .non
  | .bool b, _, h, _ => by cases h; exact .bl b
  | .int i, _, h, _ => by cases h; exact .int i
  | .str x, _, h, _ => by cases h; exact .str x
  | .tuple ds, _, h, p => by
    cases h with
    | tup h1 h2 => exact .tup (.inl h1.rd) (RDs.dp h2 (by simpa [PyData.plain] using p))
  | .list ds, _, h, p => by
    cases h with
    | lst h0 h1 h2 => exact .lst (.inl h1) (RDs.dp h2 (by simpa [PyData.plain] using p))
  | .dict ds, _, h, p => by simp [PyData.plain] at p
theorem RDs.dp {K : W.Frag} {B : Addr → Prop} {H : Hp} : ∀ {ds : List D} {vs : List V}, RDs B H vs ds → PyData.plainAll ds = true → DpAll K H vs ds
  | [], _, h, _ => by cases h; exact .nil
  | d :: ds, _, h, p => by
    have p' : d.plain = true ∧ PyData.plainAll ds = true := by simpa [PyData.plainAll] using p
    cases h with
    | cons h1 h2 => exact .cons (RD.dp h1 p'.1) (RDs.dp h2 p'.2)
end
theorem TopD.dp {K : W.Frag} {B : Addr → Prop} {H : Hp} {v : V} {d : D} (h : TopD B H v d) (p : d.plain = true) : Dp K H v d := by
  cases h with
  | rd h => exact h.dp p
  | lst h1 h2 => exact .lst (.inl h1) (RDs.dp h2 (by simpa [PyData.plain] using p))
  | dT h1 h2 => simp [PyData.plain] at p
theorem fit_plain {d : D} (h : fit d = true) : d.plain = true := (Bool.and_eq_true_iff.mp h).1
theorem fit_depth {d : D} (h : fit d = true) : d.depth ≤ 60 := of_decide_eq_true (Bool.and_eq_true_iff.mp h).2
theorem LIM_eq : LIM = sizeLine := by rw [sizeLine_eq]; rfl
/-- an operand that is a list | a tuple -/
theorem TopD.lst_of {B : Addr → Prop} {H : Hp} {v : V} {ds : List D} (h : TopD B H v (.list ds)) : ∃ a xs, v = .ref a ∧ Rd H a (.lst xs) ∧ RDs B H xs ds := by
  cases h with
  | rd h => cases h with | lst _ h1 h2 => exact ⟨_, _, rfl, h1, h2⟩
  | lst h1 h2 => exact ⟨_, _, rfl, h1, h2⟩
theorem TopD.tup_of {B : Addr → Prop} {H : Hp} {v : V} {ds : List D} (h : TopD B H v (.tuple ds)) : ∃ a xs, v = .ref a ∧ TupAt H a ds xs ∧ RDs B H xs ds := by
  cases h with
  | rd h => cases h with | tup h1 h2 => exact ⟨_, _, rfl, h1, h2⟩
theorem TopD.dT_of {B : Addr → Prop} {H : Hp} {v : V} {ds : List (D × D)} (h : TopD B H v (.dict ds)) : ∃ a kvs, v = .ref a ∧ Rd H a (.dT kvs) ∧ RDt B H kvs ds := by
  cases h with
  | rd h => cases h with | dT _ h1 h2 => exact ⟨_, _, rfl, h1, h2⟩
  | dT h1 h2 => exact ⟨_, _, rfl, h1, h2⟩
theorem TopD.int_of {B : Addr → Prop} {H : Hp} {v : V} {i : Int} (h : TopD B H v (.int i)) : v = .int i := by
  cases h with
  | rd h => cases h; rfl
theorem TopD.bl_of {B : Addr → Prop} {H : Hp} {v : V} {i : Bool} (h : TopD B H v (.bool i)) : v = .bl i := by
  cases h with
  | rd h => cases h; rfl
theorem TopD.str_of {B : Addr → Prop} {H : Hp} {v : V} {i : Str} (h : TopD B H v (.str i)) : v = .str i := by
  cases h with
  | rd h => cases h; rfl
theorem TopD.non_iff {B : Addr → Prop} {H : Hp} {v : V} {d : D} (h : TopD B H v d) : decide (v = .non) = isNone d := by
  cases h with
  | rd h => cases h <;> simp [isNone]
  | lst => simp [isNone]
  | dT => simp [isNone]
end PV
end
section
set_option Elab.async false
set_option linter.all false
set_option maxRecDepth 100000
set_option maxHeartbeats 4000000
/-! PV3: the operations on data, by values. -/
namespace PV
open PySem PySem.Spec PyProof.Rows L2

abbrev NoN (B : Addr → Prop) (H : Hp) : Prop := ∀ b, B b → H b ≠ none
def isL : D → Bool
  | .list _ => true
  | .dict _ => true
  | _ => false
/-- v is a new object, known as what it is -/
def New1 (B : Addr → Prop) (H H' : Hp) (v : V) (d : D) : Prop := ∃ a, v = .ref a ∧ H a = none ∧ OwnAt (fun b => B b ∨ b = a) H' a d
/-- what follows a value; a list or dict is new -/
def FinL (B : Addr → Prop) (H : Hp) (d : D) (Q : VK) : Prop := ∀ v H', Same H H' → RD B H' v d → (isL d = true → New1 B H H' v d) → Q v H'
/-- what follows a value -/
def Fin (B : Addr → Prop) (H : Hp) (d : D) (Q : VK) : Prop := ∀ v H', Same H H' → RD B H' v d → Q v H'
theorem Fin.finL {B : Addr → Prop} {H : Hp} {d : D} {Q : VK} (h : Fin B H d Q) : FinL B H d Q := fun v H' a b _ => h v H' a b

theorem NoN.fresh {B : Addr → Prop} {H : Hp} (n : NoN B H) {p : Addr} (h : H p = none) : ¬ B p := fun z => n p z h
theorem mv_new {B : Addr → Prop} {H : Hp} {p : Addr} {o : HO} (h : H p = none) : Mv B (fun b => B b ∨ b = p) H (upd H p o) :=
  ⟨fun _ _ _ hr _ => Same.rd (same_upd h) hr, fun _ _ e => same_upd h _ _ e, fun _ _ _ e => same_upd h _ _ e, fun b hb hn => by
    rcases hb with hb | rfl
    · exact hb
    · exact absurd h hn⟩
/-- a new list -/
theorem new_lst {B : Addr → Prop} {H : Hp} {xs : List V} {ds : List D} {Q : VK} (n : NoN B H) (r : RDs B H xs ds) (q : FinL B H (.list ds) Q) (p : Addr) (h : H p = none) : Q (.ref p) (upd H p (.lst xs)) :=
  q _ _ (same_upd h) (.lst (n.fresh h) (.inl upd_same) (RDs.mv (.same (same_upd h)) r)) (fun _ => ⟨p, rfl, h, .inl ⟨xs, ds, rfl, upd_same, RDs.mv (mv_new h) r⟩⟩)

section
variable {X : Cx} {pins : List (Addr × Obj)} {σ : L2.St} {H : Hp} {s : Shared} {B : Addr → Prop}
theorem listR (I : Inv X pins σ H s) {a : Addr} {xs : List V} (h : Rd H a (.lst xs)) : ∃ its n, Vals xs its ∧ s.heap.get? a = some { cls := .type "list", data := .seq its.toArray n } ∧ xs.length ≤ sizeLine := by
  obtain ⟨z, its, n, r, e⟩ := (show ObjOk X.prog X.w H s.heap a (.lst xs) from h.ok I.hok)
  exact ⟨its, n, r, e, z⟩

/-- a new tuple -/
theorem mk_tup {h' : Heap} {t' : Nat} {a : Addr} {xs : List V} {its : List Value} {ds : List D} {Q : VK} (I : Inv X pins σ H s) (k : ∀ b u, s.heap.get? b = some u → h'.get? b = some u) (hp : s.heap.objs.size ≤ a) (hg : h'.get? a = some { cls := .type "tuple", data := .seq its.toArray })
    (rv : Vals xs its) (r : RDs B H xs ds) (hz : xs.length ≤ sizeLine) (q : FinL B H (.tuple ds) Q) : EP X pins σ Q (.ref a) { s with heap := h', toks := t' } := by
  have hn : H a = none := I.hok.fresh hp
  by_cases hf : ds.all flatKey = true
  · exact ⟨.ref a, upd H a (.tup xs), I.laid (t' := t') k hp ⟨hz, its, rv, _, hg, rfl, _, rfl⟩, rfl, q _ _ (same_upd hn) (.tup (.inl ⟨hf, upd_same⟩) (RDs.mv (.same (same_upd hn)) r)) (fun z => nomatch z)⟩
  · exact ⟨.ref a, upd H a (.frz _ (.tup xs)), I.laid (t' := t') k hp ⟨hg, hz, its, rv, _, hg, rfl, _, rfl⟩, rfl, q _ _ (same_upd hn) (.tup (.inr ⟨by simpa using hf, _, rfl, upd_same⟩) (RDs.mv (.same (same_upd hn)) r)) (fun z => nomatch z)⟩
theorem mk_push {xs : List V} {its : List Value} {ds : List D} {Q : VK} (I : Inv X pins σ H s) (rv : Vals xs its) (r : RDs B H xs ds) (hz : xs.length ≤ sizeLine) (q : FinL B H (.tuple ds) Q) : EP X pins σ Q (.ref s.heap.objs.size) { s with heap := s.heap.push { cls := .type "tuple", data := .seq its.toArray } } :=
  mk_tup (t' := s.toks) I (fun b u e => Heap.get?_push_of_some _ e) (Nat.le_refl _) (Heap.get?_push_size _ rfl) rv r hz q

theorem rep_flatten {α : Type} (n : Nat) (xs : List α) : rep n xs = (List.replicate n xs).flatten := rfl
theorem len_rep_flat {α : Type} : ∀ (n : Nat) (xs : List α), (List.replicate n xs).flatten.length = n * xs.length
  | 0, xs => by simp
  | n + 1, xs => by rw [List.replicate_succ, List.flatten_cons, List.length_append, len_rep_flat n xs, Nat.succ_mul]; omega

/-! ### t * 0, t * 1, () * k -/
theorem tuple_mul0 (l : Addr) (items : Array Value) (n : Nat) (dd : Option Addr) (sl : Array (Option Value)) (x : Int) (u : Tok) (c0 : (decide (x < -(2 ^ 63)) || decide (x ≥ 2 ^ 63)) = false) (c1 : (items.isEmpty || x == 1) = false) (c2 : (decide (x ≤ 0) || items.isEmpty) = true) :
    Meets (Builtin.«tuple.__mul__» ⟨[.ref l, .int x u], []⟩) (fun _ R s => s.heap.get? l = some { cls := .type "tuple", dict := dd, data := .seq items n, slots := sl } ∧
      R (.ok (.ret (Value.ref s.heap.objs.size))) { s with heap := s.heap.push { cls := Value.type "tuple", data := Data.seq #[] }, toks := s.toks }) :=
  .of_wp fun prog w A R s h => by
    obtain ⟨hp, g, d, tk, os⟩ := s
    obtain ⟨hl, h⟩ := h
    have f1 := AutoSeq1.idx_int
    wp_walk using wpAny_loadPart' hl
    repeat (first
      | (refine wpAny_ite_false (decide_eq_false (by rw [c0]; exact Bool.false_ne_true)) ?_; wp_walk using wpAny_loadPart' hl)
      | (refine wpAny_ite_false (decide_eq_false (by rw [c1]; exact Bool.false_ne_true)) ?_; wp_walk using wpAny_loadPart' hl)
      | (refine wpAny_ite_true (decide_eq_true c2) ?_; wp_walk using wpAny_loadPart' hl))
    exact ⟨_, rfl, h⟩
theorem tuple_mul1 (l : Addr) (items : Array Value) (n : Nat) (dd : Option Addr) (sl : Array (Option Value)) (x : Int) (u : Tok) (c0 : (decide (x < -(2 ^ 63)) || decide (x ≥ 2 ^ 63)) = false) (c1 : (items.isEmpty || x == 1) = true) :
    Meets (Builtin.«tuple.__mul__» ⟨[.ref l, .int x u], []⟩) (fun _ R s => s.heap.get? l = some { cls := .type "tuple", dict := dd, data := .seq items n, slots := sl } ∧
      R (.ok (.ret (Value.ref l))) { s with toks := s.toks }) :=
  .of_wp fun prog w A R s h => by
    obtain ⟨hp, g, d, tk, os⟩ := s
    obtain ⟨hl, h⟩ := h
    have f1 := AutoSeq1.idx_int
    wp_walk using wpAny_loadPart' hl
    repeat (first
      | (refine wpAny_ite_false (decide_eq_false (by rw [c0]; exact Bool.false_ne_true)) ?_; wp_walk using wpAny_loadPart' hl)
      | (refine wpAny_ite_true (decide_eq_true c1) ?_; wp_walk using wpAny_loadPart' hl))
    exact ⟨_, rfl, h⟩

theorem rel1 {x : V} {us : List Value} (r : Vals [x] us) : ∃ u, us = [u] ∧ RelV x u := vals1 r

def opOf : B2 → Operator
  | .add => .Add | .sub => .Sub | .mul => .Mult | .fdiv => .FloorDiv | .mod => .Mod | .pow => .Pow
def cmOf : Cm → CmpOp
  | .eq => .Eq | .ne => .NotEq | .lt => .Lt | .le => .LtE | .gt => .Gt | .ge => .GtE | .isin => .In | .nin => .NotIn


def rBin (o : B2) : R2 := fun x y H Q => ∃ B dx dy d, NoN B H ∧ TopD B H x dx ∧ TopD B H y dy ∧ bin2 o dx dy = .ok d ∧ FinL B H d Q

theorem rep_tup {l : Addr} {xs : List V} {ds : List D} {k : Int} {t : Tok} {Q : VK} (I : Inv X pins σ H s) (hT : TupAt H l ds xs) (rx : RDs B H xs ds) (h1 : 0 ≤ k) (h2 : k ≤ 64) (hz : ds.length ≤ 64) (q : FinL B H (.tuple (rep k.toNat ds)) Q) :
    wpAny (model X.prog X.w) X.A (binaryOp .Mult (.ref l) (.int k t)) (EP X pins σ Q) X.xe s := by
  have hlen := rx.length
  obtain ⟨its, r, ⟨⟨cls, dd, data, sl⟩, ho, hc, n, hd⟩, hs⟩ := I.tuple (show SqT X.K H l xs from .inl hT.rd)
  simp only at hc hd
  subst hc hd
  have hle : its.length = xs.length := r.length.symm
  have c0 : (decide (k < -(2 ^ 63)) || decide (k ≥ 2 ^ 63)) = false := by
    rw [decide_eq_false (by omega), decide_eq_false (by omega)] <;> rfl
  refine wpAny_binaryOp_repeat_ref (T := "tuple") (U := "int") (by decide) ⟨_, ho, rfl⟩ (fun s' => typeIs_int s' k t) noFill_tuple_mul F.fills_int_mul F.slot_int_rmul repeat_tuple F.slot_int_index.lookup
    (call_meets F.slot_int_rmul (typeIs_int s k t) F.entry_int_rmul (F.args_int_rmul_2 _ _) (int_rmul_tuple k t l its.toArray n dd sl) ⟨ho, rfl, ⟨_, ho, rfl⟩, ?_⟩)
  by_cases hk1 : (its.toArray.isEmpty || k == 1) = true
  · refine call_meets F.slot_tuple_mul ⟨_, ho, rfl⟩ F.entry_tuple_mul (F.args_tuple_mul_2 _ _) (tuple_mul1 l its.toArray n dd sl k t c0 hk1) ⟨ho, ?_⟩
    have e : rep k.toNat ds = ds := by
      rw [Bool.or_eq_true] at hk1
      rcases hk1 with z | z
      · have : its = [] := by simpa using z
        have hx : ds = [] := by
          have : ds.length = 0 := by rw [← hlen, ← hle, this]; rfl
          exact List.eq_nil_of_length_eq_zero this
        rw [hx]; unfold rep
        induction k.toNat with
        | zero => rfl
        | succ n ih => rw [List.replicate_succ, List.flatten_cons, ih]; rfl
      · have : k = 1 := eq_of_beq z
        rw [this]; unfold rep; simp
    rw [e] at q
    exact ⟨.ref l, H, I.tok _, rfl, q _ _ (L2.Same.refl H) (.tup hT rx) (fun z => nomatch z)⟩
  · have hk0 : (its.toArray.isEmpty || k == 1) = false := by simpa using hk1
    have hne : its.toArray.isEmpty = false := (Bool.or_eq_false_iff.mp hk0).1
    have hn1 : k ≠ 1 := fun z => by rw [z] at hk0; simp at hk0
    by_cases hz0 : k = 0
    · refine call_meets F.slot_tuple_mul ⟨_, ho, rfl⟩ F.entry_tuple_mul (F.args_tuple_mul_2 _ _) (tuple_mul0 l its.toArray n dd sl k t c0 hk0 (by rw [hz0]; simp)) ⟨ho, ?_⟩
      have e : rep k.toNat ds = [] := by rw [hz0]; rfl
      rw [e] at q
      exact mk_push (its := []) I .nil .nil (Nat.zero_le _) q
    · have c2 : (decide (k ≤ 0) || its.toArray.isEmpty) = false := by
        rw [hne, Bool.or_false]
        exact decide_eq_false (by omega)
      have hsz0 : its.toArray.size = ds.length := by rw [List.size_toArray, hle, hlen]
      have hm : ((its.toArray.size : Nat) : Int) * k ≤ 4096 := by
        rw [hsz0]
        have a1 : ((ds.length : Nat) : Int) * k ≤ 64 * k := Int.mul_le_mul_of_nonneg_right (by omega) (by omega)
        omega
      have flen : (List.replicate k.toNat its).flatten.length ≤ sizeLine := by
        rw [PyProof.Rows.lm_len_rep_flat, hle, hlen, sizeLine_eq]
        have a1 : k.toNat * ds.length ≤ 64 * 64 := Nat.mul_le_mul (by omega) hz
        omega
      have c4 : Builtin.Tuple.tupleTooMany (((its.toArray.size : Nat) : Int) * k) = false := by
        unfold Builtin.Tuple.tupleTooMany
        rw [sizeLine_eq]
        exact decide_eq_false (by omega)
      refine call_meets F.slot_tuple_mul ⟨_, ho, rfl⟩ F.entry_tuple_mul (F.args_tuple_mul_2 _ _) (tuple_mulW l its.toArray n dd sl k t c0 hk0 c2 (by omega) c4 (by rw [size_rep, List.size_toArray]; exact flen)) ⟨ho, ?_⟩
      rw [size_rep]
      refine mk_push I (r.rep k.toNat) (rx.flat _) ?_ q
      rw [PyProof.Rows.lm_len_rep_flat, hlen, sizeLine_eq]
      have a1 : k.toNat * ds.length ≤ 64 * 64 := Nat.mul_le_mul (by omega) hz
      omega
theorem cat_tupD {l b : Addr} {xs ys : List V} {ds es : List D} {Q : VK} (I : Inv X pins σ H s) (h1 : TupAt H l ds xs) (h2 : TupAt H b es ys) (r1 : RDs B H xs ds) (r2 : RDs B H ys es) (hz : ds.length + es.length ≤ LIM) (q : FinL B H (.tuple (ds ++ es)) Q) :
    wpAny (model X.prog X.w) X.A (binaryOp .Add (.ref l) (.ref b)) (EP X pins σ Q) X.xe s := by
  have l1 := r1.length
  have l2 := r2.length
  rw [LIM_eq] at hz
  obtain ⟨its, v1, p1, _⟩ := I.tuple (show SqT X.K H l xs from .inl h1.rd)
  obtain ⟨its2, v2, p2, _⟩ := I.tuple (show SqT X.K H b ys from .inl h2.rd)
  have m1 := v1.length
  have m2 := v2.length
  by_cases hx : xs = []
  · subst hx
    cases v1
    cases r1
    exact L2.cat_tup0 p1 p2 ⟨.ref b, H, I, rfl, q _ _ (L2.Same.refl H) (.tup h2 r2) (fun z => nomatch z)⟩
  · refine HT.cat_tup p1 p2 (fun z => hx (by subst z; cases v1; rfl)) (fun z => ?_) (fun z => ?_) (by omega)
    · subst z
      cases v2
      cases r2
      rw [List.append_nil] at q
      exact ⟨.ref l, H, I, rfl, q _ _ (L2.Same.refl H) (.tup h1 r1) (fun z => nomatch z)⟩
    · exact mk_push I (v1.append v2) (r1.append r2) (by rw [List.length_append]; omega) q
theorem cat_lst {l b : Addr} {xs ys : List V} {ds es : List D} {Q : VK} (I : Inv X pins σ H s) (hB : NoN B H) (h1 : Rd H l (.lst xs)) (h2 : Rd H b (.lst ys)) (r1 : RDs B H xs ds) (r2 : RDs B H ys es) (hz : ds.length + es.length ≤ LIM) (q : FinL B H (.list (ds ++ es)) Q) :
    wpAny (model X.prog X.w) X.A (binaryOp .Add (.ref l) (.ref b)) (EP X pins σ Q) X.xe s := by
  have l1 := r1.length
  have l2 := r2.length
  obtain ⟨its, n, v1, e1, _⟩ := listR I h1
  obtain ⟨its2, n2, v2, e2, _⟩ := listR I h2
  have m1 := v1.length
  have m2 := v2.length
  rw [LIM_eq] at hz
  refine PySem.P.add_list e1 e2 ?_ (by rw [List.size_toArray, List.size_toArray]; omega)
  have ea : its.toArray ++ its2.toArray = (its ++ its2).toArray := by simp
  rw [ea]
  exact ⟨.ref _, _, I.lnew (t' := s.toks) (v1.append v2) (by rw [List.length_append]; omega), rfl, new_lst hB (r1.append r2) q _ I.fresh⟩
theorem rep_lst {l : Addr} {xs : List V} {ds : List D} {k : Int} {t : Tok} {Q : VK} (I : Inv X pins σ H s) (hB : NoN B H) (hT : Rd H l (.lst xs)) (rx : RDs B H xs ds) (h1 : 0 ≤ k) (h2 : k ≤ 64) (hz : ds.length ≤ 64) (q : FinL B H (.list (rep k.toNat ds)) Q) :
    wpAny (model X.prog X.w) X.A (binaryOp .Mult (.ref l) (.int k t)) (EP X pins σ Q) X.xe s := by
  have hlen := rx.length
  obtain ⟨its, n, r, e, _⟩ := listR I hT
  have hl := r.length
  have hb : ds.length * k.toNat ≤ 64 * 64 := Nat.mul_le_mul hz (by omega)
  have hlen2 : its.toArray.size * k.toNat ≤ sizeLine := by rw [List.size_toArray, ← hl, hlen, sizeLine_eq]; omega
  have hcap : ¬ its.toArray.size * k.toNat > (2 ^ 63 - 1) / 8 := by
    have : (sizeLine : Nat) ≤ (2 ^ 63 - 1) / 8 := by decide
    omega
  have hfit : ¬ (!Builtin.List.listFitsIndex k) = true := by
    rw [fitsIndex_both (by omega) (by omega)]
    exact Bool.false_ne_true
  have hlong : ¬ Builtin.List.listTooLong (its.toArray.size * k.toNat) = true := by
    rw [notLongL hlen2]
    exact Bool.false_ne_true
  have hnew : List.foldl (fun x1 x2 => x1 ++ x2) #[] (List.replicate (if its.toArray.isEmpty = true then 0 else k.toNat) its.toArray) = (List.replicate k.toNat its).flatten.toArray := by
    have f0 : ∀ m : Nat, List.foldl (fun x1 x2 => x1 ++ x2) #[] (List.replicate m its.toArray) = (List.replicate m its).flatten.toArray := fun m => by
      have := foldl_rep its m []
      rw [List.nil_append] at this
      exact this
    rw [f0]
    cases its with
    | nil => simp
    | cons a r' => rw [if_neg (by simp)]
  refine wpAny_binaryOp_repeat_ref (T := "list") (U := "int") (by decide) ⟨_, e, rfl⟩ (fun s' => typeIs_int s' k t) noFill_list_mul F.fills_int_mul F.slot_int_rmul repeat_list F.slot_int_index.lookup
    (call_meets F.slot_int_rmul (typeIs_int s k t) F.entry_int_rmul (F.args_int_rmul_2 _ _) (int___rmul___int_list k t l its.toArray n)
      ⟨e, rfl, ⟨_, e, rfl⟩, call_meets F.slot_list_mul ⟨_, e, rfl⟩ F.entry_list_mul (F.args_list_mul_2 _ _) (AutoListH.list___mul___list_int_3 l its.toArray n k t hfit hcap hlong) ⟨e, ?_⟩⟩)
  rw [hnew]
  refine ⟨.ref _, _, I.lnew (t' := s.toks) (r.rep k.toNat) (by rw [PyProof.Rows.lm_len_rep_flat, Nat.mul_comm, hlen, sizeLine_eq]; omega), rfl, new_lst hB (rx.flat _) q _ I.fresh⟩

theorem op_bin (o : B2) : OpR X (binaryOp (opOf o)) (rBin o) := by
  intro pins s σ H x y v u Q I rx ry h
  obtain ⟨B, dx, dy, d, hB, hx, hy, e, q⟩ := h
  have int2 : ∀ {i j : Int} {f : Int}, dx = .int i → dy = .int j → x = .int i ∧ y = .int j := fun {i j f} e1 e2 => by
    subst e1; subst e2; exact ⟨hx.int_of, hy.int_of⟩
  have fin : ∀ {k : Int}, d = .int k → Q (.int k) H := fun {k} e => by
    subst e; exact q _ _ (L2.Same.refl H) (.int k) (fun z => nomatch z)
  cases o with
  | add =>
    cases dx with
    | int i =>
      cases dy with
      | int j =>
        cases e
        obtain ⟨rfl, rfl⟩ := int2 (f := 0) rfl rfl
        exact op_add pins s σ H _ _ v u Q I rx ry ⟨i, j, rfl, rfl, fin rfl⟩
      | _ => cases e
    | tuple xs =>
      cases dy with
      | tuple ys =>
        have e' : (if xs.length + ys.length ≤ LIM then R.ok (PyData.tuple (xs ++ ys)) else .bad) = R.ok d := e
        split at e'
        · rename_i hz
          cases e'
          obtain ⟨a, vs, rfl, ha, ra⟩ := hx.tup_of
          obtain ⟨b, ws, rfl, hb, rb⟩ := hy.tup_of
          cases rx; cases ry
          exact cat_tupD I ha hb ra rb hz q
        · cases e'
      | _ => cases e
    | list xs =>
      cases dy with
      | list ys =>
        have e' : (if xs.length + ys.length ≤ LIM then R.ok (PyData.list (xs ++ ys)) else .bad) = R.ok d := e
        split at e'
        · rename_i hz
          cases e'
          obtain ⟨a, vs, rfl, ha, ra⟩ := hx.lst_of
          obtain ⟨b, ws, rfl, hb, rb⟩ := hy.lst_of
          cases rx; cases ry
          exact cat_lst I hB ha hb ra rb hz q
        · cases e'
      | _ => cases e
    | _ => cases e
  | sub =>
    cases dx with
    | int i =>
      cases dy with
      | int j =>
        cases e
        obtain ⟨rfl, rfl⟩ := int2 (f := 0) rfl rfl
        exact op_sub pins s σ H _ _ v u Q I rx ry ⟨i, j, rfl, rfl, fin rfl⟩
      | _ => cases e
    | _ => cases e
  | mul =>
    cases dx with
    | int i =>
      cases dy with
      | int j =>
        have e' : (if mulOk i j = true then R.ok (PyData.int (i * j)) else .bad) = R.ok d := e
        split at e'
        · rename_i hm
          cases e'
          obtain ⟨rfl, rfl⟩ := int2 (f := 0) rfl rfl
          refine op_mul pins s σ H _ _ v u Q I rx ry ⟨i, j, rfl, rfl, ?_, fin rfl⟩
          unfold mulOk at hm
          rw [Bool.or_eq_true] at hm
          rcases hm with z | z
          · exact .inl (of_decide_eq_true z)
          · exact .inr (of_decide_eq_true z)
        · cases e'
      | _ => cases e
    | tuple xs =>
      cases dy with
      | int j =>
        have e' : (if 0 ≤ j ∧ j ≤ 64 ∧ xs.length ≤ 64 then R.ok (PyData.tuple (rep j.toNat xs)) else .bad) = R.ok d := e
        split at e'
        · rename_i hz
          cases e'
          obtain ⟨a, vs, rfl, ha, ra⟩ := hx.tup_of
          obtain rfl := hy.int_of
          cases rx
          obtain ⟨t, rfl⟩ := ry
          exact rep_tup I ha ra hz.1 hz.2.1 hz.2.2 q
        · cases e'
      | _ => cases e
    | list xs =>
      cases dy with
      | int j =>
        have e' : (if 0 ≤ j ∧ j ≤ 64 ∧ xs.length ≤ 64 then R.ok (PyData.list (rep j.toNat xs)) else .bad) = R.ok d := e
        split at e'
        · rename_i hz
          cases e'
          obtain ⟨a, vs, rfl, ha, ra⟩ := hx.lst_of
          obtain rfl := hy.int_of
          cases rx
          obtain ⟨t, rfl⟩ := ry
          exact rep_lst I hB ha ra hz.1 hz.2.1 hz.2.2 q
        · cases e'
      | _ => cases e
    | _ => cases e
  | fdiv =>
    cases dx with
    | int i =>
      cases dy with
      | int j =>
        have e' : (if 0 < j ∧ j < 1073741824 then R.ok (PyData.int (i / j)) else .bad) = R.ok d := e
        split at e'
        · rename_i hz
          cases e'
          obtain ⟨rfl, rfl⟩ := int2 (f := 0) rfl rfl
          exact op_fdiv pins s σ H _ _ v u Q I rx ry ⟨i, j, rfl, rfl, hz, fin rfl⟩
        · cases e'
      | _ => cases e
    | _ => cases e
  | mod =>
    cases dx with
    | int i =>
      cases dy with
      | int j =>
        have e' : (if 0 < j then R.ok (PyData.int (i % j)) else .bad) = R.ok d := e
        split at e'
        · rename_i hz
          cases e'
          obtain ⟨rfl, rfl⟩ := int2 (f := 0) rfl rfl
          exact op_mod pins s σ H _ _ v u Q I rx ry ⟨i, j, rfl, rfl, hz, fin rfl⟩
        · cases e'
      | _ => cases e
    | _ => cases e
  | pow =>
    cases dx with
    | int i =>
      cases dy with
      | int j =>
        have e' : (if 0 ≤ j ∧ j ≤ 1000 ∧ i.natAbs < 2 ^ 64 then R.ok (PyData.int (i ^ j.toNat)) else .bad) = R.ok d := e
        split at e'
        · rename_i hz
          cases e'
          obtain ⟨rfl, rfl⟩ := int2 (f := 0) rfl rfl
          exact op_pow pins s σ H _ _ v u Q I rx ry ⟨i, j, rfl, rfl, ⟨hz.1, by omega, hz.2.2⟩, fin rfl⟩
        · cases e'
      | _ => cases e
    | _ => cases e
end
end PV
end
section
set_option Elab.async false
set_option linter.all false
set_option maxRecDepth 100000
set_option maxHeartbeats 4000000
/-! PV4: comparisons, subscripts, slices, built-ins of one argument. -/
namespace PV
open PySem PySem.Spec PyProof.Rows L2

section
variable {X : Cx} {pins : List (Addr × Obj)} {σ : L2.St} {H : Hp} {s : Shared} {B : Addr → Prop}

theorem reads_of (I : Inv X pins σ H s) {x : V} {u : Value} {d : D} (h : TopD B H x d) (p : d.plain = true) (rx : RelV x u) : ∃ as, Reads s.heap u d as := Dp.reads I d x u (h.dp p) rx
theorem readsAll_of (I : Inv X pins σ H s) {xs : List V} {us : List Value} {ds : List D} (h : RDs B H xs ds) (p : PyData.plainAll ds = true) (rx : Vals xs us) : ∃ as, ReadsAll s.heap us ds as := Dp.readsAll I ds xs us (RDs.dp h p) rx
theorem room_fit {A : Around} {a b : D} (hu : A.units + 64 < cLine) (ha : fit a = true) : A.units + min a.depth b.depth < cLine := by
  have := fit_depth ha
  have h2 : min a.depth b.depth ≤ a.depth := Nat.min_le_left _ _
  omega
theorem tkey_of {x : V} {d : D} (h : RD B H x d) (t : tkey d = true) : ∃ (b : Addr) (k : List Key), x = .ref b ∧ H b = some (.tup (k.map kV)) ∧ d = .tuple (k.map kD) := by
  cases h with
  | tup h1 h2 =>
    obtain ⟨k, rfl, rfl⟩ := key_of_flat h2 t
    rcases h1 with ⟨_, h1⟩ | ⟨f, _⟩
    · exact ⟨_, k, rfl, h1, rfl⟩
    · rw [flat_keys] at f; cases f
  | non => exact nomatch t
  | bl b => exact nomatch t
  | int b => exact nomatch t
  | str b => exact nomatch t
  | lst => exact nomatch t
  | dT => exact nomatch t
theorem dget_of {a : Addr} {x : V} {kvs : List (List Key × V)} {ds : List (D × D)} {d : D} (hr : Rd H a (.dT kvs)) (rt : RDt B H kvs ds) (h : RD B H x d) (t : tkey d = true) :
    (DGet H a x none ∧ dget ds d = none) ∨ ∃ v e, DGet H a x (some v) ∧ dget ds d = some e ∧ RD B H v e := by
  obtain ⟨b, k, rfl, hb, rfl⟩ := tkey_of h t
  rcases rt.get k with ⟨e1, e2⟩ | ⟨v, e, e1, e2, r⟩
  · exact .inl ⟨.inr ⟨kvs, k, b, hr, rfl, hb, e1.symm⟩, e2⟩
  · exact .inr ⟨v, e, .inr ⟨kvs, k, b, hr, rfl, hb, e1.symm⟩, e2, r⟩

def rCmp (o : Cm) : R2 := fun x y H Q => ∃ B dx dy b, TopD B H x dx ∧ (o = .isin ∨ o = .nin → RD B H x dx) ∧ TopD B H y dy ∧ cmp2 o dx dy = .ok b ∧ Q (.bl b) H
theorem fitAll_plain {ds : List D} (h : fitAll ds = true) : PyData.plainAll ds = true := (Bool.and_eq_true_iff.mp h).1
theorem fitAll_depth {ds : List D} (h : fitAll ds = true) : PyData.depthAll ds ≤ 60 := of_decide_eq_true (Bool.and_eq_true_iff.mp h).2
theorem ltOk_of {a b : D} (h : ltOk a b = true) : W.alike a b = true ∧ fit a = true ∧ fit b = true ∧ a ≠ .none := by
  unfold ltOk at h
  rw [Bool.and_eq_true, Bool.and_eq_true, Bool.and_eq_true] at h
  exact ⟨h.1.1.1, h.1.1.2, h.1.2, fun z => by rw [z] at h; exact nomatch h.2⟩
theorem op_cmp (hu : X.A.units + 66 < cLine) (o : Cm) : OpR X (compareOp (cmOf o)) (rCmp o) := by
  intro pins s σ H x y v u Q I rx ry h
  obtain ⟨B, dx, dy, b, hx, hx2, hy, e, q⟩ := h
  have fin : EP X pins σ Q (.bool b) s := ⟨.bl b, H, I, rfl, q⟩
  have two : fit dx = true → fit dy = true → ∃ as bs, Reads s.heap v dx as ∧ Reads s.heap u dy bs := fun h1 h2 => by
    obtain ⟨as, r1⟩ := reads_of I hx (fit_plain h1) rx
    obtain ⟨bs, r2⟩ := reads_of I hy (fit_plain h2) ry
    exact ⟨as, bs, r1, r2⟩
  cases o with
  | eq =>
    have e' : (if fit dx = true ∧ fit dy = true then R.ok (PyData.eqv dx dy) else .bad) = R.ok b := e
    split at e'
    · rename_i hf
      cases e'
      obtain ⟨as, bs, r1, r2⟩ := two hf.1 hf.2
      exact SeqAt.eq_plain r1 r2 (fit_plain hf.1) (fit_plain hf.2) (room_fit (by omega) hf.1) fin
    · cases e'
  | ne =>
    have e' : (if fit dx = true ∧ fit dy = true then R.ok (!PyData.eqv dx dy) else .bad) = R.ok b := e
    split at e'
    · rename_i hf
      cases e'
      obtain ⟨as, bs, r1, r2⟩ := two hf.1 hf.2
      exact SeqAt.ne_plain r1 r2 (fit_plain hf.1) (fit_plain hf.2) (room_fit (by omega) hf.1) fin
    · cases e'
  | lt =>
    have e' : (if ltOk dx dy = true then R.ok (W.dataLt dx dy) else .bad) = R.ok b := e
    split at e'
    · rename_i hf
      cases e'
      obtain ⟨h1, h2, h3, h4⟩ := ltOk_of hf
      obtain ⟨as, bs, r1, r2⟩ := two h2 h3
      exact W.lt_data r1 r2 h1 h4 (room_fit (by omega) h2) fin
    · cases e'
  | gt =>
    have e' : (if ltOk dx dy = true then R.ok (W.dataLt dy dx) else .bad) = R.ok b := e
    split at e'
    · rename_i hf
      cases e'
      obtain ⟨h1, h2, h3, h4⟩ := ltOk_of hf
      obtain ⟨as, bs, r1, r2⟩ := two h2 h3
      exact W.gt_data r1 r2 h1 h4 (room_fit (by omega) h2) fin
    · cases e'
  | le =>
    have e' : (if ltOk dx dy = true then R.ok (!W.dataLt dy dx) else .bad) = R.ok b := e
    split at e'
    · rename_i hf
      cases e'
      obtain ⟨h1, h2, h3, h4⟩ := ltOk_of hf
      obtain ⟨as, bs, r1, r2⟩ := two h2 h3
      exact W.le_data r1 r2 h1 h4 (room_fit (by omega) h2) fin
    · cases e'
  | ge =>
    have e' : (if ltOk dx dy = true then R.ok (!W.dataLt dx dy) else .bad) = R.ok b := e
    split at e'
    · rename_i hf
      cases e'
      obtain ⟨h1, h2, h3, h4⟩ := ltOk_of hf
      obtain ⟨as, bs, r1, r2⟩ := two h2 h3
      exact W.ge_data r1 r2 h1 h4 (room_fit (by omega) h2) fin
    · cases e'
  | isin =>
    have room : ∀ {ys : List D}, fit dx = true → X.A.units + 1 + min (PyData.depthAll ys) dx.depth < cLine := fun {ys} h1 => by
      have := fit_depth h1
      have h2 : min (PyData.depthAll ys) dx.depth ≤ dx.depth := Nat.min_le_right _ _
      omega
    cases dy with
    | tuple ys =>
      have e' : (if fit dx = true ∧ fitAll ys = true then R.ok (ys.any fun y => PyData.eqv y dx) else .bad) = R.ok b := e
      split at e'
      · rename_i hf
        cases e'
        obtain ⟨as, r1⟩ := reads_of I hx (fit_plain hf.1) rx
        obtain ⟨bs, r2⟩ := reads_of I hy (show (PyData.tuple ys).plain = true by simpa [PyData.plain] using fitAll_plain hf.2) ry
        exact SeqAt.in_tuple_data r2 r1 (fitAll_plain hf.2) (fit_plain hf.1) (room hf.1) fin
      · cases e'
    | list ys =>
      have e' : (if fit dx = true ∧ fitAll ys = true then R.ok (ys.any fun y => PyData.eqv y dx) else .bad) = R.ok b := e
      split at e'
      · rename_i hf
        cases e'
        obtain ⟨as, r1⟩ := reads_of I hx (fit_plain hf.1) rx
        obtain ⟨bs, r2⟩ := reads_of I hy (show (PyData.list ys).plain = true by simpa [PyData.plain] using fitAll_plain hf.2) ry
        exact SeqAt.in_list_data r2 r1 (fitAll_plain hf.2) (fit_plain hf.1) (room hf.1) fin
      · cases e'
    | dict kvs =>
      have e' : (if tkey dx = true then R.ok (dget kvs dx).isSome else .bad) = R.ok b := e
      split at e'
      · rename_i hf
        cases e'
        obtain ⟨a, ks, rfl, hr, rt⟩ := hy.dT_of
        cases ry
        rcases dget_of hr rt (hx2 (.inl rfl)) hf with ⟨g, e1⟩ | ⟨w, e2, g, e1, r⟩
        · exact d_in (by omega) I g rx fun s' I' => ⟨.bl _, H, I', rfl, by rw [e1] at q; exact q⟩
        · exact d_in (by omega) I g rx fun s' I' => ⟨.bl _, H, I', rfl, by rw [e1] at q; exact q⟩
      · cases e'
    | none => cases e
    | bool _ => cases e
    | int _ => cases e
    | str _ => cases e
  | nin =>
    have room : ∀ {ys : List D}, fit dx = true → X.A.units + 1 + min (PyData.depthAll ys) dx.depth < cLine := fun {ys} h1 => by
      have := fit_depth h1
      have h2 : min (PyData.depthAll ys) dx.depth ≤ dx.depth := Nat.min_le_right _ _
      omega
    cases dy with
    | tuple ys =>
      have e' : (if fit dx = true ∧ fitAll ys = true then R.ok (!ys.any fun y => PyData.eqv y dx) else .bad) = R.ok b := e
      split at e'
      · rename_i hf
        cases e'
        obtain ⟨as, r1⟩ := reads_of I hx (fit_plain hf.1) rx
        obtain ⟨bs, r2⟩ := reads_of I hy (show (PyData.tuple ys).plain = true by simpa [PyData.plain] using fitAll_plain hf.2) ry
        exact SeqAt.notIn_tuple_data r2 r1 (fitAll_plain hf.2) (fit_plain hf.1) (room hf.1) fin
      · cases e'
    | list ys =>
      have e' : (if fit dx = true ∧ fitAll ys = true then R.ok (!ys.any fun y => PyData.eqv y dx) else .bad) = R.ok b := e
      split at e'
      · rename_i hf
        cases e'
        obtain ⟨as, r1⟩ := reads_of I hx (fit_plain hf.1) rx
        obtain ⟨bs, r2⟩ := reads_of I hy (show (PyData.list ys).plain = true by simpa [PyData.plain] using fitAll_plain hf.2) ry
        exact SeqAt.notIn_list_data r2 r1 (fitAll_plain hf.2) (fit_plain hf.1) (room hf.1) fin
      · cases e'
    | dict kvs =>
      have e' : (if tkey dx = true then R.ok (!(dget kvs dx).isSome) else .bad) = R.ok b := e
      split at e'
      · rename_i hf
        cases e'
        obtain ⟨a, ks, rfl, hr, rt⟩ := hy.dT_of
        cases ry
        rcases dget_of hr rt (hx2 (.inr rfl)) hf with ⟨g, e1⟩ | ⟨w, e2, g, e1, r⟩
        · exact d_notIn (by omega) I g rx fun s' I' => ⟨.bl _, H, I', rfl, by rw [e1] at q; exact q⟩
        · exact d_notIn (by omega) I g rx fun s' I' => ⟨.bl _, H, I', rfl, by rw [e1] at q; exact q⟩
      · cases e'
    | none => cases e
    | bool _ => cases e
    | int _ => cases e
    | str _ => cases e

/-! ### subscripts -/
theorem place_eq (n : Nat) (i : Int) : place n i = ixN n i := rfl
theorem place_lt {n k : Nat} {i : Int} (h : place n i = some k) : k < n := by
  unfold place at h
  split at h
  · split at h
    · cases h; omega
    · cases h
  · split at h
    · cases h; omega
    · cases h
theorem getD_get {ds : List D} {k : Nat} (h : k < ds.length) : ds[k]? = some (ds.getD k .none) := by
  rw [List.getD_eq_getElem?_getD, List.getElem?_eq_getElem h]; rfl
theorem atI_of {vs : List V} {ds : List D} {i : Int} {k : Nat} (r : RDs B H vs ds) (h : place ds.length i = some k) : ∃ v, atI vs i = some v ∧ RD B H v (ds.getD k .none) := by
  obtain ⟨v, e1, e2⟩ := r.get (getD_get (place_lt h))
  refine ⟨v, ?_, e2⟩
  unfold atI
  rw [r.length, ← place_eq, h]
  exact e1
def rIx2 : R2 := fun x y H Q => ∃ B dx dy d, TopD B H x dx ∧ RD B H y dy ∧ index2 dx dy = .ok d ∧ Fin B H d Q
theorem ix2 (hu : X.A.units + 66 < cLine) : IxR X rIx2 := by
  intro value slice pins s σ H x y v u Q I rx ry h hs
  obtain ⟨B, dx, dy, d, hx, hy, e, q⟩ := h
  cases dx with
  | tuple xs =>
    cases dy with
    | int i =>
      have e' : (match place xs.length i with | some k => R.ok (xs.getD k .none) | none => .bad) = R.ok d := e
      cases hp : place xs.length i with
      | none => rw [hp] at e'; cases e'
      | some k =>
        rw [hp] at e'
        cases e'
        obtain ⟨a, vs, rfl, ha, ra⟩ := hx.tup_of
        cases hy
        obtain ⟨w, e1, r⟩ := atI_of ra hp
        exact ix_tup value slice pins s σ H _ _ v u Q I rx ry ⟨a, vs, i, w, rfl, rfl, .inl ha.rd, e1, q _ _ (L2.Same.refl H) r⟩ hs
    | _ => cases e
  | list xs =>
    cases dy with
    | int i =>
      have e' : (match place xs.length i with | some k => R.ok (xs.getD k .none) | none => .bad) = R.ok d := e
      cases hp : place xs.length i with
      | none => rw [hp] at e'; cases e'
      | some k =>
        rw [hp] at e'
        cases e'
        obtain ⟨a, vs, rfl, ha, ra⟩ := hx.lst_of
        cases hy
        obtain ⟨w, e1, r⟩ := atI_of ra hp
        exact ix_list value slice pins s σ H _ _ v u Q I rx ry ⟨a, vs, i, w, rfl, rfl, .inl ha, e1, q _ _ (L2.Same.refl H) r⟩ hs
    | _ => cases e
  | dict kvs =>
    have e' : (if tkey dy = true then (match dget kvs dy with | some v => R.ok v | none => .bad) else .bad) = R.ok d := by
      unfold index2 at e
      exact e
    split at e'
    · rename_i hf
      obtain ⟨a, ks, rfl, hr, rt⟩ := hx.dT_of
      cases rx
      rcases dget_of hr rt hy hf with ⟨g, e1⟩ | ⟨w, e2, g, e1, r⟩
      · rw [e1] at e'; cases e'
      · rw [e1] at e'
        cases e'
        have hT := dict_typeIs I g
        unfold subscriptTail
        refine wpAny_bind ?_
        rw [getitemInPython_of_ne hT.not_modules]
        refine wpAny_bind (wpAny_specialOf hT F.slot_dict_getitem.lookup ?_)
        have fin : wpAny (model X.prog X.w) X.A (subscripted slice false (.ref a) u) (fun r s₃ => wpAny (model X.prog X.w) X.A (letTemporaryGo value (.ref a) r >>= fun _ => pure r) (EP X pins σ Q) X.xe s₃) X.xe s := by
          rw [hs]
          exact wpAny_operating (wpAny_mono (d_getItem (by omega) I g ry fun w' s3 I3 rw' => ⟨w, H, I3, rw', q _ _ (L2.Same.refl H) r⟩) (fun r s₃ h₃ => wpAny_bind (wpAny_letTemporaryGo (wpAny_pure h₃))) fun _ _ x => x)
        first
          | exact wpAny_pure (wpAny_bind fin)
          | exact wpAny_bind (wpAny_pure (wpAny_bind fin))
          | exact wpAny_bind fin
    · cases e'
  | _ => cases e

/-! ### slices -/
theorem bound_eq (n d : Nat) (v : Int) : HT.sIx n d (some v) = bound n v := rfl
theorem cut_of {vs : List V} {ds : List D} (r : RDs B H vs ds) (lo hi : Option Int) : RDs B H (cutV vs lo hi) (cut ds (HT.sIx ds.length 0 lo) (HT.sIx ds.length ds.length hi)) := by
  unfold cutV cut
  rw [r.length]
  exact (r.drop _).take _
theorem cut_whole (ds : List D) : cut ds 0 ds.length = ds := by
  unfold cut
  simp
def rSl2 : V → Option Int → Option Int → Hp → VK → Prop := fun x lo hi H Q => ∃ B dx d, NoN B H ∧ TopD B H x dx ∧ slice3 dx (fun n => HT.sIx n 0 lo) (fun n => HT.sIx n n hi) = .ok d ∧ FinL B H d Q
theorem sl2 : SlR X rSl2 := by
  intro pins s σ H x v vl vu lo hi sl Q I rx hs pl pu h
  obtain ⟨B, dx, d, hB, hx, e, q⟩ := h
  cases dx with
  | tuple xs =>
    cases e
    obtain ⟨a, vs, rfl, ha, ra⟩ := hx.tup_of
    cases rx
    obtain ⟨its, r, ht, hz⟩ := I.tuple (show SqT X.K H a vs from .inl ha.rd)
    have hlen : its.toArray.size = xs.length := by rw [List.size_toArray, ← ra.length]; exact r.length.symm
    have hl := ra.length
    refine ⟨"tuple", _, PyProof.Rows.slot_tuple_getitem.lookup, ht.typeIs, ?_⟩
    by_cases hw : HT.sIx xs.length 0 lo = 0 ∧ HT.sIx xs.length xs.length hi = xs.length
    · have q' : FinL B H (.tuple (cut xs (HT.sIx xs.length 0 lo) (HT.sIx xs.length xs.length hi))) Q := q
      rw [hw.1, hw.2, cut_whole] at q'
      exact getItem_tuple_whole ht hs pl pu (by rw [hlen]; exact hw) ⟨.ref a, H, I, rfl, q' _ _ (L2.Same.refl H) (.tup ha ra) (fun z => nomatch z)⟩
    · refine HT.getItem_tuple_cut ht hs pl pu (by rw [hlen]; exact hw) ?_ (by rw [hlen, ← hl]; exact hz)
      have hr : Vals (cutV vs lo hi) ((its.drop (HT.sIx its.toArray.size 0 lo)).take (HT.sIx its.toArray.size its.toArray.size hi - HT.sIx its.toArray.size 0 lo)) := by
        unfold cutV
        rw [hlen, ← hl]
        exact (r.drop _).take _
      refine mk_push I hr (cut_of ra lo hi) ?_ q
      unfold cutV
      rw [List.length_take, List.length_drop]
      omega
  | list xs =>
    cases e
    obtain ⟨a, vs, rfl, ha, ra⟩ := hx.lst_of
    exact sl_list pins s σ H _ v vl vu lo hi sl Q I rx hs pl pu ⟨a, vs, rfl, .inl ha, fun p hp => new_lst hB (cut_of ra lo hi) q p hp⟩
  | _ => cases e

/-! ### built-ins of one argument -/
def fnName : F1 → Str
  | .len => "len" | .tuple => "tuple" | .list => "list" | .sorted => "sorted" | .max => "max" | .min => "min" | .sum => "sum" | .int => "int"
def fnVal : F1 → Value
  | .len => .builtin "len" | .tuple => .type "tuple" | .list => .type "list" | .sorted => .builtin "sorted" | .max => .builtin "max" | .min => .builtin "min" | .sum => .builtin "sum" | .int => .type "int"
def rCall1 (f : F1) : List V → Hp → VK → Prop := fun xs H Q => ∃ B x dx d, xs = [x] ∧ NoN B H ∧ TopD B H x dx ∧ call1 f dx = .ok d ∧ (if f = .max ∨ f = .min then Fin B H d Q else FinL B H d Q)

theorem RDs.mem {vs : List V} {ds : List D} : RDs B H vs ds → ∀ (i : Nat) v, vs[i]? = some v → ∃ d, ds[i]? = some d ∧ RD B H v d := fun r i v h => r.at h
theorem sum_tup {l : Addr} {vs : List Value} {ns : List Int} {Q : Value → Shared → Prop} {A : Around} {E : Value → Shared → Prop} {P : Program} {w : World} {s : Shared} (hh : A.handled = none) (hl : s.heap.IsTuple l vs.toArray) (hi : IntsAre vs ns)
    (h : ∀ h' tk t', (∀ b o, s.heap.get? b = some o → h'.get? b = some o) → Q (.int ns.sum t') { s with heap := h', toks := tk }) : wpAny (model P w) A (call (.builtin "sum") [.ref l]) Q E s := by
  obtain ⟨xs, hx⟩ := hi.allInts.items
  have hn : numsOf vs.toArray.toList = ns := by rw [show vs.toArray.toList = vs from rfl, hi.numsOf]
  rw [hx] at hl hn
  rw [nums_intItems] at hn
  refine W.ktm_sumG hh hl fun h' tk t' hk => ?_
  have := h h' tk t' hk
  rw [preSum_eq, List.take_of_length_le (by simp), hn]
  exact this

/-- an item that reads as the datum m is an item that stands for m -/
theorem item_of {vs : List V} {ds : List D} {us : List Value} {i : Nat} {u : Value} {m : D} {h : Heap} {as : List Addr} (I : Inv X pins σ H s) (r : RDs B H vs ds) (rv : Vals vs us) (p : PyData.plainAll ds = true) (hu : us[i]? = some u)
    (hr : Reads h u m as) (k : ∀ b o, s.heap.get? b = some o → h.get? b = some o) (pm : m.plain = true) : ∃ v, RelV v u ∧ RD B H v m := by
  have hlt : i < vs.length := by rw [rv.length]; exact (List.getElem?_eq_some_iff.mp hu).1
  obtain ⟨d, e1, r1⟩ := r.at (List.getElem?_eq_getElem hlt)
  obtain ⟨u', e2, ru⟩ := rv.get (List.getElem?_eq_getElem hlt)
  rw [hu] at e2
  cases e2
  have pd : d.plain = true := by
    have : ∀ (ds : List D) (i : Nat) (d : D), PyData.plainAll ds = true → ds[i]? = some d → d.plain = true := by
      intro ds
      induction ds with
      | nil => intro i d _ e; simp at e
      | cons a ds ih =>
        intro i d p e
        have p' : a.plain = true ∧ PyData.plainAll ds = true := by simpa [PyData.plainAll] using p
        cases i with
        | zero => simp at e; subst e; exact p'.1
        | succ i => exact ih i d p'.2 (by simpa using e)
    exact this ds i d p e1
  obtain ⟨bs, q⟩ := reads_of I (.rd r1) pd ru
  have e3 : d = m := SeqAt.plain_unique d m u _ _ pd (PyProof.Rows.Reads.keeps k q) hr
  subst e3
  exact ⟨_, ru, r1⟩
end
end PV
end
section
set_option Elab.async false
set_option linter.all false
set_option maxRecDepth 100000
set_option maxHeartbeats 4000000
/-! PV5: built-ins of one argument, by values. -/
namespace PV
open PySem PySem.Spec PyProof.Rows L2

section
variable {X : Cx} {pins : List (Addr × Obj)} {σ : L2.St} {H : Hp} {s : Shared} {B : Addr → Prop}

/-- an item's value stands for a datum -/
def Stand (B : Addr → Prop) (H : Hp) (u : Value) (d : D) : Prop := ∃ x, RelV x u ∧ RD B H x d
theorem stands {xs : List V} {ds : List D} : RDs B H xs ds → ∀ {us : List Value}, Vals xs us → W.EachIs (Stand B H) us ds
  | .nil, _, .nil => .nil
  | .cons r t, _, .cons v w => .cons ⟨_, v, r⟩ (stands t w)
theorem stands_back : ∀ {us : List Value} {ds : List D}, W.EachIs (Stand B H) us ds → ∃ xs, Vals xs us ∧ RDs B H xs ds
  | _, _, .nil => ⟨[], .nil, .nil⟩
  | _, _, .cons ⟨x, r, d⟩ t => by
    obtain ⟨xs, a, b⟩ := stands_back t
    exact ⟨x :: xs, .cons r a, .cons d b⟩
theorem each_reads (I : Inv X pins σ H s) : ∀ {us : List Value} {ds : List D}, W.EachIs (Stand B H) us ds → PyData.plainAll ds = true → W.EachIs (fun v b => ∃ as, Reads s.heap v b as) us ds
  | _, _, .nil, _ => .nil
  | _, d :: ds, .cons ⟨x, r, rd⟩ t, p => by
    have p' : d.plain = true ∧ PyData.plainAll ds = true := by simpa [PyData.plainAll] using p
    exact .cons (reads_of I (.rd rd) p'.1 r) (each_reads I t p'.2)
theorem allAlike {ds : List D} (h : alikeL ds = true) : W.AllAlike ds := fun x hx y hy => by
  unfold alikeL at h
  exact List.all_eq_true.mp (List.all_eq_true.mp h x hx) y hy
theorem depth_mem : ∀ {ds : List D} {d : D}, d ∈ ds → d.depth ≤ PyData.depthAll ds
  | [], _, h => nomatch h
  | e :: ds, d, h => by
    rcases List.mem_cons.mp h with rfl | h
    · exact Nat.le_max_left _ _
    · exact Nat.le_trans (depth_mem h) (Nat.le_max_right _ _)
theorem sortable_of {ds : List D} (h : (tupsOf ds || flatsOf ds) = true) : W.Sortable ds := by
  rw [Bool.or_eq_true] at h
  rcases h with h | h
  · refine .inl fun d hd => ?_
    have := List.all_eq_true.mp h d hd
    cases d with
    | tuple xs =>
      cases xs with
      | nil => exact nomatch this
      | cons x r => exact ⟨x, r, rfl⟩
    | _ => exact nomatch this
  · refine .inr fun d hd => ?_
    have := List.all_eq_true.mp h d hd
    constructor
    · intro e; rw [e] at this; exact nomatch this
    · intro xs e; rw [e] at this; exact nomatch this
theorem sortOk_of {ds : List D} (h : sortOk ds = true) : alikeL ds = true ∧ fitAll ds = true ∧ W.Sortable ds ∧ ds.length ≤ LIM := by
  unfold sortOk at h
  simp only [Bool.and_eq_true] at h
  exact ⟨h.1.1.1, h.1.1.2, sortable_of h.1.2, of_decide_eq_true h.2⟩

theorem sorted_ok {l : Addr} {vs : List V} {ds : List D} {Q : VK} (hu : X.A.units + 66 < cLine) (I : Inv X pins σ H s) (hB : NoN B H) (hr : Rd H l (.lst vs)) (r : RDs B H vs ds) (ok : sortOk ds = true) (q : FinL B H (.list (ds.mergeSort (W.dataLe false id))) Q) :
    wpAny (model X.prog X.w) X.A (call (.builtin "sorted") [.ref l]) (EP X pins σ Q) X.xe s := by
  obtain ⟨h1, h2, h3, h4⟩ := sortOk_of ok
  obtain ⟨its, n, rv, e, hz⟩ := listR I hr
  have st := stands r rv
  have hid : ds.map id = ds := List.map_id ds
  refine W.sorted_data (R := Stand B H) (enc := id) (vs := its) (bs := ds) ⟨_, e, rfl, n, rfl⟩ st (each_reads I st (fitAll_plain h2)) (by rw [hid]; exact allAlike h1) (by rw [hid]; exact h3) (by rw [← LIM_eq]; exact h4)
    (fun b hb => by have a1 := fitAll_depth h2; have a2 := depth_mem hb; show X.A.units + 2 + b.depth < cLine; omega) fun out hl eo => ?_
  obtain ⟨xs, v1, r1⟩ := stands_back eo
  obtain ⟨ep, he'⟩ := PyProof.Rows.sortedAll_at s.heap its out.toArray
  have hlen : xs.length ≤ sizeLine := by rw [v1.length, hl, ← LIM_eq]; exact h4
  exact ⟨.ref _, upd H (s.heap.objs.size + 1) (.lst xs), I.laid (t' := s.toks) (fun _ _ => PyProof.Rows.sortedAll_old) (Nat.le_succ _) ⟨hlen, out, ep, v1, he'⟩, rfl, new_lst hB r1 q _ (I.hok.fresh (Nat.le_succ _))⟩

theorem alikeAll_of {ds : List D} (h : (alikeL ds && noneFree ds && fitAll ds) = true) : W.AlikeAll ds ∧ PyData.plainAll ds = true ∧ PyData.depthAll ds ≤ 60 := by
  rw [Bool.and_eq_true, Bool.and_eq_true] at h
  refine ⟨⟨allAlike h.1.1, fun x hx e => ?_⟩, fitAll_plain h.2, fitAll_depth h.2⟩
  have := List.all_eq_true.mp h.1.2 x hx
  rw [e] at this
  exact nomatch this
theorem plain_fold (f : D → D → Bool) : ∀ (xs : List D) (x : D), x.plain = true → PyData.plainAll xs = true → (xs.foldl (fun a y => if f y a then y else a) x).plain = true
  | [], _, h, _ => h
  | y :: ys, x, h, p => by
    have p' : y.plain = true ∧ PyData.plainAll ys = true := by simpa [PyData.plainAll] using p
    rw [List.foldl_cons]
    refine plain_fold f ys _ ?_ p'.2
    split
    · exact p'.1
    · exact h
theorem minmax_end {vs : List V} {us : List Value} {d : D} {ds : List D} {m : D} {Q : VK} (I : Inv X pins σ H s) (r : RDs B H vs (d :: ds)) (rv : Vals vs us) (p : PyData.plainAll (d :: ds) = true) (pm : m.plain = true) (q : Fin B H m Q) :
    ∀ (i : Nat) v h' tk bs, us.toArray[i]? = some v → Reads h' v m bs → (∀ b o, s.heap.get? b = some o → h'.get? b = some o) → EP X pins σ Q v { s with heap := h', toks := tk } := fun i v h' tk bs e hr k => by
  obtain ⟨x, rx, rd⟩ := item_of I r rv p (by simpa using e) hr k pm
  exact ⟨x, H, I.kept k, rx, q _ _ (L2.Same.refl H) rd⟩

theorem op_call1 (hu : X.A.units + 66 < cLine) (hc : X.calm = true) (f : F1) : CallR X (fnVal f) (rCall1 f) := by
  intro pins s σ H xs us Q I rx h
  obtain ⟨B, x, dx, d, rfl, hB, hx, e, q⟩ := h
  obtain ⟨u, rfl, ru⟩ := vals1 rx
  have hh := I.ok.hd hc
  cases f with
  | len =>
    rw [if_neg (by decide)] at q
    cases dx with
    | tuple ds =>
      cases e
      obtain ⟨a, vs, rfl, ha, ra⟩ := hx.tup_of
      exact call_len_seq pins s σ H _ _ Q I rx ⟨a, vs, rfl, .inr (.inl ha.rd), by rw [ra.length]; exact q _ _ (L2.Same.refl H) (.int _) (fun z => nomatch z)⟩
    | list ds =>
      cases e
      obtain ⟨a, vs, rfl, ha, ra⟩ := hx.lst_of
      exact call_len_seq pins s σ H _ _ Q I rx ⟨a, vs, rfl, .inl (.inl ha), by rw [ra.length]; exact q _ _ (L2.Same.refl H) (.int _) (fun z => nomatch z)⟩
    | _ => cases e
  | tuple =>
    rw [if_neg (by decide)] at q
    cases dx with
    | tuple ds =>
      cases e
      obtain ⟨a, vs, rfl, ha, ra⟩ := hx.tup_of
      exact call_tuple_of pins s σ H _ _ Q I rx ⟨a, vs, rfl, .inr ⟨.inl ha.rd, q _ _ (L2.Same.refl H) (.tup ha ra) (fun z => nomatch z)⟩⟩
    | list ds =>
      cases e
      obtain ⟨a, vs, rfl, ha, ra⟩ := hx.lst_of
      cases ru
      obtain ⟨its, n, rv, p1, hz⟩ := listR I ha
      have hlen := rv.length
      refine call_tuple_list ⟨_, p1, rfl, n, rfl⟩ (fun h' kp => ?_) (by rw [List.size_toArray]; omega)
      exact mk_push (I.kept (t' := s.toks) kp) rv ra hz q
    | _ => cases e
  | list =>
    rw [if_neg (by decide)] at q
    cases dx with
    | tuple ds =>
      cases e
      obtain ⟨a, vs, rfl, ha, ra⟩ := hx.tup_of
      exact call_list_of pins s σ H _ _ Q I rx ⟨a, vs, rfl, .inr (.inl ha.rd), fun p hp => new_lst hB ra q p hp⟩
    | list ds =>
      cases e
      obtain ⟨a, vs, rfl, ha, ra⟩ := hx.lst_of
      exact call_list_of pins s σ H _ _ Q I rx ⟨a, vs, rfl, .inl (.inl ha), fun p hp => new_lst hB ra q p hp⟩
    | dict kvs =>
      cases e
      obtain ⟨a, ks, rfl, ha, ra⟩ := hx.dT_of
      refine call_list_dT hc pins s σ H _ _ Q I rx ⟨a, ks, rfl, ha, fun p bs hp hk => ?_⟩
      refine new_lst hB ?_ q p hp
      have : ∀ {ks : List (List Key × V)} {bs : List Addr} {ds : List (D × D)}, IsKeys H ks bs → RDt B H ks ds → RDs B H (bs.map V.ref) (ds.map (·.1)) := by
        intro ks bs ds hk
        induction hk generalizing ds with
        | nil => intro r; cases r; exact .nil
        | cons h t ih =>
          intro r
          cases r with
          | cons r1 r2 => exact .cons (.tup (.inl ⟨flat_keys _, h⟩) (RDs.keysV _)) (ih r2)
      exact this hk ra
    | _ => cases e
  | sorted =>
    rw [if_neg (by decide)] at q
    cases dx with
    | list ds =>
      have e' : (if sortOk ds = true then R.ok (PyData.list (ds.mergeSort (W.dataLe false id))) else .bad) = R.ok d := e
      split at e'
      · rename_i hs
        cases e'
        obtain ⟨a, vs, rfl, ha, ra⟩ := hx.lst_of
        cases ru
        exact sorted_ok hu I hB ha ra hs q
      · cases e'
    | _ => cases e
  | max =>
    rw [if_pos (.inl rfl)] at q
    cases dx with
    | tuple ds =>
      cases ds with
      | nil => cases e
      | cons y ys =>
        have e' : (if (alikeL (y :: ys) && noneFree (y :: ys) && fitAll (y :: ys)) = true then R.ok (maxD y ys) else .bad) = R.ok d := e
        split at e'
        · rename_i hs
          cases e'
          obtain ⟨h1, h2, h3⟩ := alikeAll_of hs
          obtain ⟨a, vs, rfl, ha, ra⟩ := hx.tup_of
          cases ru
          obtain ⟨its, rv, p1, _⟩ := I.tuple (show SqT X.K H a vs from .inl ha.rd)
          obtain ⟨as, hr⟩ := readsAll_of I ra h2 rv
          have h2' : y.plain = true ∧ PyData.plainAll ys = true := by simpa [PyData.plainAll] using h2
          exact W.max_tuple_data (vs := its.toArray) hh p1 (by simpa using hr) h1 (by omega) (minmax_end I ra rv h2 (plain_fold (fun y a => W.dataLt a y) ys y h2'.1 h2'.2) q)
        · cases e'
    | list ds =>
      cases ds with
      | nil => cases e
      | cons y ys =>
        have e' : (if (alikeL (y :: ys) && noneFree (y :: ys) && fitAll (y :: ys)) = true then R.ok (maxD y ys) else .bad) = R.ok d := e
        split at e'
        · rename_i hs
          cases e'
          obtain ⟨h1, h2, h3⟩ := alikeAll_of hs
          obtain ⟨a, vs, rfl, ha, ra⟩ := hx.lst_of
          cases ru
          obtain ⟨its, n, rv, p1, _⟩ := listR I ha
          obtain ⟨as, hr⟩ := readsAll_of I ra h2 rv
          have h2' : y.plain = true ∧ PyData.plainAll ys = true := by simpa [PyData.plainAll] using h2
          exact W.max_list_data (vs := its.toArray) hh ⟨_, p1, rfl, n, rfl⟩ (by simpa using hr) h1 (by omega) (minmax_end I ra rv h2 (plain_fold (fun y a => W.dataLt a y) ys y h2'.1 h2'.2) q)
        · cases e'
    | _ => cases e
  | min =>
    rw [if_pos (.inr rfl)] at q
    cases dx with
    | tuple ds =>
      cases ds with
      | nil => cases e
      | cons y ys =>
        have e' : (if (alikeL (y :: ys) && noneFree (y :: ys) && fitAll (y :: ys)) = true then R.ok (minD y ys) else .bad) = R.ok d := e
        split at e'
        · rename_i hs
          cases e'
          obtain ⟨h1, h2, h3⟩ := alikeAll_of hs
          obtain ⟨a, vs, rfl, ha, ra⟩ := hx.tup_of
          cases ru
          obtain ⟨its, rv, p1, _⟩ := I.tuple (show SqT X.K H a vs from .inl ha.rd)
          obtain ⟨as, hr⟩ := readsAll_of I ra h2 rv
          have h2' : y.plain = true ∧ PyData.plainAll ys = true := by simpa [PyData.plainAll] using h2
          exact W.min_tuple_data (vs := its.toArray) hh p1 (by simpa using hr) h1 (by omega) (minmax_end I ra rv h2 (plain_fold (fun y a => W.dataLt y a) ys y h2'.1 h2'.2) q)
        · cases e'
    | list ds =>
      cases ds with
      | nil => cases e
      | cons y ys =>
        have e' : (if (alikeL (y :: ys) && noneFree (y :: ys) && fitAll (y :: ys)) = true then R.ok (minD y ys) else .bad) = R.ok d := e
        split at e'
        · rename_i hs
          cases e'
          obtain ⟨h1, h2, h3⟩ := alikeAll_of hs
          obtain ⟨a, vs, rfl, ha, ra⟩ := hx.lst_of
          cases ru
          obtain ⟨its, n, rv, p1, _⟩ := listR I ha
          obtain ⟨as, hr⟩ := readsAll_of I ra h2 rv
          have h2' : y.plain = true ∧ PyData.plainAll ys = true := by simpa [PyData.plainAll] using h2
          exact W.min_list_data (vs := its.toArray) hh ⟨_, p1, rfl, n, rfl⟩ (by simpa using hr) h1 (by omega) (minmax_end I ra rv h2 (plain_fold (fun y a => W.dataLt y a) ys y h2'.1 h2'.2) q)
        · cases e'
    | _ => cases e
  | sum =>
    rw [if_neg (by decide)] at q
    cases dx with
    | tuple ds =>
      have e' : (match ints? ds with | some ns => R.ok (PyData.int ns.sum) | none => .bad) = R.ok d := e
      cases hi : ints? ds with
      | none => rw [hi] at e'; cases e'
      | some ns =>
        rw [hi] at e'
        cases e'
        obtain ⟨a, vs, rfl, ha, ra⟩ := hx.tup_of
        cases ru
        obtain ⟨its, rv, p1, _⟩ := I.tuple (show SqT X.K H a vs from .inl ha.rd)
        rw [RDs.ints ra hi] at rv
        exact sum_tup hh p1 (intsAre_of rv) fun h' tk t' hk => ⟨.int _, H, I.kept hk, ⟨_, rfl⟩, q _ _ (L2.Same.refl H) (.int _) (fun z => nomatch z)⟩
    | list ds =>
      have e' : (match ints? ds with | some ns => R.ok (PyData.int ns.sum) | none => .bad) = R.ok d := e
      cases hi : ints? ds with
      | none => rw [hi] at e'; cases e'
      | some ns =>
        rw [hi] at e'
        cases e'
        obtain ⟨a, vs, rfl, ha, ra⟩ := hx.lst_of
        exact cr_sum hc pins s σ H _ _ Q I rx ⟨a, ns, rfl, by rw [← RDs.ints ra hi]; exact .inl ha, q _ _ (L2.Same.refl H) (.int _) (fun z => nomatch z)⟩
    | _ => cases e
  | int =>
    rw [if_neg (by decide)] at q
    cases dx with
    | int i =>
      cases e
      obtain rfl := hx.int_of
      exact call_int1 pins s σ H _ _ Q I rx (.inl ⟨i, rfl, q _ _ (L2.Same.refl H) (.int _) (fun z => nomatch z)⟩)
    | bool b =>
      cases e
      obtain rfl := hx.bl_of
      exact call_int1 pins s σ H _ _ Q I rx (.inr ⟨b, rfl, q _ _ (L2.Same.refl H) (.int _) (fun z => nomatch z)⟩)
    | _ => cases e
end
end PV
end
section
set_option Elab.async false
set_option linter.all false
set_option maxRecDepth 100000
set_option maxHeartbeats 4000000
/-! PV6: the static look at a text, and what is to be shown of an expression. -/
namespace PV
open PySem PySem.Spec PyProof.Rows L2

/-! ### best readings -/
def bestE (X : Cx) (e : Expr) : TE := fun σ H Q => ∀ pins s, L2.Inv X pins σ H s → wpAny (model X.prog X.w) X.A (eval e X.env) (EP X pins σ Q) X.xe s
theorem pe_best {X : Cx} {e : Expr} : PE X e (bestE X e) := ⟨fun pins s σ H Q I h => h pins s I⟩
theorem PE.best {X : Cx} {e : Expr} {t : TE} (h : PE X e t) {σ : L2.St} {H : Hp} {Q : VK} (q : t σ H Q) : bestE X e σ H Q := fun pins s I => h.run pins s σ H Q I q
theorem bestE.mono {X : Cx} {e : Expr} {σ : L2.St} {H : Hp} {Q Q' : VK} (h : bestE X e σ H Q) (m : ∀ v H', Q v H' → Q' v H') : bestE X e σ H Q' := fun pins s I => thn (h pins s I) fun u s' ⟨v, H', J, r, q⟩ => ⟨v, H', J, r, m v H' q⟩
def bestT (X : Cx) (e : Expr) : TT := fun σ H Q => ∀ pins s, L2.Inv X pins σ H s → wpAny (model X.prog X.w) X.A (isTrue e X.env (eval e X.env)) (TP X pins σ Q) X.xe s
theorem pt_best {X : Cx} {e : Expr} : PT X e (bestT X e) := ⟨fun pins s σ H Q I h => h pins s I⟩
theorem PT.best {X : Cx} {e : Expr} {t : TT} (h : PT X e t) {σ : L2.St} {H : Hp} {Q : Bool → Hp → Prop} (q : t σ H Q) : bestT X e σ H Q := fun pins s I => h.run pins s σ H Q I q
theorem bestT.mono {X : Cx} {e : Expr} {σ : L2.St} {H : Hp} {Q Q' : Bool → Hp → Prop} (h : bestT X e σ H Q) (m : ∀ v H', Q v H' → Q' v H') : bestT X e σ H Q' := fun pins s I => thn (h pins s I) fun b s' ⟨H', J, q⟩ => ⟨H', J, m b H' q⟩
def bestA (X : Cx) (es : List Expr) : TA := fun σ H Q => ∀ pos pins s, L2.Inv X pins σ H s → wpAny (model X.prog X.w) X.A (spliced (backTo pos (starEach es X.env))) (AP X pins σ Q) X.xe s
theorem pa_best {X : Cx} {es : List Expr} : PA X es (bestA X es) := ⟨fun pos pins s σ H Q I h => h pos pins s I⟩
theorem PA.best {X : Cx} {es : List Expr} {t : TA} (h : PA X es t) {σ : L2.St} {H : Hp} {Q : List V → Hp → Prop} (q : t σ H Q) : bestA X es σ H Q := fun pos pins s I => h.run pos pins s σ H Q I q

/-! ### exceptions as data -/
def RX (mg : Str → Option Value) (B : Addr → Prop) (H : Hp) (c : Value) (dd : Option Addr) (x : D) : Prop :=
  ∃ (nm : Str) (C d : Addr) (fs : List (Str × V)) (kvs : List (D × D)), x = .dict ((.none, .str nm) :: kvs) ∧ c = .ref C ∧ mg nm = some (.ref C) ∧ dd = some d ∧ H d = some (.xd fs) ∧
    ∀ f e, (PyData.str f, e) ∈ kvs → ∃ v, fs.lookup f = some v ∧ RD B H v e
theorem RX.mv {mg : Str → Option Value} {B B' : Addr → Prop} {H : Hp} {c : Value} {dd : Option Addr} {x : D} (m : Mv B B' H H) (h : RX mg B H c dd x) : RX mg B' H c dd x := by
  obtain ⟨nm, C, d, fs, kvs, e1, e2, e3, e4, e5, e6⟩ := h
  exact ⟨nm, C, d, fs, kvs, e1, e2, e3, e4, e5, fun f e hm => let ⟨v, a, b⟩ := e6 f e hm; ⟨v, a, b.mv m⟩⟩

/-! ### what is asked of a result -/
section
variable {α β : Type}
/-- ok: what a value is to do; an exception is what W wishes -/
def Ct (mg : Str → Option Value) (W : WX) (σ : L2.St) (H : Hp) (B : Addr → Prop) (r : R α) (ok : α → Prop) : Prop :=
  match r with
  | .ok a => ok a
  | .ex x => ∀ c dd H', Same H H' → RX mg B H' c dd x → W c dd σ H'
  | .bad => False
variable {mg : Str → Option Value} {W : WX} {σ : L2.St} {H : Hp} {B : Addr → Prop}
theorem Ct.bind {r : R α} {f : α → R β} {ok : β → Prop} (h : Ct mg W σ H B (r.bind f) ok) : Ct mg W σ H B r (fun a => Ct mg W σ H B (f a) ok) := by
  cases r with
  | ok a => exact h
  | ex x => exact h
  | bad => exact h
theorem Ct.same {H1 : Hp} {r : R α} {ok : α → Prop} (e : Same H H1) (h : Ct mg W σ H B r ok) : Ct mg W σ H1 B r ok := by
  cases r with
  | ok a => exact h
  | ex x => exact fun c dd H' e' q => h c dd H' (e.trans e') q
  | bad => exact h
theorem Ct.imp {r : R α} {ok ok' : α → Prop} (h : Ct mg W σ H B r ok) (m : ∀ a, r = .ok a → ok a → ok' a) : Ct mg W σ H B r ok' := by
  cases r with
  | ok a => exact m a rfl h
  | ex x => exact h
  | bad => exact h
end

/-! ### slots -/
structure RelE (B : Addr → Prop) (own : List Nat) (ρ : Env) (σ : L2.St) (H : Hp) : Prop where
  im : ∀ i d, own.contains i = false → ρ[i]? = some (some d) → ∃ v, σ[i]? = some (some v) ∧ RD B H v d
  pk : ∀ i d, own.contains i = true → ρ[i]? = some (some d) → ∃ v, σ[i]? = some (some v) ∧ TopD B H v d
  non : NoN B H
  len : ρ.length = σ.length
theorem NoN.same {B : Addr → Prop} {H H' : Hp} (n : NoN B H) (e : Same H H') : NoN B H' := fun b hb => by
  cases h : H b with
  | none => exact absurd h (n b hb)
  | some o => rw [e b o h]; exact fun z => nomatch z
theorem RelE.same {B : Addr → Prop} {own : List Nat} {ρ : Env} {σ : L2.St} {H H' : Hp} (r : RelE B own ρ σ H) (e : Same H H') : RelE B own ρ σ H' :=
  ⟨fun i d h1 h2 => let ⟨v, a, b⟩ := r.im i d h1 h2; ⟨v, a, b.mv (.same e)⟩, fun i d h1 h2 => let ⟨v, a, b⟩ := r.pk i d h1 h2; ⟨v, a, b.mvs e⟩, r.non.same e, r.len⟩

theorem TopD.mvS {B B' : Addr → Prop} {H H' : Hp} (e : Same H H') (m : Mv B B' H H') {v : V} {d : D} (h : TopD B H v d) : TopD B' H' v d := by
  cases h with
  | rd h => exact .rd (h.mv m)
  | lst h1 h2 => exact .lst (Same.rd e h1) (RDs.mv m h2)
  | dT h1 h2 => exact .dT (Same.rd e h1) (RDt.mv m h2)
/-- within a block: one slot set, more addresses forbidden -/
theorem RelE.blk {B B' : Addr → Prop} {own : List Nat} {ρ : Env} {σ : L2.St} {H H' : Hp} (r : RelE B own ρ σ H) (e : Same H H') (m : Mv B B' H H') (n : NoN B' H') {i : Nat} {v : V} {d : D} (hi : own.contains i = false) (hd : RD B' H' v d) :
    RelE B' own (ρ.set i (some d)) (σ.set i (some v)) H' := by
  have hl := r.len
  refine ⟨fun j x h1 h2 => ?_, fun j x h1 h2 => ?_, n, by simp [hl]⟩
  · by_cases hj : i = j
    · subst hj
      rw [List.getElem?_set] at h2 ⊢
      rw [if_pos rfl] at h2 ⊢
      split at h2
      · cases h2
        rw [if_pos (by omega)]
        exact ⟨v, rfl, hd⟩
      · cases h2
    · rw [List.getElem?_set_ne hj] at h2 ⊢
      obtain ⟨w, a, b⟩ := r.im j x h1 h2
      exact ⟨w, a, b.mv m⟩
  · have hj : i ≠ j := fun z => by rw [z, h1] at hi; cases hi
    rw [List.getElem?_set_ne hj] at h2 ⊢
    obtain ⟨w, a, b⟩ := r.pk j x h1 h2
    exact ⟨w, a, b.mvS e m⟩

/-! ### the static look -/
/-- a def's text: its name, parameters, slots, the slots that own their list, its body, its statement, how it is called -/
structure FnD where
  name : Str
  ps : List Str
  N : List Str
  own : List Nat
  fd : Fd
  st : Stmt
  shapes : List (Nat × List Str × List D)
  dfl : List He.Dv := []
  kwd : List (Str × He.Dv) := []
structure SC where
  N : List Str
  own : List Nat
  sc : Scope
  T : Nat → Option FnD
  G : Gls
  KF : List Str
  XT : Nat → Option Xc := fun _ => none
  hot : Bool := false
  hi : Nat := 0
def okName (x : Str) : Bool := !(x == ("__debug__" : Str)) && !(x == ("__classdict__" : Str)) && !(x == ("__name__" : Str))
def visB (sc : Scope) (x : Str) : Bool := (match sc.names.lookup x with
  | some .local => true
  | some .cell => true
  | some .free => true
  | _ => false) && okName x
def locB (sc : Scope) (x : Str) : Bool := (match sc.names.lookup x with
  | some .local => true
  | some .cell => true
  | _ => false) && okName x
/-- a comprehension's own name -/
def tgB (scope sc : Scope) (x : Str) : Bool := (match (relS scope sc).names.lookup x with
  | some .local => true
  | _ => false) || (match scope.names.lookup x with
  | some .cell => true
  | _ => false)
def glB (sc : Scope) (x : Str) : Bool := (match sc.names.lookup x with
  | some .globalImplicit => true
  | _ => false) && okName x
def nameB (c : SC) (i : Nat) (x : Str) : Bool := decide (c.N[i]? = some x) && visB c.sc x
def notStar : Expr → Bool
  | .Starred _ _ => false
  | _ => true
def noSlice : Expr → Bool
  | .Slice _ _ _ _ => false
  | .Starred _ _ => false
  | .Tuple _ _ _ => false
  | _ => true
def tyName : Ty → Str
  | .int => "int" | .bool => "bool" | .str => "str" | .tuple => "tuple" | .list => "list" | .dict => "dict"
def eqDs : List D → List D → Bool
  | [], [] => true
  | a :: r, b :: s => flatKey a && flatKey b && PyData.eqv a b && eqDs r s
  | _, _ => false
def notCall : Expr → Bool
  | .Call _ _ _ _ => false
  | _ => true
def kwNames (ks : List Keyword) : Option (List Str) := ks.mapM fun k => k.arg

mutual
def ckE (c : SC) (m : Nat) : E → Expr → Bool
  | .v i, e₀ => match e₀ with
    | .Name x _ => nameB c i x && !c.own.contains i
    | _ => false
  | .pk i, e₀ => match e₀ with
    | .Name x _ => decide (1 ≤ m) && nameB c i x && c.own.contains i
    | _ => false
  | .none, e₀ => match e₀ with
    | .Constant .none _ _ => true
    | _ => false
  | .bool b, e₀ => match e₀ with
    | .Constant (.bool b') _ _ => b == b'
    | _ => false
  | .int i, e₀ => match e₀ with
    | .Constant (.int j) _ _ => i == j
    | _ => false
  | .str x, e₀ => match e₀ with
    | .Constant (.str y) _ _ => x == y
    | _ => false
  | .glob x, e₀ => match e₀ with
    | .Name y _ => x == y && glB c.sc x
    | _ => false
  | .bin o a b, e₀ => match e₀ with
    | .BinOp l op r _ => op == opOf o && ckE c 1 a l && ckE c 1 b r
    | _ => false
  | .neg a, e₀ => match e₀ with
    | .UnaryOp .USub e _ => ckE c 0 a e
    | _ => false
  | .cmp o a b, e₀ => match e₀ with
    | .Compare l [op] [r] _ => op == cmOf o && ckE c 0 a l && ckE c 1 b r && !behindInMarks op r
    | _ => false
  | .chain o p a b d, e₀ => match e₀ with
    | .Compare l [op, op'] [mid, r] _ => op == cmOf o && op' == cmOf p && ckE c 0 a l && ckE c 0 b mid && ckE c 0 d r && !behindInMarks op mid && !behindInMarks op' r && !(op == .In) && !(op == .NotIn) && !(op' == .In) && !(op' == .NotIn)
    | _ => false
  | .isN a, e₀ => match e₀ with
    | .Compare l [.Is] [.Constant .none _ _] _ => ckE c 1 a l
    | _ => false
  | .notN a, e₀ => match e₀ with
    | .Compare l [.IsNot] [.Constant .none _ _] _ => ckE c 1 a l
    | _ => false
  | .and es, e₀ => match e₀ with
    | .BoolOp .And l _ => ckEs c es l
    | _ => false
  | .or es, e₀ => match e₀ with
    | .BoolOp .Or l _ => ckEs c es l
    | _ => false
  | .not a, e₀ => match e₀ with
    | .UnaryOp .Not e _ => ckE c 0 a e
    | _ => false
  | .ite t a b, e₀ => match e₀ with
    | .IfExp e l r _ => ckE c 0 t e && ckE c 0 a l && ckE c 0 b r
    | _ => false
  | .tup es, e₀ => match e₀ with
    | .Tuple l _ _ => ckEs c es l && decide (l.length ≤ 1000)
    | _ => false
  | .lst es, e₀ => match e₀ with
    | .List l _ => ckEs c es l && decide (l.length ≤ 1000)
    | _ => false
  | .dT, e₀ => match e₀ with
    | .Dict [] [] _ => true
    | _ => false
  | .ix a i, e₀ => match e₀ with
    | .Subscript l r _ => ckE c 1 a l && ckE c 0 i r && noSlice r
    | _ => false
  | .sl a lo hi, e₀ => match e₀ with
    | .Subscript l (.Slice (some x) (some y) none _) _ => ckE c 1 a l && ckE c 0 lo x && ckE c 0 hi y
    | _ => false
  | .slL a lo, e₀ => match e₀ with
    | .Subscript l (.Slice (some x) none none _) _ => ckE c 1 a l && ckE c 0 lo x
    | _ => false
  | .slH a hi, e₀ => match e₀ with
    | .Subscript l (.Slice none (some y) none _) _ => ckE c 1 a l && ckE c 0 hi y
    | _ => false
  | .call f as ks dfl, e₀ => match e₀ with
    | .Call (.Name x _) args kws _ => !c.hot && (match c.T f with
    | some i => i.name == x && glB c.sc x && ckEs c as args && !args.isEmpty && ckKs c ks kws && (match kwNames kws with
      | some ns => i.shapes.any fun sh => sh.1 == args.length && sh.2.1 == ns && eqDs dfl sh.2.2 && decide (args.length + ns.length + dfl.length = i.ps.length)
      | none => false)
    | none => false)
    | _ => false
  | .f1 f a, e₀ => match e₀ with
    | .Call (.Name x _) [e] [] _ => (x == fnName f && glB c.sc x && ckE c 1 a e) && !c.hot
    | _ => false
  | .mx2 a b, e₀ => match e₀ with
    | .Call (.Name x _) [l, r] [] _ => (x == "max" && glB c.sc x && ckE c 0 a l && ckE c 0 b r) && !c.hot
    | _ => false
  | .mn2 a b, e₀ => match e₀ with
    | .Call (.Name x _) [l, r] [] _ => (x == "min" && glB c.sc x && ckE c 0 a l && ckE c 0 b r) && !c.hot
    | _ => false
  | .isa t a, e₀ => match e₀ with
    | .Call (.Name x _) [l, .Name y _] [] _ => x == "isinstance" && glB c.sc x && y == tyName t && glB c.sc y && ckE c 1 a l
    | _ => false
  | .lenset a, e₀ => match e₀ with
    | .Call (.Name x _) [.Call (.Name y _) [e] [] _] [] _ => (x == "len" && y == "set" && glB c.sc x && glB c.sc y && ckE c 1 a e) && !c.hot
    | _ => false
  | .get2 d k x, e₀ => match e₀ with
    | .Call (.Attribute o mt ap) [a, b] [] cp => (mt == "get" && (ap.endLine == cp.line) && notCall o && ckE c 1 d o && ckE c 0 k a && ckE c 0 x b && notStar a && notStar b) && !c.hot
    | _ => false
  | .index a x, e₀ => match e₀ with
    | .Call (.Attribute o mt ap) [e] [] cp => mt == "index" && (ap.endLine == cp.line) && notCall o && ckE c 1 a o && ckE c 0 x e && notStar e
    | _ => false
  | .comp elt i it, e₀ => match e₀ with
    | .ListComp l [⟨.Name x _, e, [], 0⟩] sc _ => (ckE c 2 it e && decide (c.N[i]? = some x) && blkC c.N c.sc sc [(x, i)] && locB (relS sc c.sc) x && tgB sc c.sc x && !c.own.contains i && ckE { c with sc := relS sc c.sc } 0 elt l) && !c.hot
    | _ => false
  | .compIf elt i it t, e₀ => match e₀ with
    | .ListComp l [⟨.Name x _, e, [b], 0⟩] sc _ => (ckE c 2 it e && decide (c.N[i]? = some x) && blkC c.N c.sc sc [(x, i)] && locB (relS sc c.sc) x && tgB sc c.sc x && !c.own.contains i && ckE { c with sc := relS sc c.sc } 0 elt l && ckE { c with sc := relS sc c.sc } 0 t b) && !c.hot
    | _ => false
  | .compD elt i j, e₀ => match e₀ with
    | .ListComp l [⟨.Name x _, .Name y _, [], 0⟩] sc _ => (nameB c j y && decide (c.N[i]? = some x) && blkC c.N c.sc sc [(x, i)] && locB (relS sc c.sc) x && tgB sc c.sc x && !c.own.contains i && ckE { c with sc := relS sc c.sc } 0 elt l) && !c.hot
    | _ => false
  | .compIfD elt i j t, e₀ => match e₀ with
    | .ListComp l [⟨.Name x _, .Name y _, [b], 0⟩] sc _ => (nameB c j y && decide (c.N[i]? = some x) && blkC c.N c.sc sc [(x, i)] && locB (relS sc c.sc) x && tgB sc c.sc x && !c.own.contains i && ckE { c with sc := relS sc c.sc } 0 elt l && ckE { c with sc := relS sc c.sc } 0 t b) && !c.hot
    | _ => false
  | .fld k f, e₀ => match e₀ with
    | .Attribute (.Name y _) g _ => c.hot && g == f && nameB c c.hi y && (match c.XT k with
      | some xc => xc.fields.contains f
      | none => false)
    | _ => false
  | .isaC k nm, e₀ => match e₀ with
    | .Call (.Name x _) [.Name y _, .Name z _] [] _ => c.hot && x == "isinstance" && glB c.sc x && nameB c c.hi y && z == nm && glB c.sc z && (match c.XT k with
      | some xc => xc.name == nm
      | none => false)
    | _ => false
  | .rng1 a, e₀ => match e₀ with
    | .Call (.Name x _) [e] [] _ => m == 2 && x == "range" && glB c.sc x && ckE c 0 a e
    | _ => false
  | .rng2 a b, e₀ => match e₀ with
    | .Call (.Name x _) [l, r] [] _ => m == 2 && x == "range" && glB c.sc x && ckE c 0 a l && ckE c 0 b r
    | _ => false
  | .sortk f a, e₀ => match e₀ with
    | .Call (.Name x _) [e] [⟨some kw, .Name y _, _⟩] _ => (x == "sorted" && kw == ("key" : Str) && y == f && c.KF.contains f && glB c.sc x && glB c.sc y && ckE c 1 a e) && !c.hot
    | _ => false
  | .rng3 a b d, e₀ => match e₀ with
    | .Call (.Name x _) [l, mid, r] [] _ => m == 2 && x == "range" && glB c.sc x && ckE c 0 a l && ckE c 0 b mid && ckE c 0 d r
    | _ => false
def ckEs (c : SC) : Es → List Expr → Bool
  | .nil, [] => true
  | .cons e r, x :: xs => ckE c 0 e x && notStar x && ckEs c r xs
  | _, _ => false
def ckKs (c : SC) : Es → List Keyword → Bool
  | .nil, [] => true
  | .cons e r, ⟨_, x, _⟩ :: xs => ckE c 0 e x && ckKs c r xs
  | _, _ => false
end
/-- an expression that makes its list or dict anew -/
def freshE : E → Bool
  | .lst _ => true
  | .dT => true
  | .bin _ _ _ => true
  | .sl _ _ _ => true
  | .slL _ _ => true
  | .slH _ _ => true
  | .comp _ _ _ => true
  | .compIf _ _ _ _ => true
  | .compD _ _ _ => true
  | .compIfD _ _ _ _ => true
  | .f1 .list _ => true
  | .f1 .sorted _ => true
  | .ite _ a b => freshE a && freshE b
  | _ => false
/-- own slots that are handed on -/
def mvd (c : SC) (ks : List Nat) : SC := { c with own := c.own.filter fun i => !ks.contains i }
/-- x = [..] stores from within the comprehension -/
def swB (sc : Scope) (v : Expr) (x : Str) (px : Pos) : Bool := match v with
  | .ListComp _ _ s _ => (match sc.names.lookup x with
    | some .local => true
    | _ => false) && px.line == v.pos.line && !(s.names.any fun (n, k) => n == x && (k == .local || k == .cell))
  | _ => false
def noSetC : Expr → Bool
  | .SetComp _ _ _ _ => false
  | .DictComp _ _ _ _ _ => false
  | _ => true
def isLc : E → Bool
  | .comp _ _ _ => true
  | .compIf _ _ _ _ => true
  | _ => false
def ckSu (c : SC) : Su → List Stmt → Bool
  | .ret e, l => match l with
    | [.Return (some v) _] => ckE c 0 e v
    | _ => false
  | .iff t e r, l => match l with
    | .If tx [.Return (some v) _] [] _ :: rest => ckE c 0 t tx && ckE c 0 e v && ckSu c r rest
    | _ => false
  | .fall, l => match l with
    | [] => true
    | _ => false
def isRngE : E → Bool
  | .rng1 _ => true
  | .rng2 _ _ => true
  | .rng3 _ _ _ => true
  | _ => false
mutual
def ckS (c : SC) : S → Stmt → Bool
  | .set ks i e, s₀ => match s₀ with
    | .Assign [.Name x px] v _ => decide (c.N[i]? = some x) && locB c.sc x && ckE (mvd c ks) 0 e v && (!c.own.contains i || freshE e) && noSetC v && (!swB c.sc v x px || isLc e)
    | _ => false
  | .app ks i e, s₀ => match s₀ with
    | .Expr (.Call (.Attribute (.Name x _) mt ap) [v] [] cp) _ => mt == "append" && (ap.endLine == cp.line) && nameB c i x && c.own.contains i && !ks.contains i && ckE (mvd c ks) 0 e v && notStar v
    | _ => false
  | .put ks i k e, s₀ => match s₀ with
    | .Assign [.Subscript (.Name x _) ke _] v _ => nameB c i x && c.own.contains i && !ks.contains i && ckE (mvd c ks) 0 e v && ckE (mvd c ks) 0 k ke
    | _ => false
  | .ret ks e, s₀ => match s₀ with
    | .Return (some v) _ => ckE (mvd c ks) 0 e v
    | _ => false
  | .ite t a b, s₀ => match s₀ with
    | .If tx p q _ => ckE c 0 t tx && ckSs c a p && ckSs c b q
    | _ => false
  | .for_ i it body _, s₀ => match s₀ with
    | .For (.Name x _) ie bd [] _ => decide (c.N[i]? = some x) && locB c.sc x && !c.own.contains i && ckE c 2 it ie && (isRngE it || ckE c 0 it ie) && ckSs c body bd
    | _ => false
  | .brk, s₀ => match s₀ with
    | .Break _ => true
    | _ => false
  | .cont, s₀ => match s₀ with
    | .Continue _ => true
    | _ => false
  | .pass, s₀ => match s₀ with
    | .Pass _ => true
    | _ => false
  | .raise k as, s₀ => match s₀ with
    | .Raise (some (.Call (.Name x _) (a :: args) [] _)) none _ => (match c.XT k with
      | some xc => xc.name == x && xc.own && decide xc.fields.Nodup && decide (xc.fields.length = args.length + 1 ∧ args.length ≤ 100)
      | none => false) && glB c.sc x && ckEs c as (a :: args)
    | _ => false
  | .try_ body k i su, s₀ => match s₀ with
    | .Try bd [.ExceptHandler (some (.Name x _)) (some nv) (b₀ :: suite) _] [] [] _ => (match c.XT k with
      | some xc => xc.name == x
      | none => false) && glB c.sc x && decide (c.N[i]? = some nv) && (match c.sc.names.lookup nv with
      | some .local => true
      | _ => false) && !c.own.contains i && ckSs c body bd && ckSu { c with hot := true, hi := i } su (b₀ :: suite)
    | _ => false
  | _, _ => false
def ckSs (c : SC) : Ss → List Stmt → Bool
  | .nil, [] => true
  | .cons s r, x :: xs => ckS c s x && ckSs c r xs
  | _, _ => false
end
end PV
end
section
set_option Elab.async false
set_option linter.all false
set_option maxRecDepth 100000
set_option maxHeartbeats 4000000
/-! PV7: an expression that looks right does what the evaluator says. -/
namespace PV
open PySem PySem.Spec PyProof.Rows L2

def atomV : D → V
  | .int i => .int i
  | .str x => .str x
  | _ => .non
theorem atom_rd {B : Addr → Prop} {H : Hp} : ∀ {d : D}, flatKey d = true → RD B H (atomV d) d
  | .int i, _ => .int i
  | .str x, _ => .str x
  | .none, h => nomatch h
  | .bool _, h => nomatch h
  | .list _, h => nomatch h
  | .tuple _, h => nomatch h
  | .dict _, h => nomatch h
theorem atoms_rd {B : Addr → Prop} {H : Hp} : ∀ {ds : List D}, ds.all flatKey = true → RDs B H (ds.map atomV) ds
  | [], _ => .nil
  | d :: ds, h => by
    rw [List.all_cons, Bool.and_eq_true] at h
    exact .cons (atom_rd h.1) (atoms_rd h.2)
theorem flat_eqv {a b : D} (ha : flatKey a = true) (hb : flatKey b = true) (h : PyData.eqv a b = true) : a = b := by
  have k : ∀ {d : D}, flatKey d = true → ∃ k, d = kD k := by
    intro d hd
    cases d with
    | int i => exact ⟨.inl i, rfl⟩
    | str x => exact ⟨.inr x, rfl⟩
    | _ => cases hd
  obtain ⟨x, rfl⟩ := k ha
  obtain ⟨y, rfl⟩ := k hb
  rw [eqv_kD] at h
  rw [of_decide_eq_true h]

/-- what a def of the table promises -/
def spF (mg : Str → Option Value) (np : Nat) (ev : List D → R D) : Sp := fun vs H Q E => ∃ B ds, RDs B H vs ds ∧ ds.length = np ∧ NoN B H ∧ Ct mg (fun c dd _ H => E c dd H) [] H B (ev ds) (fun d => ∀ v H', Same H H' → RD B H' v d → Q v H')
/-- how it is called: so many arguments, keywords, defaults -/
def BindOk (K : W.Frag) (fdt : FuncData) (ps : List Str) (sh : Nat × List Str × List D) : Prop :=
  ∃ ds : List Value, Vals (sh.2.2.map atomV) ds ∧ ∀ s us ws, K.In s.heap → us.length = sh.1 → ws.length = sh.2.1.length → BindsTo s fdt ⟨us, sh.2.1.zip ws⟩ (ps.zip (us ++ ws ++ ds))
structure FnFact (P : Program) (w : World) (K : W.Frag) (mg : Str → Option Value) (base : Heap) (n : Nat) (a : Addr) (fdt : FuncData) (i : FnD) (ev : List D → R D) : Prop where
  gm : mg i.name = some (.ref a)
  kp : W.keepIn K (.ref a) = true
  ok : FnOk P w K mg base (L2.CX P w) n a fdt i.ps (spF mg i.ps.length ev)
  sh : ∀ sh ∈ i.shapes, BindOk K fdt i.ps sh
def bltNames : List Str := ["len", "tuple", "list", "sorted", "max", "min", "sum", "int", "range", "isinstance", "bool", "str", "dict", "set"]
/-- a key function x ↦ (len(x), x) -/
def KeyFact (P : Program) (w : World) (K : W.Frag) (mg : Str → Option Value) (base : Heap) (x : Str) : Prop := ∃ a, mg x = some (.ref a) ∧
  ∀ (A : Around) (s : Shared) (u : Value) (xs : List D), Room 1 A → L2.Mod K mg base → xs.length ≤ sizeLine → (∀ b o, base.get? b = some o → s.heap.get? b = some o) → Reads s.heap u (.tuple xs) [] → wpAny (model P w) A (call (.ref a) [u]) (W.KeyPure (.tuple [.int xs.length, .tuple xs]) s) (fun _ _ => False) s
/-- a class's name stands for the value u -/
def ClsVal (mg : Str → Option Value) (x : Str) (u : Value) : Prop := mg x = some u ∨ (mg x = none ∧ bootBuiltins x = some u)
/-- what a class's own __init__ does: its arguments become its fields -/
def spInit (C : Addr) (fs : List Str) : Sp := fun vs H Q E => ∃ (a : Addr) (ws : List V), vs = .ref a :: ws ∧ ws.length = fs.length ∧ H a = some (L2.exo a C none) ∧ ∀ d, H d = none → d ≠ a → Q .non (upd (upd H d (L2.exd d (fs.zip ws).reverse)) a (L2.exo a C (some d)))
structure MkOk (P : Program) (w : World) (K : W.Frag) (mg : Str → Option Value) (base : Heap) (xc : Xc) (C : Addr) : Prop where
  cls : L2.OexC K C
  ini : ∃ (fI : Addr) (fdI : FuncData) (ps : List Str), PySem.W.findIn K (.ref C) "__init__" = some (some (.ref fI)) ∧ PySem.W.typeIn K (.ref fI) = some (.type "function") ∧ FnOk P w K mg base (L2.CX P w) 1 fI fdI ps (spInit C xc.fields) ∧ Binds K fdI ps []
/-- the classes of errors -/
structure XW (XT : Nat → Option Xc) (sub : Str → Nat → Bool) (P : Program) (w : World) (K : W.Frag) (mg : Str → Option Value) (base : Heap) : Prop where
  cv : ∀ k xc, XT k = some xc → ∃ v u, RelV v u ∧ (∀ u', RelV v u' → u' = u) ∧ ClsVal mg xc.name u
  own : ∀ k xc C, XT k = some xc → mg xc.name = some (.ref C) → L2.XfC K C ∧ L2.ExcC K C
  mkk : ∀ k xc, XT k = some xc → xc.own = true → ∃ C, mg xc.name = some (.ref C) ∧ MkOk P w K mg base xc C
  nof : ∀ k xc C, XT k = some xc → mg xc.name = some (.ref C) → ∀ k' xc' f, XT k' = some xc' → f ∈ xc'.fields → PySem.W.findIn K (.ref C) f = some none
  is : ∀ j xj C k xk u, XT j = some xj → mg xj.name = some (.ref C) → XT k = some xk → ClsVal mg xk.name u → PySem.W.kitOne K (.ref C) u = some (sub xj.name k) ∧ PySem.W.exmOne K (.ref C) u = some (sub xj.name k)
/-- the world of a def's text, for calls n deep -/
structure Wd (fa : Nat → Addr) (fd : Nat → FuncData) (n : Nat) (ev : Nat → List D → R D) (T : Nat → Option FnD) (G : Gls) (KF : List Str) (XT : Nat → Option Xc) (P : Program) (w : World) (K : W.Frag) (mg : Str → Option Value) (base : Heap) : Prop where
  fn : ∀ f i, T f = some i → FnFact P w K mg base n (fa f) (fd f) i (ev f)
  gl : ∀ x d, G.g x = some d → flatKey d = true ∧ ∃ u, mg x = some u ∧ RelV (atomV d) u
  blt : ∀ x ∈ bltNames, mg x = none
  key : ∀ x ∈ KF, KeyFact P w K mg base x
  xw : XW XT G.sub P w K mg base
structure XOk (fa : Nat → Addr) (fd : Nat → FuncData) (n : Nat) (ev : Nat → List D → R D) (X : Cx) (c : SC) : Prop where
  N : X.N = c.N
  sc : X.env.scope = c.sc
  nd : X.N.Nodup
  kind : c.sc.kind = .function
  cold : c.hot = false → X.calm = true ∧ Room (n + 3) X.A
  hu : X.A.units + 66 < cLine
  wd : Wd fa fd n ev c.T c.G c.KF c.XT X.prog X.w X.K X.mg X.base
section
variable {fa : Nat → Addr} {fd : Nat → FuncData} {n : Nat} {ev : Nat → List D → R D} {X : Cx} {c : SC}
theorem XOk.calm (ok : XOk fa fd n ev X c) (hh : c.hot = false) : X.calm = true := (ok.cold hh).1
theorem XOk.room (ok : XOk fa fd n ev X c) (hh : c.hot = false) : Room (n + 3) X.A := (ok.cold hh).2
theorem okName_of {x : Str} (h : okName x = true) : (x == ("__debug__" : Str)) = false ∧ (x == ("__classdict__" : Str)) = false ∧ x ≠ "__name__" := by
  unfold okName at h
  rw [Bool.and_eq_true, Bool.and_eq_true, Bool.not_eq_true', Bool.not_eq_true', Bool.not_eq_true'] at h
  exact ⟨h.1.1, h.1.2, fun z => by rw [z] at h; exact absurd h.2 (by decide)⟩
theorem XOk.gl (ok : XOk fa fd n ev X c) {x : Str} (h : glB c.sc x = true) : Gl X x ∧ (x == ("__debug__" : Str)) = false ∧ x ≠ "__name__" := by
  unfold glB at h
  rw [Bool.and_eq_true] at h
  obtain ⟨h1, h2, h3⟩ := okName_of h.2
  refine ⟨?_, h1, h3⟩
  show X.env.scope.names.lookup x = some .globalImplicit
  rw [ok.sc]
  have a := h.1
  split at a
  · assumption
  · cases a
theorem XOk.nm (ok : XOk fa fd n ev X c) {x : Str} {i : Nat} {pos : Pos} (h : nameB c i x = true) : PE X (.Name x pos) (tVar i) := by
  unfold nameB at h
  rw [Bool.and_eq_true] at h
  have h1 : c.N[i]? = some x := of_decide_eq_true h.1
  have h2 := h.2
  unfold visB at h2
  rw [Bool.and_eq_true] at h2
  obtain ⟨d1, d2, d3⟩ := okName_of h2.2
  refine pe_var (by rw [ok.N]; exact h1) ?_ d1 d2
  unfold Vis
  rw [ok.sc]
  have a := h2.1
  split at a
  · exact .inl (by assumption)
  · exact .inr (.inl (by assumption))
  · exact .inr (.inr (by assumption))
  · cases a
theorem locB_of {sc : Scope} {x : Str} (h : locB sc x = true) : Loc sc x := by
  unfold locB at h
  rw [Bool.and_eq_true] at h
  have a := h.1
  split at a
  · exact .inl (by assumption)
  · exact .inr (by assumption)
  · cases a
theorem XOk.blt (ok : XOk fa fd n ev X c) {x : Str} (h : x ∈ bltNames) : X.mg x = none := ok.wd.blt x h
/-- within a comprehension's block -/
theorem XOk.blk (ok : XOk fa fd n ev X c) {s : Shared} {H : Hp} {scope : Scope} {cl : List (Str × Addr)} {C : Addr} {fp : List Addr} (hk : (relS scope c.sc).kind = .function) : XOk fa fd n ev (X.blk s H scope (compEnvC scope cl C X.env) fp) { c with sc := relS scope c.sc } :=
  ⟨ok.N, by show relS scope X.env.scope = _; rw [ok.sc], ok.nd, hk, ok.cold, ok.hu, ok.wd⟩

/-- a value that is handed on -/
structure VR (m : Nat) (B : Addr → Prop) (H H' : Hp) (v : V) (d : D) (fr : Bool) : Prop where
  top : TopD B H' v d
  rd : m = 0 → RD B H' v d
  new : fr = true → isL d = true → New1 B H H' v d
def SndM (m : Nat) (X : Cx) (W : WX) (e : Expr) (σ : L2.St) (H : Hp) (B : Addr → Prop) (r : R D) (fr : Bool) : Prop :=
  ∀ Q : VK, Ct X.mg W σ H B r (fun d => ∀ v H', Same H H' → VR m B H H' v d fr → Q v H') → bestE X e σ H Q
def SndA (X : Cx) (W : WX) (es : List Expr) (σ : L2.St) (H : Hp) (B : Addr → Prop) (r : R (List D)) : Prop :=
  ∀ Q : List V → Hp → Prop, Ct X.mg W σ H B r (fun ds => ∀ vs H', Same H H' → RDs B H' vs ds → vs.length = es.length → Q vs H') → bestA X es σ H Q
def SndT (X : Cx) (W : WX) (e : Expr) (σ : L2.St) (H : Hp) (B : Addr → Prop) (r : R Bool) : Prop :=
  ∀ Q : Bool → Hp → Prop, Ct X.mg W σ H B r (fun b => ∀ H', Same H H' → Q b H') → bestT X e σ H Q
theorem VR.of {m : Nat} {B : Addr → Prop} {H H' : Hp} {v : V} {d : D} {fr : Bool} (h : RD B H' v d) (n : fr = true → isL d = true → New1 B H H' v d) : VR m B H H' v d fr := ⟨.rd h, fun _ => h, n⟩
theorem VR.at {m : Nat} {B : Addr → Prop} {H : Hp} {v : V} {d : D} {fr : Bool} (h : RD B H v d) (n : isL d = false) : VR m B H H v d fr := ⟨.rd h, fun _ => h, fun _ z => by rw [n] at z; cases z⟩
variable {m : Nat} {W : WX} {e : Expr} {σ : L2.St} {H H1 : Hp} {B : Addr → Prop} {fr : Bool} {α : Type}
/-- the first part of a whole -/
theorem SndM.thn {r : R D} {f : D → R α} {okp : α → Prop} (h : SndM m X W e σ H B r fr) (q : Ct X.mg W σ H B (r.bind f) okp) {Q : VK} (next : ∀ d v H', r = .ok d → Same H H' → VR m B H H' v d fr → Ct X.mg W σ H' B (f d) okp → Q v H') : bestE X e σ H Q :=
  h Q (Ct.imp q.bind fun d e hq v H' s r => next d v H' e s r (Ct.same s hq))
theorem SndA.thn {es : List Expr} {r : R (List D)} {f : List D → R α} {okp : α → Prop} (h : SndA X W es σ H B r) (q : Ct X.mg W σ H B (r.bind f) okp) {Q : List V → Hp → Prop} (next : ∀ ds vs H', r = .ok ds → Same H H' → RDs B H' vs ds → vs.length = es.length → Ct X.mg W σ H' B (f ds) okp → Q vs H') : bestA X es σ H Q :=
  h Q (Ct.imp q.bind fun d e hq v H' s r l => next d v H' e s r l (Ct.same s hq))
theorem SndT.thn {r : R Bool} {f : Bool → R α} {okp : α → Prop} (h : SndT X W e σ H B r) (q : Ct X.mg W σ H B (r.bind f) okp) {Q : Bool → Hp → Prop} (next : ∀ b H', r = .ok b → Same H H' → Ct X.mg W σ H' B (f b) okp → Q b H') : bestT X e σ H Q :=
  h Q (Ct.imp q.bind fun d e hq H' s => next d H' e s (Ct.same s hq))
/-- FinL after a change of heaps -/
theorem FinL.of {H0 : Hp} {d : D} {Q : VK} (s : Same H0 H) (q : ∀ v H', Same H0 H' → VR m B H0 H' v d fr → Q v H') : FinL B H d Q := fun v H' s' r n => q v H' (s.trans s') (VR.of r fun _ z => by
  obtain ⟨a, e, h, u⟩ := n z
  exact ⟨a, e, s.free h, u⟩)
theorem Fin.of {H0 : Hp} {d : D} {Q : VK} (s : Same H0 H) (q : ∀ v H', Same H0 H' → VR m B H0 H' v d false → Q v H') : Fin B H d Q := fun v H' s' r => q v H' (s.trans s') (VR.of r fun z => nomatch z)
end
end PV
end
section
set_option Elab.async false
set_option linter.all false
set_option maxRecDepth 100000
set_option maxHeartbeats 4000000
/-! PV8: each form of expression, from its parts. -/
namespace PV
open PySem PySem.Spec PyProof.Rows L2
section
variable {fa : Nat → Addr} {fd : Nat → FuncData} {n : Nat} {ev : Nat → List D → R D} {X : Cx} {c : SC} {m : Nat} {W : WX} {σ : L2.St} {H : Hp} {B : Addr → Prop} {fr f1 f2 f3 : Bool} {ra rb rc : R D} {a b d l r : Expr} {pos p : Pos}

theorem SndM.up (h : SndM 0 X W a σ H B ra fr) : SndM m X W a σ H B ra fr := fun Q q => h Q (Ct.imp q fun d _ hq v H' s r => hq v H' s ⟨r.top, fun _ => r.rd rfl, r.new⟩)

theorem snd_bin (ok : XOk fa fd n ev X c) {o : B2} (nB : NoN B H) (ha : SndM 1 X W a σ H B ra f1) (hb : ∀ H1, Same H H1 → SndM 1 X W b σ H1 B rb f2) : SndM m X W (.BinOp a (opOf o) b pos) σ H B (ra.bind fun x => rb.bind fun y => bin2 o x y) true := fun Q q => by
  refine PE.best (pe_op (op_bin o) pe_best pe_best) ?_
  refine ha.thn q fun dx x H1 _ s1 r1 q1 => (hb H1 s1).thn q1 fun dy y H2 _ s2 r2 q2 => ?_
  have q3 := q2
  cases hd : bin2 o dx dy with
  | ok d =>
    rw [hd] at q3
    exact ⟨B, dx, dy, d, nB.same (s1.trans s2), r1.top.mvs s2, r2.top, hd, FinL.of (s1.trans s2) q3⟩
  | ex x => cases o <;> cases dx <;> cases dy <;> simp [bin2] at hd <;> (split at hd <;> cases hd)
  | bad => rw [hd] at q3; exact q3.elim
theorem snd_cmp (ok : XOk fa fd n ev X c) {o : Cm} (ha : SndM 0 X W a σ H B ra f1) (hb : ∀ H1, Same H H1 → SndM 1 X W b σ H1 B rb f2) (hm : behindInMarks (cmOf o) b = false) : SndM m X W (.Compare a [cmOf o] [b] pos) σ H B (ra.bind fun x => rb.bind fun y => b2 (cmp2 o x y)) false := fun Q q => by
  refine PE.best (pe_cmpR (op_cmp ok.hu o) pe_best pe_best hm) ?_
  refine ha.thn q fun dx x H1 _ s1 r1 q1 => (hb H1 s1).thn q1 fun dy y H2 _ s2 r2 q2 => ?_
  unfold b2 at q2
  cases hd : cmp2 o dx dy with
  | ok k =>
    rw [hd] at q2
    exact ⟨B, dx, dy, k, r1.top.mvs s2, fun _ => (r1.rd rfl).mv (.same s2), r2.top, hd, q2 _ _ (s1.trans s2) (VR.of (.bl k) fun z => nomatch z)⟩
  | ex x =>
    have : ∀ y, cmp2 o dx dy ≠ .ex y := by
      intro y h
      cases o <;> simp only [cmp2] at h
      all_goals first | (split at h <;> cases h; done) | (cases dy <;> simp only [] at h <;> first | (split at h <;> cases h; done) | cases h)
    exact absurd hd (this x)
  | bad => rw [hd] at q2; exact q2.elim
theorem sndT_cmp (ok : XOk fa fd n ev X c) {o : Cm} (ha : SndM 0 X W a σ H B ra f1) (hb : ∀ H1, Same H H1 → SndM 1 X W b σ H1 B rb f2) (hm : behindInMarks (cmOf o) b = false) : SndT X W (.Compare a [cmOf o] [b] pos) σ H B (ra.bind fun x => rb.bind fun y => cmp2 o x y) := fun Q q => by
  refine PT.best (pt_cmpR (op_cmp ok.hu o) pe_best pe_best hm) ?_
  refine ha.thn q fun dx x H1 _ s1 r1 q1 => (hb H1 s1).thn q1 fun dy y H2 _ s2 r2 q2 => ?_
  cases hd : cmp2 o dx dy with
  | ok k =>
    rw [hd] at q2
    exact ⟨B, dx, dy, k, r1.top.mvs s2, fun _ => (r1.rd rfl).mv (.same s2), r2.top, hd, k, rfl, q2 _ (s1.trans s2)⟩
  | ex x =>
    have : ∀ y, cmp2 o dx dy ≠ .ex y := by
      intro y h
      cases o <;> simp only [cmp2] at h
      all_goals first | (split at h <;> cases h; done) | (cases dy <;> simp only [] at h <;> first | (split at h <;> cases h; done) | cases h)
    exact absurd hd (this x)
  | bad => rw [hd] at q2; exact q2.elim

theorem bin2_noex {o : B2} {x y : D} {z : D} : bin2 o x y ≠ .ex z := fun hd => by
  cases o <;> cases x <;> cases y <;> simp [bin2] at hd <;> (split at hd <;> cases hd)
theorem cmp2_noex {o : Cm} {x y : D} {z : D} : cmp2 o x y ≠ .ex z := fun h => by
  cases o <;> simp only [cmp2] at h
  all_goals first | (split at h <;> cases h; done) | (cases y <;> simp only [] at h <;> first | (split at h <;> cases h; done) | cases h)

/-! ### slots, constants -/
theorem snd_slot {ρ : Env} {i : Nat} (hn : PE X a (tVar i)) (h : ∀ d, ρ[i]? = some (some d) → ∃ v, σ[i]? = some (some v) ∧ VR m B H H v d false) : SndM m X W a σ H B (slot ρ i) false := fun Q q => by
  refine PE.best hn ?_
  unfold slot at q
  cases e : ρ[i]? with
  | none => rw [e] at q; exact q.elim
  | some od =>
    cases od with
    | none => rw [e] at q; exact q.elim
    | some d =>
      rw [e] at q
      obtain ⟨v, e1, r⟩ := h d e
      exact ⟨v, e1, q v H (L2.Same.refl H) r⟩
theorem snd_const {v : V} {d : D} (h : PE X a (tC v)) (r : ∀ B H, RD B H v d) (nl : isL d = false) : SndM m X W a σ H B (.ok d) false := fun Q q => PE.best h (q v H (L2.Same.refl H) (VR.at (r B H) nl))

/-! ### operators -/
theorem snd_neg (ha : SndM 0 X W a σ H B ra f1) : SndM m X W (.UnaryOp .USub a pos) σ H B (ra.bind fun x => (asInt x).bind fun i => .ok (.int (-i))) false := fun Q q => by
  refine PE.best (pe_un un_neg pe_best) ?_
  refine ha.thn q fun dx x H1 _ s1 r1 q1 => ?_
  cases dx with
  | int i => exact ⟨i, (r1.top.int_of), q1 _ _ s1 (VR.of (.int _) fun z => nomatch z)⟩
  | _ => exact q1.elim
theorem snd_chain (ok : XOk fa fd n ev X c) {o o' : Cm} (ho : o ≠ .isin ∧ o ≠ .nin) (ho' : o' ≠ .isin ∧ o' ≠ .nin) (ha : SndM 0 X W a σ H B ra f1) (hb : ∀ H1, Same H H1 → SndM 0 X W b σ H1 B rb f2) (hc : ∀ H1, Same H H1 → SndM 0 X W d σ H1 B rc f3) (h2 : behindInMarks (cmOf o') d = false) :
    SndM m X W (.Compare a [cmOf o, cmOf o'] [b, d] pos) σ H B (ra.bind fun x => rb.bind fun y => (cmp2 o x y).bind fun k => if k = true then rc.bind fun z => b2 (cmp2 o' y z) else .ok (.bool false)) false := fun Q q => by
  refine PE.best (pe_chain (op_cmp ok.hu o) (op_cmp ok.hu o') pe_best pe_best pe_best h2) ?_
  refine ha.thn q fun dx x H1 _ s1 r1 q1 => (hb H1 s1).thn q1 fun dy y H2 _ s2 r2 q2 => ?_
  cases hd : cmp2 o dx dy with
  | ok k =>
    rw [hd] at q2
    refine ⟨B, dx, dy, k, r1.top.mvs s2, fun z => (z.elim ho.1 ho.2).elim, r2.top, hd, k, rfl, ?_⟩
    cases k with
    | false =>
      rw [if_neg Bool.false_ne_true]
      exact q2 _ _ (s1.trans s2) (VR.of (.bl _) fun z => nomatch z)
    | true =>
      rw [if_pos rfl]
      refine (hc H2 (s1.trans s2)).thn q2 fun dz z H3 _ s3 r3 q3 => ?_
      unfold b2 at q3
      cases hd' : cmp2 o' dy dz with
      | ok k' =>
        rw [hd'] at q3
        exact ⟨B, dy, dz, k', r2.top.mvs s3, fun z => (z.elim ho'.1 ho'.2).elim, r3.top, hd', q3 _ _ ((s1.trans s2).trans s3) (VR.of (.bl _) fun z => nomatch z)⟩
      | ex x => exact absurd hd' cmp2_noex
      | bad => rw [hd'] at q3; exact q3.elim
  | ex x => exact absurd hd cmp2_noex
  | bad => rw [hd] at q2; exact q2.elim
theorem sndT_chain (ok : XOk fa fd n ev X c) {o o' : Cm} (ho : o ≠ .isin ∧ o ≠ .nin) (ho' : o' ≠ .isin ∧ o' ≠ .nin) (ha : SndM 0 X W a σ H B ra f1) (hb : ∀ H1, Same H H1 → SndM 0 X W b σ H1 B rb f2) (hc : ∀ H1, Same H H1 → SndM 0 X W d σ H1 B rc f3) (h2 : behindInMarks (cmOf o') d = false) :
    SndT X W (.Compare a [cmOf o, cmOf o'] [b, d] pos) σ H B ((ra.bind fun x => rb.bind fun y => (cmp2 o x y).bind fun k => if k = true then rc.bind fun z => b2 (cmp2 o' y z) else .ok (.bool false)).bind asBool) := fun Q q => by
  refine PT.best (pt_chain (op_cmp ok.hu o) (op_cmp ok.hu o') pe_best pe_best pe_best h2) ?_
  refine ha.thn q.bind fun dx x H1 _ s1 r1 q1 => (hb H1 s1).thn q1 fun dy y H2 _ s2 r2 q2 => ?_
  cases hd : cmp2 o dx dy with
  | ok k =>
    rw [hd] at q2
    refine ⟨B, dx, dy, k, r1.top.mvs s2, fun z => (z.elim ho.1 ho.2).elim, r2.top, hd, k, rfl, ?_⟩
    cases k with
    | false =>
      rw [if_neg Bool.false_ne_true]
      exact ⟨false, rfl, q2 _ (s1.trans s2)⟩
    | true =>
      rw [if_pos rfl]
      refine (hc H2 (s1.trans s2)).thn q2 fun dz z H3 _ s3 r3 q3 => ?_
      unfold b2 at q3
      cases hd' : cmp2 o' dy dz with
      | ok k' =>
        rw [hd'] at q3
        exact ⟨B, dy, dz, k', r2.top.mvs s3, fun z => (z.elim ho'.1 ho'.2).elim, r3.top, hd', k', rfl, q3 _ ((s1.trans s2).trans s3)⟩
      | ex x => exact absurd hd' cmp2_noex
      | bad => rw [hd'] at q3; exact q3.elim
  | ex x => exact absurd hd cmp2_noex
  | bad => rw [hd] at q2; exact q2.elim
theorem snd_isN {j : Nat} {pos' : Pos} (ha : SndM 1 X W a σ H B ra f1) : SndM m X W (.Compare a [.Is] [.Constant .none j pos'] pos) σ H B (ra.bind fun x => .ok (.bool (isNone x))) false := fun Q q => by
  refine PE.best (pe_cmp (pc_isN pe_best)) ?_
  exact ha.thn q fun dx x H1 _ s1 r1 q1 => q1 _ _ s1 (by rw [r1.top.non_iff]; exact VR.of (.bl _) fun z => nomatch z)
theorem sndT_isN {j : Nat} {pos' : Pos} (ha : SndM 1 X W a σ H B ra f1) : SndT X W (.Compare a [.Is] [.Constant .none j pos'] pos) σ H B ((ra.bind fun x => .ok (.bool (isNone x))).bind asBool) := fun Q q => by
  refine PT.best (pt_cmp (pc_isN pe_best)) ?_
  exact ha.thn q.bind fun dx x H1 _ s1 r1 q1 => ⟨_, rfl, by rw [r1.top.non_iff]; exact q1 _ s1⟩
theorem snd_notN {j : Nat} {pos' : Pos} (ha : SndM 1 X W a σ H B ra f1) : SndM m X W (.Compare a [.IsNot] [.Constant .none j pos'] pos) σ H B (ra.bind fun x => .ok (.bool (!isNone x))) false := fun Q q => by
  refine PE.best (pe_cmp (pc_notN pe_best)) ?_
  exact ha.thn q fun dx x H1 _ s1 r1 q1 => q1 _ _ s1 (by rw [r1.top.non_iff]; exact VR.of (.bl _) fun z => nomatch z)
theorem sndT_notN {j : Nat} {pos' : Pos} (ha : SndM 1 X W a σ H B ra f1) : SndT X W (.Compare a [.IsNot] [.Constant .none j pos'] pos) σ H B ((ra.bind fun x => .ok (.bool (!isNone x))).bind asBool) := fun Q q => by
  refine PT.best (pt_cmp (pc_notN pe_best)) ?_
  exact ha.thn q.bind fun dx x H1 _ s1 r1 q1 => ⟨_, rfl, by rw [r1.top.non_iff]; exact q1 _ s1⟩
theorem VR.bl_of {f : Bool} {x : V} {b : Bool} {H H1 : Hp} (r : VR m B H H1 x (.bool b) f) : x = .bl b := r.top.bl_of
theorem snd_not (ha : SndM 0 X W a σ H B ra f1) : SndM m X W (.UnaryOp .Not a pos) σ H B (ra.bind fun x => (asBool x).bind fun k => .ok (.bool (!k))) false := fun Q q => by
  refine PE.best (pe_not pe_best) ?_
  refine ha.thn q fun dx x H1 _ s1 r1 q1 => ?_
  cases dx with
  | bool k => exact ⟨k, r1.bl_of, q1 _ _ s1 (VR.of (.bl _) fun z => nomatch z)⟩
  | _ => exact q1.elim
theorem sndT_not {rt : R Bool} (ha : SndT X W a σ H B rt) : SndT X W (.UnaryOp .Not a pos) σ H B (rt.bind fun k => .ok (!k)) := fun Q q => by
  refine PT.best (pt_not pt_best) ?_
  exact ha.thn q fun k H1 _ s1 q1 => q1 _ s1
theorem snd_ite {rt : R Bool} (hc : SndT X W d σ H B rt) (ha : ∀ H1, Same H H1 → SndM 0 X W a σ H1 B ra f1) (hb : ∀ H1, Same H H1 → SndM 0 X W b σ H1 B rb f2) : SndM m X W (.IfExp d a b pos) σ H B (rt.bind fun k => if k = true then ra else rb) (f1 && f2) := fun Q q => by
  refine PE.best (pe_ifExp pt_best pe_best pe_best) ?_
  refine hc.thn q fun k H1 _ s1 q1 => ?_
  have fin : ∀ {f : Bool} {v : V} {dv : D} {H' : Hp}, ((f1 && f2) = true → f = true) → Same H1 H' → VR 0 B H1 H' v dv f → VR m B H H' v dv (f1 && f2) := fun hf s r => ⟨r.top, fun _ => r.rd rfl, fun z1 z2 => by
    obtain ⟨p, e, h, u⟩ := r.new (hf z1) z2
    exact ⟨p, e, s1.free h, u⟩⟩
  cases k with
  | true =>
    rw [if_pos rfl]
    rw [if_pos rfl] at q1
    exact ha H1 s1 Q (Ct.imp q1 fun dv _ hq v H' s r => hq v H' (s1.trans s) (fin (fun z => (Bool.and_eq_true_iff.mp z).1) s r))
  | false =>
    rw [if_neg Bool.false_ne_true]
    rw [if_neg Bool.false_ne_true] at q1
    exact hb H1 s1 Q (Ct.imp q1 fun dv _ hq v H' s r => hq v H' (s1.trans s) (fin (fun z => (Bool.and_eq_true_iff.mp z).2) s r))

/-! ### displays, subscripts, slices -/
theorem snd_tup {es : List Expr} {k : Nat} {rs : R (List D)} (ha : SndA X W es σ H B rs) (hz : es.length ≤ 1000) : SndM m X W (.Tuple es k pos) σ H B (rs.bind fun xs => .ok (.tuple xs)) false := fun Q q => by
  intro pins s I
  refine wpAny_Tuple_spliced (thn (ha.thn q (Q := fun vs H1 => ∃ ds, RDs B H1 vs ds ∧ vs.length = es.length ∧ FinL B H1 (.tuple ds) Q) (fun ds vs H1 _ s1 r1 l q1 => ⟨ds, r1, l, FinL.of (m := m) (fr := false) s1 q1⟩) pos pins s I) fun us s1 ⟨vs, H1, I1, r, ds, rd, l, q1⟩ => ?_)
  have hz1 : vs.length ≤ sizeLine := by rw [l]; exact Nat.le_of_lt (small1000 hz)
  exact ⟨by rw [← r.length]; exact hz1, mk_push I1 r rd hz1 q1⟩
theorem snd_lst {es : List Expr} {rs : R (List D)} (nB : NoN B H) (ha : SndA X W es σ H B rs) (hz : es.length ≤ 1000) : SndM m X W (.List es pos) σ H B (rs.bind fun xs => .ok (.list xs)) true := fun Q q => by
  refine PE.best (pe_lst pa_best) ?_
  refine ha.thn q fun ds vs H1 _ s1 r1 l q1 => ⟨by rw [l]; exact Nat.le_of_lt (small1000 hz), fun p hp => ?_⟩
  exact new_lst (nB.same s1) r1 (FinL.of (m := m) (fr := true) s1 q1) p hp
theorem snd_dT (nB : NoN B H) : SndM m X W (.Dict [] [] pos) σ H B (.ok (.dict [])) true := fun Q q => by
  refine PE.best pe_dnewT ?_
  intro p hp
  exact q _ _ (same_upd hp) (VR.of (.dT (nB.fresh hp) (.inl upd_same) .nil) fun _ _ => ⟨p, rfl, hp, .inr ⟨[], [], rfl, upd_same, .nil⟩⟩)
theorem snd_ix (ok : XOk fa fd n ev X c) (nB : NoN B H) (ha : SndM 1 X W a σ H B ra f1) (hb : ∀ H1, Same H H1 → SndM 0 X W b σ H1 B rb f2) (hp : PlainIx b) : SndM m X W (.Subscript a b pos) σ H B (ra.bind fun x => rb.bind fun y => index2 x y) false := fun Q q => by
  refine PE.best (pe_ix (ix2 ok.hu) pe_best pe_best hp) ?_
  refine ha.thn q fun dx x H1 _ s1 r1 q1 => (hb H1 s1).thn q1 fun dy y H2 _ s2 r2 q2 => ?_
  cases hd : index2 dx dy with
  | ok d =>
    rw [hd] at q2
    exact ⟨B, dx, dy, d, r1.top.mvs s2, r2.rd rfl, hd, Fin.of (s1.trans s2) q2⟩
  | ex x =>
    exfalso
    cases dx <;> simp only [index2] at hd <;> try (cases hd; done)
    · cases dy <;> simp only [] at hd <;> first | (split at hd <;> cases hd; done) | cases hd
    · cases dy <;> simp only [] at hd <;> first | (split at hd <;> cases hd; done) | cases hd
    · split at hd
      · split at hd <;> cases hd
      · cases hd
  | bad => rw [hd] at q2; exact q2.elim
theorem slice3_noex {x z : D} {f g : Nat → Nat} : slice3 x f g ≠ .ex z := fun h => by cases x <;> cases h
theorem snd_sl (nB : NoN B H) {p2 : Pos} (ha : SndM 1 X W a σ H B ra f1) (hb : ∀ H1, Same H H1 → SndM 0 X W b σ H1 B rb f2) (hc : ∀ H1, Same H H1 → SndM 0 X W d σ H1 B rc f3) : SndM m X W (.Subscript a (.Slice (some b) (some d) none p2) pos) σ H B
    (ra.bind fun x => rb.bind fun l => (asInt l).bind fun i => rc.bind fun h => (asInt h).bind fun j => slice3 x (fun n => bound n i) (fun n => bound n j)) true := fun Q q => by
  refine PE.best (pe_slice sl2 pe_best (L2.po_some pe_best) (L2.po_some pe_best)) ?_
  refine ha.thn q fun dx x H1 _ s1 r1 q1 => (hb H1 s1).thn q1 fun dy y H2 _ s2 r2 q2 => ?_
  cases dy with
  | int i =>
    refine ⟨i, r2.top.int_of, (hc H2 (s1.trans s2)).thn q2 fun dz z H3 _ s3 r3 q3 => ?_⟩
    cases dz with
    | int j =>
      refine ⟨j, r3.top.int_of, ?_⟩
      have q4 : Ct X.mg W σ H3 B (slice3 dx (fun n => bound n i) (fun n => bound n j)) _ := q3
      cases hd : slice3 dx (fun n => bound n i) (fun n => bound n j) with
      | ok dd =>
        rw [hd] at q4
        exact ⟨B, dx, dd, nB.same ((s1.trans s2).trans s3), r1.top.mvs (s2.trans s3), hd, FinL.of (m := m) (fr := true) ((s1.trans s2).trans s3) q4⟩
      | ex x => exact absurd hd slice3_noex
      | bad => rw [hd] at q4; exact q4.elim
    | _ => exact q3.elim
  | _ => exact q2.elim
theorem snd_slL (nB : NoN B H) {p2 : Pos} (ha : SndM 1 X W a σ H B ra f1) (hb : ∀ H1, Same H H1 → SndM 0 X W b σ H1 B rb f2) : SndM m X W (.Subscript a (.Slice (some b) none none p2) pos) σ H B
    (ra.bind fun x => rb.bind fun l => (asInt l).bind fun i => slice3 x (fun n => bound n i) (fun n => n)) true := fun Q q => by
  refine PE.best (pe_slice sl2 pe_best (L2.po_some pe_best) L2.po_none) ?_
  refine ha.thn q fun dx x H1 _ s1 r1 q1 => (hb H1 s1).thn q1 fun dy y H2 _ s2 r2 q2 => ?_
  cases dy with
  | int i =>
    refine ⟨i, r2.top.int_of, ?_⟩
    have q4 : Ct X.mg W σ H2 B (slice3 dx (fun n => bound n i) (fun n => n)) _ := q2
    cases hd : slice3 dx (fun n => bound n i) (fun n => n) with
    | ok dd =>
      rw [hd] at q4
      exact ⟨B, dx, dd, nB.same (s1.trans s2), r1.top.mvs s2, hd, FinL.of (m := m) (fr := true) (s1.trans s2) q4⟩
    | ex x => exact absurd hd slice3_noex
    | bad => rw [hd] at q4; exact q4.elim
  | _ => exact q2.elim
theorem snd_slH (nB : NoN B H) {p2 : Pos} (ha : SndM 1 X W a σ H B ra f1) (hb : ∀ H1, Same H H1 → SndM 0 X W b σ H1 B rb f2) : SndM m X W (.Subscript a (.Slice none (some b) none p2) pos) σ H B
    (ra.bind fun x => rb.bind fun l => (asInt l).bind fun i => slice3 x (fun _ => 0) (fun n => bound n i)) true := fun Q q => by
  refine PE.best (pe_slice sl2 pe_best L2.po_none (L2.po_some pe_best)) ?_
  refine ha.thn q fun dx x H1 _ s1 r1 q1 => (hb H1 s1).thn q1 fun dy y H2 _ s2 r2 q2 => ?_
  cases dy with
  | int i =>
    refine ⟨i, r2.top.int_of, ?_⟩
    have q4 : Ct X.mg W σ H2 B (slice3 dx (fun _ => 0) (fun n => bound n i)) _ := q2
    cases hd : slice3 dx (fun _ => 0) (fun n => bound n i) with
    | ok dd =>
      rw [hd] at q4
      exact ⟨B, dx, dd, nB.same (s1.trans s2), r1.top.mvs s2, hd, FinL.of (m := m) (fr := true) (s1.trans s2) q4⟩
    | ex x => exact absurd hd slice3_noex
    | bad => rw [hd] at q4; exact q4.elim
  | _ => exact q2.elim
end
end PV
end
section
set_option Elab.async false
set_option linter.all false
set_option maxRecDepth 100000
set_option maxHeartbeats 4000000
/-! PV9: calls of built-ins, methods, comprehensions, calls of defs. -/
namespace PV
open PySem PySem.Spec PyProof.Rows L2
theorem bb_len : bootBuiltins "len" = some (.builtin "len") := by decide +kernel
theorem bb_tuple : bootBuiltins "tuple" = some (.type "tuple") := by decide +kernel
theorem bb_list : bootBuiltins "list" = some (.type "list") := by decide +kernel
theorem bb_sorted : bootBuiltins "sorted" = some (.builtin "sorted") := by decide +kernel
theorem bb_max : bootBuiltins "max" = some (.builtin "max") := by decide +kernel
theorem bb_min : bootBuiltins "min" = some (.builtin "min") := by decide +kernel
theorem bb_sum : bootBuiltins "sum" = some (.builtin "sum") := by decide +kernel
theorem bb_int : bootBuiltins "int" = some (.type "int") := by decide +kernel
theorem bb_isinstance : bootBuiltins "isinstance" = some (.builtin "isinstance") := by decide +kernel
theorem bb_bool : bootBuiltins "bool" = some (.type "bool") := by decide +kernel
theorem bb_str : bootBuiltins "str" = some (.type "str") := by decide +kernel
theorem bb_dict : bootBuiltins "dict" = some (.type "dict") := by decide +kernel
theorem bb_set : bootBuiltins "set" = some (.type "set") := by decide +kernel
section
variable {fa : Nat → Addr} {fd : Nat → FuncData} {n : Nat} {ev : Nat → List D → R D} {X : Cx} {c : SC} {m : Nat} {W : WX} {σ : L2.St} {H : Hp} {B : Addr → Prop} {fr f1 f2 f3 : Bool} {ra rb rc : R D} {a b d l r : Expr} {pos p : Pos}
theorem star1 (h : notStar a = true) (es : List Expr) (env : PySem.Env) : starEach (a :: es) env = (false, eval a env) :: starEach es env := by
  cases a <;> first | rfl | cases h
theorem anyStar : ∀ {es : List Expr} {env : PySem.Env} {pos : Pos}, es.all notStar = true → (backTo pos (starEach es env)).any (·.1) = false
  | [], _, _, _ => rfl
  | e :: es, env, pos, h => by
    rw [List.all_cons, Bool.and_eq_true] at h
    rw [star1 h.1]
    show (false || (backTo pos (starEach es env)).any (·.1)) = false
    rw [anyStar h.2]; rfl
theorem snd_arg1 (ns : notStar a = true) (ha : SndM m X W a σ H B ra fr) {f : D → R D} {okp : D → Prop} (q : Ct X.mg W σ H B (ra.bind f) okp) {Q : List V → Hp → Prop} (next : ∀ d v H', ra = .ok d → Same H H' → VR m B H H' v d fr → Ct X.mg W σ H' B (f d) okp → Q [v] H') : bestA X [a] σ H Q :=
  PA.best (pa_cons pe_best pa_nil (star1 ns [] X.env)) (ha.thn q next)
theorem call1_noex {f : F1} {x z : D} : call1 f x ≠ .ex z := fun h => by
  cases f <;> cases x <;> simp only [call1] at h <;> try (cases h; done)
  all_goals first
    | (split at h <;> cases h; done)
    | (rename_i xs; cases xs <;> simp only [call1] at h <;> first | (cases h; done) | (split at h <;> cases h; done))
theorem snd_f1 (ok : XOk fa fd n ev X c) (hh : c.hot = false) (nB : NoN B H) {f : F1} (hg : glB c.sc (fnName f) = true) (ns : notStar a = true) (ha : SndM 1 X W a σ H B ra f1) : SndM m X W (.Call (.Name (fnName f) p) [a] [] pos) σ H B (ra.bind fun x => call1 f x) (f == .list || f == .sorted) := fun Q q => by
  obtain ⟨g1, g2, g3⟩ := ok.gl hg
  have pe : PE X (.Call (.Name (fnName f) p) [a] [] pos) (tCB (rCall1 f) (bestA X [a])) := by
    cases f with
    | len => exact pe_callB (op_call1 ok.hu (ok.calm hh) .len) g1 (ok.blt (by decide)) bb_len pa_best g3 g2 (star1 ns [] X.env)
    | tuple => exact pe_callTy (op_call1 ok.hu (ok.calm hh) .tuple) g1 (ok.blt (by decide)) bb_tuple pa_best g3 g2 (star1 ns [] X.env)
    | list => exact pe_callTy (op_call1 ok.hu (ok.calm hh) .list) g1 (ok.blt (by decide)) bb_list pa_best g3 g2 (star1 ns [] X.env)
    | sorted => exact pe_callB (op_call1 ok.hu (ok.calm hh) .sorted) g1 (ok.blt (by decide)) bb_sorted pa_best g3 g2 (star1 ns [] X.env)
    | max => exact pe_callB (op_call1 ok.hu (ok.calm hh) .max) g1 (ok.blt (by decide)) bb_max pa_best g3 g2 (star1 ns [] X.env)
    | min => exact pe_callB (op_call1 ok.hu (ok.calm hh) .min) g1 (ok.blt (by decide)) bb_min pa_best g3 g2 (star1 ns [] X.env)
    | sum => exact pe_callB (op_call1 ok.hu (ok.calm hh) .sum) g1 (ok.blt (by decide)) bb_sum pa_best g3 g2 (star1 ns [] X.env)
    | int => exact pe_callTy (op_call1 ok.hu (ok.calm hh) .int) g1 (ok.blt (by decide)) bb_int pa_best g3 g2 (star1 ns [] X.env)
  refine PE.best pe ?_
  refine snd_arg1 ns ha q fun dx x H1 _ s1 r1 q1 => ?_
  cases hd : call1 f dx with
  | ok dd =>
    rw [hd] at q1
    refine ⟨B, x, dx, dd, rfl, nB.same s1, r1.top, hd, ?_⟩
    split
    · rename_i hf
      refine Fin.of (m := m) s1 fun v H' s r => q1 v H' s ⟨r.top, r.rd, fun z => ?_⟩
      rcases hf with rfl | rfl <;> cases z
    · exact FinL.of (m := m) (fr := f == .list || f == .sorted) s1 q1
  | ex x => exact absurd hd call1_noex
  | bad => rw [hd] at q1; exact q1.elim
theorem snd_mx2 (ok : XOk fa fd n ev X c) (hh : c.hot = false) (hg : glB c.sc "max" = true) (n1 : notStar a = true) (n2 : notStar b = true) (ha : SndM 0 X W a σ H B ra f1) (hb : ∀ H1, Same H H1 → SndM 0 X W b σ H1 B rb f2) : SndM m X W (.Call (.Name "max" p) [a, b] [] pos) σ H B
    (ra.bind fun x => rb.bind fun y => (asInt x).bind fun i => (asInt y).bind fun j => .ok (.int (if j > i then j else i))) false := fun Q q => by
  obtain ⟨g1, g2, g3⟩ := ok.gl hg
  refine PE.best (pe_callB (call_max2 (ok.calm hh)) g1 (ok.blt (by decide)) bb_max (pa_cons pe_best (pa_cons pe_best pa_nil (star1 n2 [] X.env)) (star1 n1 [b] X.env)) g3 g2 (star1 n1 [b] X.env) (anyStar (es := [b]) (by rw [List.all_cons, n2]; rfl))) ?_
  refine ha.thn q fun dx x H1 _ s1 r1 q1 => (hb H1 s1).thn q1 fun dy y H2 _ s2 r2 q2 => ?_
  cases dx with
  | int i =>
    cases dy with
    | int j => exact ⟨i, j, by rw [r1.top.int_of, r2.top.int_of], q2 _ _ (s1.trans s2) (VR.of (.int _) fun z => nomatch z)⟩
    | _ => exact q2.elim
  | _ => exact q2.elim
theorem snd_mn2 (ok : XOk fa fd n ev X c) (hh : c.hot = false) (hg : glB c.sc "min" = true) (n1 : notStar a = true) (n2 : notStar b = true) (ha : SndM 0 X W a σ H B ra f1) (hb : ∀ H1, Same H H1 → SndM 0 X W b σ H1 B rb f2) : SndM m X W (.Call (.Name "min" p) [a, b] [] pos) σ H B
    (ra.bind fun x => rb.bind fun y => (asInt x).bind fun i => (asInt y).bind fun j => .ok (.int (if j < i then j else i))) false := fun Q q => by
  obtain ⟨g1, g2, g3⟩ := ok.gl hg
  refine PE.best (pe_callB (call_min2 (ok.calm hh)) g1 (ok.blt (by decide)) bb_min (pa_cons pe_best (pa_cons pe_best pa_nil (star1 n2 [] X.env)) (star1 n1 [b] X.env)) g3 g2 (star1 n1 [b] X.env) (anyStar (es := [b]) (by rw [List.all_cons, n2]; rfl))) ?_
  refine ha.thn q fun dx x H1 _ s1 r1 q1 => (hb H1 s1).thn q1 fun dy y H2 _ s2 r2 q2 => ?_
  cases dx with
  | int i =>
    cases dy with
    | int j => exact ⟨i, j, by rw [r1.top.int_of, r2.top.int_of], q2 _ _ (s1.trans s2) (VR.of (.int _) fun z => nomatch z)⟩
    | _ => exact q2.elim
  | _ => exact q2.elim

/-! ### isinstance -/
def tyVal : Ty → String
  | .int => "int" | .bool => "bool" | .str => "str" | .tuple => "tuple" | .list => "list" | .dict => "dict"
theorem call_isa (t : Ty) : CallR X (.builtin "isinstance") (fun xs H Q => ∃ B x d, xs = [x, .ty (tyVal t)] ∧ TopD B H x d ∧ d.plain = true ∧ Q (.bl (isTy t d)) H) := by
  intro pins s σ H xs us Q I rx h
  obtain ⟨B, x, d, rfl, hx, hp, q⟩ := h
  obtain ⟨u, w', rfl, r1, r2⟩ := vals2 rx
  obtain rfl : w' = .type (tyVal t) := r2
  obtain ⟨as, hr⟩ := reads_of I hx hp r1
  have fin : ∀ {k : Bool}, k = isTy t d → ∀ tk, s.toks ≤ tk → EP X pins σ Q (.bool k) { s with toks := tk } := fun {k} e tk _ => ⟨.bl k, H, I.tok tk, rfl, by rw [e]; exact q⟩
  cases t with
  | int => exact W.isinstance_int_data hr (fin (by cases d <;> rfl))
  | bool => exact W.isinstance_bool_data hr (fin (by cases d <;> rfl))
  | str => exact W.isinstance_str_data hr (fin (by cases d <;> rfl))
  | tuple => exact W.isinstance_tuple_data hr (fin (by cases d <;> rfl))
  | list => exact W.isinstance_list_data hr (fin (by cases d <;> rfl))
  | dict => exact W.isinstance_dict_data hr (fin (by cases d <;> rfl))
theorem snd_isa (ok : XOk fa fd n ev X c) {t : Ty} {p2 : Pos} (hg : glB c.sc "isinstance" = true) (hg2 : glB c.sc (tyName t) = true) (n1 : notStar a = true) (ha : SndM 1 X W a σ H B ra f1) : SndM m X W (.Call (.Name "isinstance" p) [a, .Name (tyName t) p2] [] pos) σ H B
    (ra.bind fun x => if x.plain = true then .ok (.bool (isTy t x)) else .bad) false := fun Q q => by
  obtain ⟨g1, g2, g3⟩ := ok.gl hg
  obtain ⟨k1, k2, k3⟩ := ok.gl hg2
  have pt : PE X (.Name (tyName t) p2) (tC (.ty (tyVal t))) := by
    cases t with
    | int => exact pe_bltn k1 (ok.blt (by decide)) bb_int rfl k3 k2
    | bool => exact pe_bltn k1 (ok.blt (by decide)) bb_bool rfl k3 k2
    | str => exact pe_bltn k1 (ok.blt (by decide)) bb_str rfl k3 k2
    | tuple => exact pe_bltn k1 (ok.blt (by decide)) bb_tuple rfl k3 k2
    | list => exact pe_bltn k1 (ok.blt (by decide)) bb_list rfl k3 k2
    | dict => exact pe_bltn k1 (ok.blt (by decide)) bb_dict rfl k3 k2
  refine PE.best (pe_callB (call_isa t) g1 (ok.blt (by decide)) bb_isinstance (pa_cons pe_best (pa_cons pt pa_nil rfl) (star1 n1 _ X.env)) g3 g2 (star1 n1 _ X.env) rfl) ?_
  refine ha.thn q fun dx x H1 _ s1 r1 q1 => ?_
  have q2 : Ct X.mg W σ H1 B (if dx.plain = true then (R.ok (PyData.bool (isTy t dx)) : R D) else .bad) _ := q1
  split at q2
  · rename_i hp
    exact ⟨B, x, dx, rfl, r1.top, hp, q2 _ _ s1 (VR.of (.bl _) fun z => nomatch z)⟩
  · exact q2.elim

/-! ### d.get(k, x), t.index(x) -/
theorem baseOk (h : ∀ f p1 ks p2, a ≠ .Call f p1 ks p2) (mt : Str) : attributeBase a mt X.env (eval a X.env) = eval a X.env := by
  cases a <;> first | rfl | exact absurd rfl (h _ _ _ _)
theorem snd_get2 (ok : XOk fa fd n ev X c) (hh : c.hot = false) {ap : Pos} (hbase : attributeBase a "get" X.env (eval a X.env) = eval a X.env) (hl : (ap.endLine == pos.line) = true) (n1 : notStar b = true) (n2 : notStar d = true) (ha : SndM 1 X W a σ H B ra f1) (hb : ∀ H1, Same H H1 → SndM 0 X W b σ H1 B rb f2) (hc : ∀ H1, Same H H1 → SndM 0 X W d σ H1 B rc f3) :
    SndM m X W (.Call (.Attribute a "get" ap) [b, d] [] pos) σ H B (ra.bind fun y => match y with
      | .dict kvs => rb.bind fun z => rc.bind fun w => if tkey z = true then .ok ((dget kvs z).getD w) else .bad
      | _ => .bad) false := fun Q q => by
  have m2 : M2 X a "get" ap b d pos := ⟨hbase, by rw [star1 n1, star1 n2]; rfl, hl, by rw [star1 n1, star1 n2]; rfl⟩
  refine PE.best (pe_dget2 (hu_of (ok.room hh)) pe_best pe_best pe_best m2) ?_
  refine ha.thn q fun dx x H1 _ s1 r1 q1 => ?_
  cases dx with
  | dict kvs =>
    obtain ⟨p0, ks, rfl, hr, rt⟩ := r1.top.dT_of
    refine ⟨p0, rfl, .inr ⟨ks, hr⟩, (hb H1 s1).thn q1 fun dy y H2 _ s2 r2 q2 => (hc H2 (s1.trans s2)).thn q2 fun dz z H3 _ s3 r3 q3 => ?_⟩
    have q4 : Ct X.mg W σ H3 B (if tkey dy = true then (R.ok ((dget kvs dy).getD dz) : R D) else .bad) _ := q3
    split at q4
    · rename_i ht
      rcases dget_of (Same.rd (s2.trans s3) hr) (RDt.mv (.same (s2.trans s3)) rt) ((r2.rd rfl).mv (.same s3)) ht with ⟨g, e1⟩ | ⟨w, e2, g, e1, r⟩
      · rw [e1] at q4
        exact ⟨none, g, q4 _ _ ((s1.trans s2).trans s3) (VR.of (r3.rd rfl) fun z => nomatch z)⟩
      · rw [e1] at q4
        exact ⟨some w, g, q4 _ _ ((s1.trans s2).trans s3) (VR.of r fun z => nomatch z)⟩
    · exact q4.elim
  | _ => exact q1.elim
end
end PV
end
section
set_option Elab.async false
set_option linter.all false
set_option maxRecDepth 100000
set_option maxHeartbeats 4000000
/-! PV10: what is walked; comprehensions. -/
namespace PV
open PySem PySem.Spec PyProof.Rows L2

/-! ### t.index(x) -/
theorem findEq_idx {z : D} : ∀ {xs : List D} {k : Nat}, findEq xs z = some k → (xs.map fun y => PyData.eqv y z).idxOf true = k ∧ true ∈ xs.map fun y => PyData.eqv y z
  | [], k, h => nomatch h
  | y :: ys, k, h => by
    have h' : (if PyData.eqv y z = true then some 0 else (findEq ys z).map (· + 1)) = some k := h
    rw [List.map_cons]
    split at h'
    · rename_i e
      cases h'
      rw [e]
      exact ⟨List.idxOf_cons_self, List.mem_cons_self⟩
    · rename_i e
      cases h2 : findEq ys z with
      | none => rw [h2] at h'; cases h'
      | some j =>
        rw [h2] at h'
        cases h'
        obtain ⟨a, b⟩ := findEq_idx h2
        have e' : PyData.eqv y z = false := by simpa using e
        rw [e']
        exact ⟨by rw [List.idxOf_cons]; simp [a], List.mem_cons_of_mem _ b⟩
def tyTup (x : V) (H : Hp) : Prop := ∃ (p : Addr) (o : Obj) (xs : List V), x = .ref p ∧ H p = some (.frz o (.tup xs)) ∧ o.dict = none
section
variable {fa : Nat → Addr} {fd : Nat → FuncData} {n : Nat} {ev : Nat → List D → R D} {X : Cx} {c : SC} {m : Nat} {W : WX} {σ : L2.St} {H : Hp} {B : Addr → Prop} {fr f1 f2 f3 : Bool} {ra rb rc : R D} {a b d l r : Expr} {pos p : Pos}
theorem ty_tup : TyOk X "tuple" tyTup := by
  intro pins σ H s x v I r ty
  obtain ⟨p, o, xs, rfl, h, hd⟩ := ty
  cases r
  obtain ⟨e, _, its, _, o', e', hc, _⟩ := I.hok p _ h
  rw [e] at e'
  cases e'
  refine ⟨⟨o, e, hc⟩, fun b z => ?_⟩
  cases z
  exact ⟨o, e, hd⟩
def rIndex : V → List V → Hp → VK → Prop := fun x zs H Q => ∃ B xs z dz k, zs = [z] ∧ TopD B H x (.tuple xs) ∧ TopD B H z dz ∧ PyData.plainAll xs = true ∧ PyData.depthAll xs ≤ 60 ∧ fit dz = true ∧ findEq xs dz = some k ∧ Q (.int k) H
theorem eqs_at : ∀ {xs : List D} {us : List Value} {as : List Addr} {z : D} {v : Value} {bs : List Addr} {A : Around} {s : Shared}, ReadsAll s.heap us xs as → Reads s.heap v z bs → PyData.plainAll xs = true → z.plain = true → A.units + z.depth < cLine →
    us.length = (xs.map fun y => PyData.eqv y z).length ∧ ∀ j (h1 : j < us.length) (h2 : j < (xs.map fun y => PyData.eqv y z).length), SeqAt.EqAt A s us[j] v (decide ((xs.map fun y => PyData.eqv y z)[j] = true))
  | [], _, _, z, v, bs, A, s, r, _, _, _, _ => by cases r; exact ⟨rfl, fun j h => absurd h (Nat.not_lt_zero _)⟩
  | x :: xs, _, _, z, v, bs, A, s, r, rv, p, pz, hu => by
    have p' : x.plain = true ∧ PyData.plainAll xs = true := by simpa [PyData.plainAll] using p
    cases r with
    | cons r1 r2 =>
      obtain ⟨h1, h2⟩ := eqs_at r2 rv p'.2 pz hu
      refine ⟨by rw [List.length_cons, h1]; simp, fun j a b => ?_⟩
      cases j with
      | zero =>
        have := SeqAt.eqAt_plain x z A s _ v _ _ r1 rv p'.1 pz (by have := Nat.min_le_right x.depth z.depth; omega)
        simpa using this
      | succ j => exact h2 j (by simpa using a) (by simpa using b)
theorem mt_index (hu : X.A.units + 66 < cLine) : MtR X "tuple.index" rIndex := by
  intro pins s σ H x zs v us Q I rx rz h
  obtain ⟨B, xs, z, dz, k, rfl, hx, hz, p1, p2, p3, p4, q⟩ := h
  obtain ⟨u, rfl, ru⟩ := vals1 rz
  obtain ⟨a, vs, rfl, ha, rs⟩ := hx.tup_of
  cases rx
  obtain ⟨its, rv, pt, _⟩ := I.tuple (show SqT X.K H a vs from .inl ha.rd)
  obtain ⟨as, r1⟩ := readsAll_of I rs p1 rv
  obtain ⟨bs, r2⟩ := reads_of I hz (fit_plain p3) ru
  obtain ⟨e1, e2⟩ := findEq_idx p4
  have hd := fit_depth p3
  refine SeqAt.call_tuple_index (vs := its) (ks := xs.map fun y => PyData.eqv y dz) (k := true) pt (eqs_at r1 r2 p1 (fit_plain p3) (by show X.A.units + 1 + _ < _; omega)) e2 ?_
  rw [e1]
  exact ⟨.int k, H, I.tok _, ⟨_, rfl⟩, q⟩
theorem snd_index (ok : XOk fa fd n ev X c) {ap : Pos} (hbase : attributeBase a "index" X.env (eval a X.env) = eval a X.env) (hl : (ap.endLine == pos.line) = true) (n1 : notStar b = true) (ha : SndM 1 X W a σ H B ra f1) (hb : ∀ H1, Same H H1 → SndM 0 X W b σ H1 B rb f2) :
    SndM m X W (.Call (.Attribute a "index" ap) [b] [] pos) σ H B (ra.bind fun y => match y with
      | .tuple xs => if xs.all flatKey = true then .bad else rb.bind fun z => if fitAll xs = true ∧ fit z = true then (match findEq xs z with
        | some k => .ok (.int k)
        | none => .bad) else .bad
      | _ => .bad) false := fun Q q => by
  refine PE.best (pe_mG (T := "tuple") (ty := tyTup) ty_tup F.plainAttrs_tuple F.slot_tuple_index F.type_tuple_index (mt_index ok.hu) pe_best (pa_cons pe_best pa_nil (star1 n1 [] X.env)) hbase (by rw [star1 n1]; rfl) hl (star1 n1 [] X.env) rfl) ?_
  refine ha.thn q fun dx x H1 _ s1 r1 q1 => ?_
  cases dx with
  | tuple xs =>
    obtain ⟨p0, vs, rfl, ht, rs⟩ := r1.top.tup_of
    have q1' : Ct X.mg W σ H1 B (if xs.all flatKey = true then (R.bad : R D) else rb.bind fun z => if fitAll xs = true ∧ fit z = true then (match findEq xs z with
        | some k => .ok (.int k)
        | none => .bad) else .bad) _ := q1
    split at q1'
    · exact q1'.elim
    · rename_i hf
      rcases ht with ⟨f, _⟩ | ⟨_, o, hd, h⟩
      · exact absurd f hf
      · refine ⟨⟨p0, o, vs, rfl, h, hd⟩, (hb H1 s1).thn q1' fun dy y H2 _ s2 r2 q2 => ?_⟩
        have q3 : Ct X.mg W σ H2 B (if fitAll xs = true ∧ fit dy = true then (match findEq xs dy with
          | some k => R.ok (PyData.int k)
          | none => .bad) else .bad) _ := q2
        split at q3
        · rename_i hc
          cases he : findEq xs dy with
          | none => rw [he] at q3; exact q3.elim
          | some k =>
            rw [he] at q3
            exact ⟨B, xs, y, dy, k, rfl, r1.top.mvs s2, r2.top, fitAll_plain hc.1, fitAll_depth hc.1, hc.2, he, q3 _ _ (s1.trans s2) (VR.of (.int _) fun z => nomatch z)⟩
        · exact q3.elim
  | _ => exact q1.elim
end
end PV
end
section
set_option Elab.async false
set_option linter.all false
set_option maxRecDepth 100000
set_option maxHeartbeats 4000000
/-! PV11: what is walked; comprehensions. -/
namespace PV
open PySem PySem.Spec PyProof.Rows L2
def bestI (X : Cx) (tg e : Expr) : TI := fun σ H R => ∀ pins s, L2.Inv X pins σ H s → wpAny (model X.prog X.w) X.A (eval e X.env) (fun v s1 => wpAny (model X.prog X.w) X.A (pyIter v) (PIE X pins σ tg R) X.xe s1) X.xe s
theorem pi_best {X : Cx} {tg e : Expr} : PI X tg e (bestI X tg e) := ⟨fun pins s σ H R I h => h pins s I⟩
theorem PI.best {X : Cx} {tg e : Expr} {t : TI} (h : PI X tg e t) {σ : L2.St} {H : Hp} {R : It → Hp → Prop} (q : t σ H R) : bestI X tg e σ H R := fun pins s I => h.run pins s σ H R I q
/-- where what is walked must still stand: the heap has grown | whatever is no longer in B is kept -/
def Stays (lp : Bool) (B : Addr → Prop) (H : Hp) (B2 : Addr → Prop) (H2 : Hp) : Prop := Mv B B2 H H2 ∧ (lp = false → Same H H2)
/-- J yields just xs -/
def ItG (lp : Bool) (B : Addr → Prop) (H : Hp) (J : It) (xs : List D) : Prop := ∀ B2 H2, Stays lp B H B2 H2 → ∀ i, (i < xs.length → J.go i H2 ∧ ∀ x H', J.yld i H2 x H' → H' = H2 ∧ ∃ d, xs[i]? = some d ∧ RD B2 H2 x d) ∧ (xs.length ≤ i → J.stop i H2)
def SndI (lp : Bool) (X : Cx) (W : WX) (tg e : Expr) (σ : L2.St) (H : Hp) (B : Addr → Prop) (r : R (List D)) : Prop :=
  ∀ R : It → Hp → Prop, Ct X.mg W σ H B r (fun xs => ∀ J H', xs.length ≤ sizeLine → Same H H' → ItG lp B H' J xs → R J H') → bestI X tg e σ H R
theorem FinL.wk {B : Addr → Prop} {H : Hp} {d : D} {Q : VK} (h : FinL B H d Q) {v : V} {H' : Hp} (s : Same H H') (r : RD B H' v d) (n : isL d = true → New1 B H H' v d) : Q v H' := h v H' s r n

section
variable {fa : Nat → Addr} {fd : Nat → FuncData} {n : Nat} {ev : Nat → List D → R D} {X : Cx} {c : SC} {m : Nat} {W : WX} {σ : L2.St} {H : Hp} {B : Addr → Prop} {fr f1 f2 f3 : Bool} {ra rb rc : R D} {a b d l r : Expr} {pos p : Pos} {tg : Expr}
theorem it_list {lp : Bool} {p0 : Addr} {vs : List V} {ds : List D} (h : Rd H p0 (.lst vs)) (hp : lp = false ∨ ¬ B p0) (rs : RDs B H vs ds) : ItG lp B H (Itl X.K p0) ds := fun B2 H2 st i => by
  have h2 : Rd H2 p0 (.lst vs) := by
    rcases hp with e | nb
    · exact Same.rd (st.2 e) h
    · exact st.1.rd _ _ trivial h nb
  have rs2 : RDs B2 H2 vs ds := RDs.mv st.1 rs
  have hl := rs2.length
  refine ⟨fun hi => ?_, fun hi => ⟨vs, .inl h2, by omega⟩⟩
  obtain ⟨v, e1, e2⟩ := rs2.get (List.getElem?_eq_getElem hi)
  refine ⟨⟨vs, v, .inl h2, e1⟩, fun x H' hy => ?_⟩
  obtain ⟨rfl, hy⟩ := hy
  have := hy vs (.inl h2)
  rw [e1] at this
  cases this
  exact ⟨rfl, _, List.getElem?_eq_getElem hi, e2⟩
theorem it_tup {lp : Bool} {p0 : Addr} {vs : List V} {ds : List D} (h : TupAt H p0 ds vs) (rs : RDs B H vs ds) : ItG lp B H (Itt X.K p0) ds := fun B2 H2 st i => by
  have h2 : Rd H2 p0 (.tup vs) := (h.mv st.1).rd
  have rs2 : RDs B2 H2 vs ds := RDs.mv st.1 rs
  have hl := rs2.length
  refine ⟨fun hi => ?_, fun hi => ⟨vs, .inl h2, by omega⟩⟩
  obtain ⟨v, e1, e2⟩ := rs2.get (List.getElem?_eq_getElem hi)
  refine ⟨⟨vs, v, .inl h2, e1⟩, fun x H' hy => ?_⟩
  obtain ⟨rfl, hy⟩ := hy
  have := hy vs (.inl h2)
  rw [e1] at this
  cases this
  exact ⟨rfl, _, List.getElem?_eq_getElem hi, e2⟩
theorem pyIter_lst {pins : List (Addr × Obj)} {s : Shared} {p0 : Addr} {vs : List V} {R : It → Hp → Prop} {E : Value → Shared → Prop} (I : L2.Inv X pins σ H s) (h : Rd H p0 (.lst vs)) (q : R (Itl X.K p0) H) : wpAny (model X.prog X.w) X.A (pyIter (.ref p0)) (PIE X pins σ tg R) E s := by
  obtain ⟨its, rv, p, hz⟩ := I.list (show SqL X.K H p0 vs from .inl h)
  refine wpAny_pyIter_list p.isList ?_
  refine ⟨s.heap.objs.size, [s.heap.objs.size], _, _, H, rfl, I.kept (t' := s.toks) fun b o e => Heap.get?_push_of_some _ e, turn_list p0 _, ⟨_, Heap.get?_push_size _ rfl, rfl, rfl⟩, fun b hb => ?_, q⟩
  have e : b = s.heap.objs.size := by simpa using hb
  subst e
  exact I.fpOk (Nat.le_refl _) (I.hok.fresh (Nat.le_refl _))
theorem pyIter_tup {pins : List (Addr × Obj)} {s : Shared} {p0 : Addr} {vs : List V} {R : It → Hp → Prop} {E : Value → Shared → Prop} (I : L2.Inv X pins σ H s) (h : Rd H p0 (.tup vs)) (q : R (Itt X.K p0) H) : wpAny (model X.prog X.w) X.A (pyIter (.ref p0)) (PIE X pins σ tg R) E s := by
  obtain ⟨its, rv, p, hz⟩ := I.tuple (show SqT X.K H p0 vs from .inl h)
  refine wpAny_pyIter_tuple (show s.heap.IsTuple p0 its.toArray from p) ?_
  refine ⟨s.heap.objs.size, [s.heap.objs.size], _, _, H, rfl, I.kept (t' := s.toks) fun b o e => Heap.get?_push_of_some _ e, turn_tuple p0 _, ⟨_, Heap.get?_push_size _ rfl, rfl, rfl⟩, fun b hb => ?_, q⟩
  have e : b = s.heap.objs.size := by simpa using hb
  subst e
  exact I.fpOk (Nat.le_refl _) (I.hok.fresh (Nat.le_refl _))
theorem rd_len {pins : List (Addr × Obj)} {s : Shared} (I : L2.Inv X pins σ H s) {p0 : Addr} {vs : List V} (h : Rd H p0 (.lst vs) ∨ Rd H p0 (.tup vs)) : vs.length ≤ sizeLine := by
  rcases h with h | h
  · obtain ⟨its, rv, p, hz⟩ := I.list (show SqL X.K H p0 vs from .inl h)
    exact hz
  · obtain ⟨its, rv, p, hz⟩ := I.tuple (show SqT X.K H p0 vs from .inl h)
    exact hz
/-- a list or tuple by its value -/
theorem sndI_val {lp : Bool} (ha : SndM (if lp then 0 else 1) X W a σ H B ra fr) : SndI lp X W tg a σ H B (ra.bind items) := fun Rq q pins s I => by
  refine thn (ha.thn q (Q := fun v H1 => ∃ d xs fr, Same H H1 ∧ VR (if lp then 0 else 1) B H H1 v d fr ∧ items d = .ok xs ∧ (∀ J H', xs.length ≤ sizeLine → Same H H' → ItG lp B H' J xs → Rq J H')) (fun dx x H1 e s1 r1 q1 => ?_) pins s I) fun u s1 ⟨v, H1, I1, rv, dx, xs, fr, sm, r1, hi, q1⟩ => ?_
  · cases hd : items dx with
    | ok xs => rw [hd] at q1; exact ⟨dx, xs, fr, s1, r1, hd, q1⟩
    | ex y => cases dx <;> cases hd
    | bad => rw [hd] at q1; exact q1.elim
  · cases dx with
    | tuple ds =>
      cases hi
      obtain ⟨p0, vs, rfl, ht, rs⟩ := r1.top.tup_of
      cases rv
      exact pyIter_tup I1 ht.rd (q1 _ _ (by rw [← rs.length]; exact rd_len I1 (.inr ht.rd)) sm (it_tup ht rs))
    | list ds =>
      cases hi
      cases lp with
      | false =>
        obtain ⟨p0, vs, rfl, hr, rs⟩ := r1.top.lst_of
        cases rv
        exact pyIter_lst I1 hr (q1 _ _ (by rw [← rs.length]; exact rd_len I1 (.inl hr)) sm (it_list hr (.inl rfl) rs))
      | true =>
        have hrd := r1.rd rfl
        cases hrd with
        | lst nb hr rs =>
          cases rv
          exact pyIter_lst I1 hr (q1 _ _ (by rw [← rs.length]; exact rd_len I1 (.inl hr)) sm (it_list hr (.inr nb) rs))
    | _ => cases hi
/-! ### ranges -/
theorem it_rng {lp : Bool} {lo : Int} {k : Nat} : ItG lp B H (Itr lo k) (rngD lo k 1) := fun B2 H2 st i => by
  unfold rngD
  refine ⟨fun hi => ?_, fun hi => ?_⟩
  · have hi' : i < k := by simpa using hi
    refine ⟨hi', fun x H' hy => ?_⟩
    obtain ⟨rfl, rfl⟩ := hy
    refine ⟨rfl, .int (lo + i), ?_, .int _⟩
    rw [List.getElem?_map, List.getElem?_range hi']
    simp
  · show k ≤ i
    simpa using hi
theorem it_rngC {lp : Bool} {lo c : Int} {k : Nat} : ItG lp B H (Itc lo c k) (rngD lo k c) := fun B2 H2 st i => by
  unfold rngD
  refine ⟨fun hi => ?_, fun hi => ?_⟩
  · have hi' : i < k := by simpa using hi
    refine ⟨hi', fun x H' hy => ?_⟩
    obtain ⟨rfl, rfl⟩ := hy
    refine ⟨rfl, .int (lo + i * c), ?_, .int _⟩
    rw [List.getElem?_map, List.getElem?_range hi']
    simp
  · show k ≤ i
    simpa using hi
theorem rngD_len (lo : Int) (k : Nat) (c : Int) : (rngD lo k c).length = k := by unfold rngD; simp
theorem rangeSize_turns {i j k : Int} (h : 0 < k) : Builtin.Range.rangeSize i j k = (turns i j k : Nat) := by
  unfold Builtin.Range.rangeSize turns
  rw [if_pos h]
  have e : (j - i + k - 1) / k = (j - i - 1) / k + 1 := by
    rw [show j - i + k - 1 = (j - i - 1) + 1 * k by omega, Int.add_mul_ediv_right _ _ (by omega)]
  rw [e]
  split
  · have : 0 ≤ (j - i - 1) / k := Int.ediv_nonneg (by omega) (by omega)
    omega
  · have h1 : (j - i - 1) / k < 0 := Int.ediv_neg_of_neg_of_pos (by omega) h
    omega
theorem small_pos {i j k : Int} (h : 0 < k) (h1 : -(2 ^ 22) < i ∧ i < 2 ^ 22) (h2 : -(2 ^ 22) < j ∧ j < 2 ^ 22) (h3 : -(2 ^ 22) < k ∧ k < 2 ^ 22) (ht : turns i j k ≤ 2 ^ 23) : Builtin.Range.small i j k = true := by
  unfold Builtin.Range.small
  rw [rangeSize_turns h]
  simp only [Builtin.Range.rangeFitsLong, Bool.and_eq_true, Bool.or_eq_true, decide_eq_true_eq, beq_iff_eq, gt_iff_lt, if_pos h]
  omega
theorem inR_of {i : Int} (h : inR i = true) : -(2 ^ 22) < i ∧ i < 2 ^ 22 := of_decide_eq_true h
theorem sndI_rng1 {lp : Bool} (ok : XOk fa fd n ev X c) (hg : glB c.sc "range" = true) (n1 : notStar a = true) (ha : SndM 0 X W a σ H B ra f1) :
    SndI lp X W tg (.Call (.Name "range" p) [a] [] pos) σ H B ((ra.bind fun x => (asInt x).bind fun j => if inR j = true then .ok (.list (rngD 0 j.toNat 1)) else .bad).bind items) := fun Rq q => by
  obtain ⟨g1, g2, g3⟩ := ok.gl hg
  refine PI.best (pi_range1 g1 (ok.blt (by decide)) (pa_cons pe_best pa_nil (star1 n1 [] X.env)) (star1 n1 [] X.env)) ?_
  refine ha.thn q.bind fun dx x H1 _ s1 r1 q1 => ?_
  cases dx with
  | int j =>
    have q2 : Ct X.mg W σ H1 B (if inR j = true then R.ok (.list (rngD 0 j.toNat 1)) else .bad : R D) _ := q1
    split at q2
    · rename_i h
      obtain ⟨h1, h2⟩ := inR_of h
      refine ⟨j, by rw [r1.top.int_of], by omega, by omega, q2 _ _ ?_ s1 it_rng⟩
      rw [rngD_len, sizeLine_eq]; omega
    · exact q2.elim
  | _ => exact q1.elim
theorem sndI_rng2 {lp : Bool} (ok : XOk fa fd n ev X c) (hg : glB c.sc "range" = true) (n1 : notStar a = true) (n2 : notStar b = true) (ha : SndM 0 X W a σ H B ra f1) (hb : ∀ H1, Same H H1 → SndM 0 X W b σ H1 B rb f2) :
    SndI lp X W tg (.Call (.Name "range" p) [a, b] [] pos) σ H B ((ra.bind fun x => rb.bind fun y => (asInt x).bind fun i => (asInt y).bind fun j => if inR i = true ∧ inR j = true then .ok (.list (rngD i (j - i).toNat 1)) else .bad).bind items) := fun Rq q => by
  obtain ⟨g1, g2, g3⟩ := ok.gl hg
  refine PI.best (pi_range2 g1 (ok.blt (by decide)) (pa_cons pe_best (pa_cons pe_best pa_nil (star1 n2 [] X.env)) (star1 n1 [b] X.env)) (by rw [star1 n1, star1 n2]; rfl) (by rw [star1 n2]; rfl)) ?_
  refine ha.thn q.bind fun dx x H1 _ s1 r1 q1 => (hb H1 s1).thn q1 fun dy y H2 _ s2 r2 q2 => ?_
  cases dx with
  | int i =>
    cases dy with
    | int j =>
      have q3 : Ct X.mg W σ H2 B (if inR i = true ∧ inR j = true then R.ok (.list (rngD i (j - i).toNat 1)) else .bad : R D) _ := q2
      split at q3
      · rename_i h
        obtain ⟨h1, h2⟩ := inR_of h.1
        obtain ⟨h3, h4⟩ := inR_of h.2
        refine ⟨i, j, by rw [r1.top.int_of, r2.top.int_of], ⟨by omega, by omega, by omega, by omega⟩, q3 _ _ ?_ (s1.trans s2) it_rng⟩
        rw [rngD_len, sizeLine_eq]; omega
      · exact q3.elim
    | _ => exact q2.elim
  | _ => exact q2.elim
theorem sndI_rng3 {lp : Bool} (ok : XOk fa fd n ev X c) (hg : glB c.sc "range" = true) (n1 : notStar a = true) (n2 : notStar b = true) (n3 : notStar d = true) (ha : SndM 0 X W a σ H B ra f1) (hb : ∀ H1, Same H H1 → SndM 0 X W b σ H1 B rb f2) (hc : ∀ H1, Same H H1 → SndM 0 X W d σ H1 B rc f3) :
    SndI lp X W tg (.Call (.Name "range" p) [a, b, d] [] pos) σ H B ((ra.bind fun x => rb.bind fun y => rc.bind fun z => (asInt x).bind fun i => (asInt y).bind fun j => (asInt z).bind fun k =>
      if inR i = true ∧ inR j = true ∧ inR k = true ∧ 0 < k then .ok (.list (rngD i (turns i j k) k)) else .bad).bind items) := fun Rq q => by
  obtain ⟨g1, g2, g3⟩ := ok.gl hg
  refine PI.best (pi_range3 g1 (ok.blt (by decide)) (pa_cons pe_best (pa_cons pe_best (pa_cons pe_best pa_nil (star1 n3 [] X.env)) (star1 n2 [d] X.env)) (star1 n1 [b, d] X.env)) (star1 n1 _ X.env) (anyStar (es := [b, d]) (by rw [List.all_cons, n2, List.all_cons, n3]; rfl))) ?_
  refine ha.thn q.bind fun dx x H1 _ s1 r1 q1 => (hb H1 s1).thn q1 fun dy y H2 _ s2 r2 q2 => (hc H2 (s1.trans s2)).thn q2 fun dz z H3 _ s3 r3 q3 => ?_
  cases dx with
  | int i =>
    cases dy with
    | int j =>
      cases dz with
      | int k =>
        have q4 : Ct X.mg W σ H3 B (if inR i = true ∧ inR j = true ∧ inR k = true ∧ 0 < k then R.ok (.list (rngD i (turns i j k) k)) else .bad : R D) _ := q3
        split at q4
        · rename_i h
          obtain ⟨h1, h2⟩ := inR_of h.1
          obtain ⟨h3, h4⟩ := inR_of h.2.1
          obtain ⟨h5, h6⟩ := inR_of h.2.2.1
          have h7 := h.2.2.2
          have hdiv : (j - i + k - 1) / k ≤ 2 ^ 23 ∨ (j - i + k - 1) / k ≤ 0 := by
            by_cases hs : j - i ≤ 0
            · right
              have : (j - i + k - 1) < k := by omega
              have := Int.ediv_lt_of_lt_mul h7 (show j - i + k - 1 < 1 * k by omega)
              omega
            · left
              have : (j - i + k - 1) / k ≤ j - i := by
                have h0 : (j - i + k - 1) / k < j - i + 1 := by
                  refine Int.ediv_lt_of_lt_mul h7 ?_
                  have : (j - i) * 1 ≤ (j - i) * k := Int.mul_le_mul_of_nonneg_left (by omega) (by omega)
                  rw [Int.add_mul]; omega
                omega
              omega
          have ht : turns i j k ≤ 2 ^ 23 := by unfold turns; omega
          refine ⟨i, j, k, turns i j k, by rw [r1.top.int_of, r2.top.int_of, r3.top.int_of], ⟨by omega, by omega, ?_, ?_⟩, q4 _ _ ?_ ((s1.trans s2).trans s3) it_rngC⟩
          · exact small_pos h7 ⟨h1, h2⟩ ⟨h3, h4⟩ ⟨h5, h6⟩ ht
          · exact rangeSize_turns h7
          · rw [rngD_len, sizeLine_eq]; omega
        · exact q4.elim
      | _ => exact q3.elim
    | _ => cases dz <;> exact q3.elim
  | _ => cases dy <;> cases dz <;> exact q3.elim
end
end PV
end
section
set_option Elab.async false
set_option linter.all false
set_option maxRecDepth 100000
set_option maxHeartbeats 4000000
/-! PV12: comprehensions. -/
namespace PV
open PySem PySem.Spec PyProof.Rows L2
theorem mapR_filter {f : D → R D} : ∀ xs : List D, mapR f xs = filterMapR (fun _ => .ok true) f xs
  | [] => rfl
  | x :: xs => by
    show (f x).bind _ = (R.ok true).bind _
    rw [mapR_filter xs]; rfl
theorem noEx_ne {α : Type} {r : R α} {x : D} : r.noEx ≠ .ex x := by cases r <;> exact fun z => nomatch z
theorem filterMapR_noex {c : D → R Bool} {f : D → R D} (hc : ∀ d x, c d ≠ .ex x) (hf : ∀ d x, f d ≠ .ex x) : ∀ (xs : List D) (x : D), filterMapR c f xs ≠ .ex x
  | [], _ => fun z => nomatch z
  | y :: xs, x => by
    have ih := filterMapR_noex hc hf xs
    show (c y).bind _ ≠ _
    cases e : c y with
    | ex z => exact absurd e (hc y z)
    | bad => exact fun z => nomatch z
    | ok b =>
      show (if b = true then _ else _) ≠ _
      split
      · cases e2 : f y with
        | ex z => exact absurd e2 (hf y z)
        | bad => exact fun z => nomatch z
        | ok v =>
          show (filterMapR c f xs).bind _ ≠ _
          cases e3 : filterMapR c f xs with
          | ex z => exact absurd e3 (ih z)
          | bad => exact fun z => nomatch z
          | ok ys => exact fun z => nomatch z
      · exact ih x
theorem filterMapR_len {c : D → R Bool} {f : D → R D} : ∀ {xs ys : List D}, filterMapR c f xs = .ok ys → ys.length ≤ xs.length
  | [], ys, h => by cases h; exact Nat.le_refl _
  | x :: xs, ys, h => by
    have h' : (c x).bind (fun b => if b = true then (f x).bind fun y => (filterMapR c f xs).bind fun ys => R.ok (y :: ys) else filterMapR c f xs) = .ok ys := h
    cases e : c x with
    | ex z => rw [e] at h'; cases h'
    | bad => rw [e] at h'; cases h'
    | ok b =>
      rw [e] at h'
      cases b with
      | false => exact Nat.le_succ_of_le (filterMapR_len (show filterMapR c f xs = .ok ys from h'))
      | true =>
        cases e2 : f x with
        | ex z => rw [e2] at h'; cases h'
        | bad => rw [e2] at h'; cases h'
        | ok v =>
          rw [e2] at h'
          cases e3 : filterMapR c f xs with
          | ex z => rw [e3] at h'; cases h'
          | bad => rw [e3] at h'; cases h'
          | ok zs =>
            rw [e3] at h'
            cases h'
            exact Nat.succ_le_succ (filterMapR_len e3)

def bestTs (X : Cx) (ifs : List Expr) : TT := fun σ H Q => ∀ pins s, L2.Inv X pins σ H s →
    wpAny (model X.prog X.w) X.A (forIn ifs true fun c r => if r = true then do let ok ← isTrue c X.env (eval c X.env); pure (ForInStep.yield ok) else pure (ForInStep.yield r)) (TP X pins σ Q) X.xe s
section
variable {X : Cx} {m : Nat} {W : WX} {σ : L2.St} {H : Hp} {B : Addr → Prop} {elt e : Expr} {ifs : List Expr} {pos px : Pos} {scope : Scope} {x : Str} {i : Nat} {cf : D → R Bool} {f : D → R D}
abbrev Blk (X : Cx) (scope : Scope) (s : Shared) (H : Hp) (C : Addr) (cl : List (Str × Addr)) (fp : List Addr) : Cx := X.blk s H scope (compEnvC scope cl C X.env) fp
def teB (X : Cx) (scope : Scope) (elt : Expr) : TE := fun σ H Q => ∀ s H0 C cl fp, bestE (Blk X scope s H0 C cl fp) elt σ H Q
def ttB (X : Cx) (scope : Scope) (ifs : List Expr) : TT := fun σ H Q => ∀ s H0 C cl fp, bestTs (Blk X scope s H0 C cl fp) ifs σ H Q
/-- what a turn's text does -/
structure TurnOk (X : Cx) (scope : Scope) (elt : Expr) (ifs : List Expr) (i : Nat) (σ : L2.St) (H : Hp) (B : Addr → Prop) (cf : D → R Bool) (f : D → R D) : Prop where
  ts : ∀ B2 H2 v d, Same H H2 → Mv B B2 H H2 → NoN B2 H2 → RD B2 H2 v d → ∀ b, cf d = .ok b → ∀ Q : Bool → Hp → Prop, (∀ H', Same H2 H' → Q b H') → ttB X scope ifs (σ.set i (some v)) H2 Q
  el : ∀ B2 H2 v d, Same H H2 → Mv B B2 H H2 → NoN B2 H2 → RD B2 H2 v d → ∀ y, f d = .ok y → ∀ Q : VK, (∀ u H', Same H2 H' → RD B2 H' u y → Q u H') → teB X scope elt (σ.set i (some v)) H2 Q

theorem wipe1 : (wipe σ [i]).set i (some v) = σ.set i (some v) := by
  show (σ.set i none).set i (some v) = _
  rw [List.set_set]
theorem wipe2 : wipe (σ.set i (some v)) [i] = wipe σ [i] := by
  show (σ.set i (some v)).set i none = σ.set i none
  rw [List.set_set]
/-- the loop of a comprehension -/
theorem lc_go {xs ys : List D} {Q : VK} (T : TurnOk X scope elt ifs i σ H B cf f) (hy : filterMapR cf f xs = .ok ys) (hz : xs.length ≤ sizeLine) (nB : NoN B H) {H1 : Hp} {J : It} (s1 : Same H H1) (hJ : ItG false B H1 J xs)
    (q : ∀ D0 H', H D0 = none → Same H H' → RD B H' (.ref D0) (.list ys) → OwnAt (fun b => B b ∨ b = D0) H' D0 (.list ys) → Q (.ref D0) H') :
    ∀ D0, H1 D0 = none → ∃ W : Nat → Nat → Hp → Prop, (∃ m, W 0 m (upd H1 D0 (.lst []))) ∧ ∀ k m H, W k m H →
    (J.stop k H ∧ Q (.ref D0) H) ∨ (J.go k H ∧ ∃ Nx : Hp → Prop, (∀ H', Nx H' → ∃ m', m' < m ∧ W (k + 1) m' H') ∧ ∀ x H', J.yld k H x H' → gName i x (wipe σ [i]) H' fun σ2 H2 => wipe σ2 [i] = wipe σ [i] ∧ ttB X scope ifs σ2 H2 fun b H3 =>
      if b = true then teB X scope elt σ2 H3 fun y H4 => ∃ acc, H4 D0 = some (.lst acc) ∧ acc.length < sizeLine ∧ Nx (upd H4 D0 (.lst (acc ++ [y]))) else Nx H3) := by
  intro D0 hD
  have nb : ¬ B D0 := (nB.same s1).fresh hD
  let BD : Addr → Prop := fun b => B b ∨ b = D0
  have mv1 : ∀ {H2 : Hp}, Same H1 H2 → Mv B BD H1 H2 := fun s => ⟨fun _ _ _ h _ => Same.rd s h, fun _ _ h => s _ _ h, fun _ _ _ h => s _ _ h, fun b hb h => by
    rcases hb with hb | rfl
    · exact hb
    · exact absurd hD h⟩
  have mvH : ∀ {H2 : Hp}, Same H1 H2 → Mv B BD H H2 := fun s => ⟨fun _ _ _ h _ => Same.rd (s1.trans s) h, fun _ _ h => (s1.trans s) _ _ h, fun _ _ _ h => (s1.trans s) _ _ h, fun b hb h => by
    rcases hb with hb | rfl
    · exact hb
    · exact absurd (s1.free hD) h⟩
  have non : ∀ {H2 : Hp}, Same H1 H2 → H2 D0 ≠ none → NoN BD H2 := fun s h b hb => by
    rcases hb with hb | rfl
    · exact ((nB.same s1).same s) b hb
    · exact h
  refine ⟨fun k m H2 => m = xs.length - k ∧ k ≤ xs.length ∧ Same H1 H2 ∧ ∃ acc done rest, H2 D0 = some (.lst acc) ∧ RDs BD H2 acc done ∧ done.length ≤ k ∧ filterMapR cf f (xs.drop k) = .ok rest ∧ ys = done ++ rest,
    ⟨xs.length, rfl, Nat.zero_le _, same_upd hD, [], [], ys, upd_same, .nil, Nat.le_refl _, by simpa using hy, rfl⟩, ?_⟩
  rintro k m H2 ⟨rfl, hk, sm, acc, done, rest, hacc, hrd, hdl, hrest, hys⟩
  have st : Stays false B H1 BD H2 := ⟨mv1 sm, fun _ => sm⟩
  by_cases hlt : k < xs.length
  · obtain ⟨hgo, hyl⟩ := (hJ BD H2 st k).1 hlt
    refine .inr ⟨hgo, fun H3 => k < xs.length ∧ Same H1 H3 ∧ ∃ acc done rest, H3 D0 = some (.lst acc) ∧ RDs BD H3 acc done ∧ done.length ≤ k + 1 ∧ filterMapR cf f (xs.drop (k + 1)) = .ok rest ∧ ys = done ++ rest, fun H3 ⟨h1, h2, h3⟩ => ⟨xs.length - (k + 1), by omega, rfl, by omega, h2, h3⟩, fun v H3 hyy => ?_⟩
    obtain ⟨rfl, d, hd, hv⟩ := hyl v H3 hyy
    have nonB := non sm (by rw [hacc]; exact fun z => nomatch z)
    show wipe _ _ = _ ∧ _
    rw [wipe1]
    refine ⟨wipe2, ?_⟩
    have hdrop : xs.drop k = d :: xs.drop (k + 1) := by
      rw [List.drop_eq_getElem_cons hlt]
      have := List.getElem?_eq_getElem hlt
      rw [hd] at this
      cases this
      rfl
    rw [hdrop] at hrest
    have hr2 : (cf d).bind (fun b => if b = true then (f d).bind fun y => (filterMapR cf f (xs.drop (k + 1))).bind fun ys => R.ok (y :: ys) else filterMapR cf f (xs.drop (k + 1))) = .ok rest := hrest
    cases hc : cf d with
    | ex z => rw [hc] at hr2; cases hr2
    | bad => rw [hc] at hr2; cases hr2
    | ok b =>
      rw [hc] at hr2
      refine T.ts BD H3 v d (s1.trans sm) (mvH sm) nonB hv b hc _ fun H4 s4 => ?_
      cases b with
      | false =>
        rw [if_neg Bool.false_ne_true]
        exact ⟨hlt, sm.trans s4, acc, done, rest, s4 _ _ hacc, RDs.mv (.same s4) hrd, Nat.le_succ_of_le hdl, hr2, hys⟩
      | true =>
        rw [if_pos rfl]
        cases hf : f d with
        | ex z => rw [hf] at hr2; cases hr2
        | bad => rw [hf] at hr2; cases hr2
        | ok y =>
          rw [hf] at hr2
          cases h3 : filterMapR cf f (xs.drop (k + 1)) with
          | ex z => rw [h3] at hr2; cases hr2
          | bad => rw [h3] at hr2; cases hr2
          | ok rest' =>
            rw [h3] at hr2
            cases hr2
            refine T.el BD H4 v d (s1.trans (sm.trans s4)) (mvH (sm.trans s4)) (nonB.same s4) (hv.mv (.same s4)) y hf _ fun u H5 s5 hu => ?_
            have hacc5 := s5 _ _ (s4 _ _ hacc)
            have hl := hrd.length
            refine ⟨acc, hacc5, by omega, hlt, ?_, acc ++ [u], done ++ [y], rest', upd_same, ?_, by rw [List.length_append]; show done.length + 1 ≤ _; omega, rfl, by rw [hys, List.append_assoc]; rfl⟩
            · intro b o e
              rw [upd_ne (ne_of_none e hD)]
              exact (sm.trans (s4.trans s5)) b o e
            · have mvu : Mv BD BD H5 (upd H5 D0 (.lst (acc ++ [u]))) := ⟨fun b w _ h nbd => by
                  have hne : b ≠ D0 := fun z => nbd (.inr z)
                  rcases h with h | ⟨o, h⟩
                  · exact .inl (by rw [upd_ne hne]; exact h)
                  · exact .inr ⟨o, by rw [upd_ne hne]; exact h⟩,
                fun b w h => by rw [upd_ne (ne_of h hacc5 (fun z => nomatch z))]; exact h,
                fun b o w h => by rw [upd_ne (ne_of h hacc5 (fun z => nomatch z))]; exact h,
                fun b hb h => hb⟩
              exact (RDs.mv mvu ((RDs.mv (.same (s4.trans s5)) hrd).append (.cons hu .nil)))
  · have hke : xs.length ≤ k := by omega
    refine .inl ⟨(hJ BD H2 st k).2 hke, ?_⟩
    rw [List.drop_of_length_le hke] at hrest
    cases hrest
    rw [List.append_nil] at hys
    subst hys
    exact q D0 H2 (s1.free hD) (s1.trans sm) (.lst nb (.inl hacc) (RDs.mv (.less fun b hb _ => .inl hb) hrd)) (.inl ⟨acc, _, rfl, hacc, hrd⟩)
theorem pe_lcB {wi : TI} (hc : X.calm = true) (hN : X.N.Nodup) (hi : PI X (.Name x px) e wi) (okb : BlkOk X.N X.env.scope scope [(x, i)]) (hl : Loc (relS scope X.env.scope) x) (ht : (relS scope X.env.scope).names.lookup x = some .local ∨ scope.names.lookup x = some .cell)
    (hs : ∀ y, foldedSetIterable e X.env y = pure y) : PE X (.ListComp elt [⟨.Name x px, e, ifs, 0⟩] scope pos) (tLc wi (gName i) (ttB X scope ifs) (teB X scope elt) [i]) := by
  refine pe_lc (own := [(x, i)]) hc hN hi okb (fun s H C cl fp => ?_) (fun s H0 C cl fp => ⟨fun pins s' σ' H' Q I h => h s H0 C cl fp pins s' I⟩) (fun s H0 C cl fp => ⟨fun pins s' σ' H' Q I h => h s H0 C cl fp pins s' I⟩) hs
  refine pg_name hN (okb.ix (x, i) (by simp)) hl ?_
  rcases ht with h | h
  · exact .inr h
  · exact .inl (by show (scope.names.lookup x == some .cell) = true; rw [h]; rfl)
theorem ct_noex {α : Type} {mg : Str → Option Value} {W : WX} {r : R α} {okp : α → Prop} (h : Ct mg W σ H B r okp) (n : ∀ x, r ≠ .ex x) : ∃ a, r = .ok a ∧ okp a := by
  cases r with
  | ok a => exact ⟨a, rfl, h⟩
  | ex x => exact absurd rfl (n x)
  | bad => exact h.elim
theorem lc_t {rI : R (List D)} {Q : VK} (nB : NoN B H) (hi : SndI false X W (.Name x px) e σ H B rI) (n1 : ∀ d x, cf d ≠ .ex x) (n2 : ∀ d x, f d ≠ .ex x) (T : TurnOk X scope elt ifs i σ H B cf f)
    (q : Ct X.mg W σ H B (rI.bind fun xs => (filterMapR cf f xs).bind fun ys => .ok (.list ys)) (fun d => ∀ v H', Same H H' → VR m B H H' v d true → Q v H')) : tLc (bestI X (.Name x px) e) (gName i) (ttB X scope ifs) (teB X scope elt) [i] σ H Q := by
  refine hi _ (Ct.imp q.bind fun xs _ q1 => ?_)
  intro J H1 hz s1 hJ
  obtain ⟨ys, hys, q2⟩ := ct_noex q1.bind (filterMapR_noex n1 n2 xs)
  exact lc_go T hys hz nB s1 hJ fun D0 H' h s r ho => q2 _ _ s (VR.of r fun _ _ => ⟨D0, rfl, h, ho⟩)
theorem snd_lc {rI : R (List D)} (hc : X.calm = true) (hN : X.N.Nodup) (nB : NoN B H) (hi : SndI false X W (.Name x px) e σ H B rI) (okb : BlkOk X.N X.env.scope scope [(x, i)]) (hl : Loc (relS scope X.env.scope) x)
    (ht : (relS scope X.env.scope).names.lookup x = some .local ∨ scope.names.lookup x = some .cell) (hs : ∀ y, foldedSetIterable e X.env y = pure y) (n1 : ∀ d x, cf d ≠ .ex x) (n2 : ∀ d x, f d ≠ .ex x)
    (T : TurnOk X scope elt ifs i σ H B cf f) : SndM m X W (.ListComp elt [⟨.Name x px, e, ifs, 0⟩] scope pos) σ H B (rI.bind fun xs => (filterMapR cf f xs).bind fun ys => .ok (.list ys)) true := fun Q q =>
  PE.best (pe_lcB hc hN pi_best okb hl ht hs) (lc_t nB hi n1 n2 T q)
theorem ps_lcB {wi : TI} {k : Nat} {y : Str} {py spos : Pos} (hc : X.calm = true) (hN : X.N.Nodup) (hy : X.N[k]? = some y) (hyl : X.env.scope.names.lookup y = some .local) (hsw : swapsWith (.ListComp elt [⟨.Name x px, e, ifs, 0⟩] scope pos) (some (.Name y py)) spos.line X.env = pure true)
    (hi : PI X (.Name x px) e wi) (okb : BlkOk X.N X.env.scope scope [(x, i)]) (hl : Loc (relS scope X.env.scope) x) (ht : (relS scope X.env.scope).names.lookup x = some .local ∨ scope.names.lookup x = some .cell)
    (hs : ∀ y, foldedSetIterable e X.env y = pure y) : PS X (.Assign [.Name y py] (.ListComp elt [⟨.Name x px, e, ifs, 0⟩] scope pos) spos) (tAsg (tLc wi (gName i) (ttB X scope ifs) (teB X scope elt) [i]) (gName k)) := by
  refine ps_setLc (own := [(x, i)]) hc hN hy hyl hsw hi okb (fun s H C cl fp => ?_) (fun s H0 C cl fp => ⟨fun pins s' σ' H' Q I h => h s H0 C cl fp pins s' I⟩) (fun s H0 C cl fp => ⟨fun pins s' σ' H' Q I h => h s H0 C cl fp pins s' I⟩) hs
  refine pg_name hN (okb.ix (x, i) (by simp)) hl ?_
  rcases ht with h | h
  · exact .inr h
  · exact .inl (by show (scope.names.lookup x == some .cell) = true; rw [h]; rfl)
/-- a dict's keys -/
theorem it_keys {d0 : Addr} {o : Obj} {kvs : List (List Key × V)} {ds : List (D × D)} (h : H d0 = some (.frz o (.dT kvs))) (rt : RDt B H kvs ds) : ItG false B H (Itkt d0 o kvs) (ds.map (·.1)) := fun B2 H2 st i => by
  have h2 := st.2 rfl _ _ h
  have hl : kvs.length = ds.length := RDt.length rt
  refine ⟨fun hi => ⟨⟨h2, by simpa [hl] using hi⟩, fun x H' hy => ?_⟩, fun hi => ⟨h2, by simpa [hl] using hi⟩⟩
  obtain ⟨rfl, k, v, q, e1, rfl, e2⟩ := hy
  refine ⟨rfl, .tuple (k.map kD), ?_, .tup (.inl ⟨flat_keys _, e2⟩) (RDs.keysV _)⟩
  have : ∀ {kvs : List (List Key × V)} {ds : List (D × D)}, RDt B H kvs ds → ∀ {i : Nat} {k : List Key} {v : V}, kvs[i]? = some (k, v) → (ds.map (·.1))[i]? = some (.tuple (k.map kD)) := by
    intro kvs ds r
    induction kvs generalizing ds with
    | nil => intro i k v e; simp at e
    | cons p kvs ih =>
      intro i k v e
      cases r with
      | cons r1 r2 =>
        cases i with
        | zero => simp at e; obtain ⟨rfl, rfl⟩ := e; rfl
        | succ i => exact ih r2 (by simpa using e)
  exact this rt e1
theorem dt_len {pins : List (Addr × Obj)} {s : Shared} (I : L2.Inv X pins σ H s) {d0 : Addr} {kvs : List (List Key × V)} (h : Rd H d0 (.dT kvs)) : kvs.length ≤ sizeLine := by
  rcases h with h | ⟨o, h⟩
  · exact (I.hok _ _ h).1
  · exact (I.hok _ _ h).2.1
theorem lock_mv {d0 : Addr} {od : Obj} {kvs : List (List Key × V)} (h : H d0 = some (.dT kvs)) : Mv B B H (upd H d0 (.frz od (.dT kvs))) := ⟨fun b u _ hr _ => by
    by_cases hb : b = d0
    · subst hb
      rcases hr with hr | ⟨o, hr⟩
      · rw [h] at hr; cases hr; exact .inr ⟨od, upd_same⟩
      · rw [h] at hr; cases hr
    · rcases hr with hr | ⟨o, hr⟩
      · exact .inl (by rw [upd_ne hb]; exact hr)
      · exact .inr ⟨o, by rw [upd_ne hb]; exact hr⟩,
  fun b w hw => by rw [upd_ne (ne_of hw h (fun z => nomatch z))]; exact hw,
  fun b o w hw => by rw [upd_ne (ne_of hw h (fun z => nomatch z))]; exact hw,
  fun b hb hn => hb⟩
theorem unlock_mv {d0 : Addr} {od : Obj} {kvs : List (List Key × V)} (h : H d0 = some (.frz od (.dT kvs))) : Mv B B H (upd H d0 (.dT kvs)) := ⟨fun b u nf hr _ => by
    by_cases hb : b = d0
    · subst hb
      rcases hr with hr | ⟨o, hr⟩
      · rw [h] at hr; cases hr; exact nf.elim
      · rw [h] at hr; cases hr; exact .inl upd_same
    · rcases hr with hr | ⟨o, hr⟩
      · exact .inl (by rw [upd_ne hb]; exact hr)
      · exact .inr ⟨o, by rw [upd_ne hb]; exact hr⟩,
  fun b w hw => by rw [upd_ne (ne_of hw h (fun z => nomatch z))]; exact hw,
  fun b o w hw => by rw [upd_ne (ne_of hw h (fun z => nomatch z))]; exact hw,
  fun b hb hn => hb⟩
theorem snd_lcD {j : Nat} {dv : V} {ds : List (D × D)} (hc : X.calm = true) (hN : X.N.Nodup) (nB : NoN B H) (hj : PE X e (tVar j)) (hσ : σ[j]? = some (some dv)) (hd : TopD B H dv (.dict ds)) (okb : BlkOk X.N X.env.scope scope [(x, i)]) (hl : Loc (relS scope X.env.scope) x)
    (ht : (relS scope X.env.scope).names.lookup x = some .local ∨ scope.names.lookup x = some .cell) (hs : ∀ y, foldedSetIterable e X.env y = pure y) (n1 : ∀ d x, cf d ≠ .ex x) (n2 : ∀ d x, f d ≠ .ex x)
    (T : ∀ H2 : Hp, Mv B B H H2 → NoN B H2 → (∀ v d, TopD B H v d → TopD B H2 v d) → TurnOk X scope elt ifs i σ H2 B cf f) : SndM m X W (.ListComp elt [⟨.Name x px, e, ifs, 0⟩] scope pos) σ H B ((filterMapR cf f (ds.map (·.1))).bind fun ys => .ok (.list ys)) true := fun Q q => by
  obtain ⟨ys, hys, q2⟩ := ct_noex q.bind (filterMapR_noex n1 n2 _)
  obtain ⟨d0, kvs, rfl, hr, rt⟩ := hd.dT_of
  have pe := pe_lcB (elt := elt) (ifs := ifs) (pos := pos) (px := px) hc hN (pi_keys (tg := .Name x px) hj) okb hl ht hs
  have hlk : kvs.length = ds.length := RDt.length rt
  rcases hr with hr | ⟨o, hr⟩
  · intro pins s I
    refine (pe_lock pe).run pins s σ H Q I ⟨d0, .dT kvs, hr, trivial, fun od => ?_⟩
    have mv := lock_mv (B := B) (od := od) hr
    have hfz : upd H d0 (.frz od (.dT kvs)) d0 = some (.frz od (.dT kvs)) := upd_same
    have non2 : NoN B (upd H d0 (.frz od (.dT kvs))) := fun b hb => by
      by_cases hbd : b = d0
      · rw [hbd, upd_same]; exact fun z => nomatch z
      · rw [upd_ne hbd]; exact nB b hb
    have tt := T _ mv non2 fun v d h => by
      cases h with
      | rd h => exact .rd (h.mv mv)
      | lst h1 h2 =>
        refine .lst ?_ (RDs.mv mv h2)
        rcases h1 with h1 | ⟨o, h1⟩
        · exact .inl (by rw [upd_ne (ne_of h1 hr (fun z => nomatch z))]; exact h1)
        · exact .inr ⟨o, by rw [upd_ne (ne_of h1 hr (fun z => nomatch z))]; exact h1⟩
      | dT h1 h2 =>
        rename_i a1 kv1 ds1
        refine .dT ?_ (RDt.mv mv h2)
        by_cases hb : a1 = d0
        · subst hb
          rcases h1 with h1 | ⟨o, h1⟩
          · rw [hr] at h1; cases h1; exact .inr ⟨od, upd_same⟩
          · rw [hr] at h1; cases h1
        · rcases h1 with h1 | ⟨o, h1⟩
          · exact .inl (by rw [upd_ne hb]; exact h1)
          · exact .inr ⟨o, by rw [upd_ne hb]; exact h1⟩
    refine ⟨.ref d0, hσ, d0, od, rfl, .inr ⟨kvs, hfz, ?_⟩⟩
    refine lc_go (Q := fun v H' => H' d0 = some (.frz od (.dT kvs)) ∧ Q v (upd H' d0 (.dT kvs))) tt hys (by rw [List.length_map, ← hlk]; exact dt_len I (.inl hr)) non2 (L2.Same.refl _) (it_keys hfz (RDt.mv mv rt)) fun D0 H' h s r ho => ?_
    have hk := s _ _ hfz
    refine ⟨hk, q2 _ _ ?_ (VR.of (r.mv (unlock_mv hk)) fun _ _ => ?_)⟩
    · intro b o' e'
      by_cases hb : b = d0
      · rw [hb, upd_same, ← hr, ← hb]; exact e'.symm ▸ rfl
      · rw [upd_ne hb]
        refine s _ _ ?_
        rw [upd_ne hb]; exact e'
    · have : D0 ≠ d0 := fun z => by rw [z, upd_same] at h; cases h
      rw [upd_ne this] at h
      refine ⟨D0, rfl, h, ?_⟩
      rcases ho with ⟨xs, ds', e1, e2, e3⟩ | ⟨_, _, e1, _⟩
      · exact .inl ⟨xs, ds', e1, by rw [upd_ne this]; exact e2, RDs.mv (unlock_mv hk) e3⟩
      · cases e1
  · intro pins s I
    have tt := T H (.same (L2.Same.refl H)) nB fun v d h => h
    refine pe.run pins s σ H Q I ⟨.ref d0, hσ, d0, o, rfl, .inr ⟨kvs, hr, ?_⟩⟩
    exact lc_go tt hys (by rw [List.length_map, ← hlk]; exact dt_len I (.inr ⟨o, hr⟩)) nB (L2.Same.refl _) (it_keys hr rt) fun D0 H' h s r ho => q2 _ _ s (VR.of r fun _ _ => ⟨D0, rfl, h, ho⟩)
end
end PV
end
section
set_option Elab.async false
set_option linter.all false
set_option maxRecDepth 100000
set_option maxHeartbeats 4000000
/-! PV13: len(set(t)), and/or, tests of values, calls of defs. -/
namespace PV
open PySem PySem.Spec PyProof.Rows L2
theorem nodup_le : ∀ (l D : List Int), l.Nodup → (∀ x ∈ l, x ∈ D) → l.length ≤ D.length
  | [], _, _, _ => Nat.zero_le _
  | x :: l, D, h, m => by
    have h' := List.nodup_cons.mp h
    have hx := m x List.mem_cons_self
    have := nodup_le l (D.erase x) h'.2 fun y hy => (List.mem_erase_of_ne (fun e : y = x => h'.1 (by rw [← e]; exact hy))).mpr (m y (List.mem_cons_of_mem _ hy))
    rw [List.length_erase_of_mem hx] at this
    have hp : 0 < D.length := List.length_pos_of_mem hx
    rw [List.length_cons]; omega
def dd : List Int → List Int
  | [] => []
  | x :: xs => if x ∈ xs then dd xs else x :: dd xs
theorem dd_mem {k : Int} : ∀ {l : List Int}, k ∈ dd l ↔ k ∈ l
  | [] => Iff.rfl
  | x :: xs => by
    unfold dd
    split
    · rename_i h
      rw [dd_mem, List.mem_cons]
      exact ⟨.inr, fun z => z.elim (fun e => e ▸ h) id⟩
    · rw [List.mem_cons, List.mem_cons, dd_mem]
theorem dd_nodup : ∀ l : List Int, (dd l).Nodup
  | [] => List.nodup_nil
  | x :: xs => by
    unfold dd
    split
    · exact dd_nodup xs
    · rename_i h
      exact List.nodup_cons.mpr ⟨fun z => h (dd_mem.mp z), dd_nodup xs⟩
theorem dd_len : ∀ l : List Int, (dd l).length = distinct l
  | [] => rfl
  | x :: xs => by
    unfold dd distinct
    split
    · exact dd_len xs
    · rw [List.length_cons, dd_len xs]
theorem bb_set' : bootBuiltins "set" = some (.type "set") := bb_set
section
variable {fa : Nat → Addr} {fd : Nat → FuncData} {n : Nat} {ev : Nat → List D → R D} {X : Cx} {c : SC} {m : Nat} {W : WX} {σ : L2.St} {H : Hp} {B : Addr → Prop} {fr f1 f2 f3 : Bool} {ra rb rc : R D} {a b d l r e : Expr} {pos p p2 pos2 : Pos} {ta : TA}
def setO (w : World) (a : Addr) (ns : List Int) : HO := .ext fun h => L2.SetR w h a (fun j => decide (j ∈ ns)) (distinct ns)
theorem pe_setE (hc : X.calm = true) (hg : Gl X "set") (hm : X.mg "set" = none) (ha : PA X [e] ta) (hs : starEach [e] X.env = [(false, eval e X.env)]) :
    PE X (.Call (.Name "set" p) [e] [] pos) (fun σ H Q => ta σ H fun vs H1 => ∃ (p : Addr) (ns : List Int), vs = [.ref p] ∧ SqT X.K H1 p (ns.map V.int) ∧ ns.length < 64 ∧ ∀ a, H1 a = none → Q (.ref a) (upd H1 a (setO X.w a ns))) := by
  refine ⟨fun pins s σ H Q I h => ?_⟩
  refine Call_ (ld_blt I hg hm PyProof.Rows.boot_set (PyProof.Rows.callWith_type1 (thn (ha.run pos pins s σ H _ I h) fun us s1 ⟨vs, H1, I1, r1, q1⟩ => ?_) hs rfl))
  obtain ⟨p0, ns, e1, hq, hl, q⟩ := q1
  subst e1
  cases r1 with
  | cons r rr =>
    cases rr
    cases r
    obtain ⟨its, rv, pt, hz⟩ := I1.tuple hq
    have hi : IntsAre its.toArray.toList ns := ints_of_vals rv
    have hd := I1.ok.hd hc
    refine call_set_tupI ns hd (show s1.heap.IsTuple p0 its.toArray from pt) hi (by unfold scanBound; omega) fun h' tk c R1 hcn k => ?_
    have hcd : c = distinct ns := by
      obtain ⟨o, es, ep, t, ho, hex, hdt, g, nd, hm2, hb, hf, hn, hr, hl2⟩ := id R1
      have k1 : (es.toList.map keyOf).length = c := by rw [List.length_map, Array.length_toList]; exact hn
      have m1 : ∀ k, k ∈ es.toList.map keyOf ↔ k ∈ ns := fun k => by rw [← hm2 k, decide_eq_true_eq]
      have a1 := nodup_le _ (dd ns) nd fun x hx => dd_mem.mpr ((m1 x).mp hx)
      have a2 := nodup_le (dd ns) _ (dd_nodup ns) fun x hx => (m1 x).mpr (dd_mem.mp hx)
      rw [dd_len] at a1 a2
      omega
    subst hcd
    have hn : H1 s1.heap.objs.size = none := I1.hok.fresh (Nat.le_refl _)
    obtain ⟨o, ho⟩ : ∃ o, h'.get? s1.heap.objs.size = some o := let ⟨o, _, _, _, ho, _⟩ := R1; ⟨o, ho⟩
    exact ⟨.ref s1.heap.objs.size, upd H1 s1.heap.objs.size (setO X.w s1.heap.objs.size ns), I1.laid (t' := tk) k (Nat.le_refl _) ⟨R1, ⟨o, ho⟩, fun h1 h2 x y => L2.SetR.at x y⟩, rfl, q _ hn⟩
theorem call_lenS : CallR X (.builtin "len") (fun xs H Q => ∃ a ns, xs = [.ref a] ∧ H a = some (setO X.w a ns) ∧ Q (.int (distinct ns)) H) := by
  intro pins s σ H xs us Q I rx h
  obtain ⟨a, ns, rfl, ha, q⟩ := h
  obtain ⟨u, rfl, ru⟩ := vals1 rx
  cases ru
  have ok := I.hok a _ ha
  obtain ⟨⟨o, es, ep, t, ho, hex, hdt, g, nd, hm2, hb, hf, hn, hr, hl2⟩, _⟩ := ok
  refine call_len_set ho hex hdt hf (by unfold scanBound at hb; omega) ?_
  exact ⟨.int (distinct ns), H, I.tok _, ⟨_, by rw [hn]⟩, q⟩
theorem snd_lenset (ok : XOk fa fd n ev X c) (hh : c.hot = false) (hg : glB c.sc "len" = true) (hg2 : glB c.sc "set" = true) (ns : notStar a = true) (ha : SndM 1 X W a σ H B ra f1) : SndM m X W (.Call (.Name "len" p) [.Call (.Name "set" p2) [a] [] pos2] [] pos) σ H B (ra.bind fun x => match x with
    | .tuple xs => (match ints? xs with
      | some ns => if ns.length < 64 then .ok (.int (distinct ns)) else .bad
      | none => .bad)
    | _ => .bad) false := fun Q q => by
  obtain ⟨g1, g2, g3⟩ := ok.gl hg
  obtain ⟨k1, k2, k3⟩ := ok.gl hg2
  have pin := pe_setE (pos := pos2) (p := p2) (ok.calm hh) k1 (ok.blt (by decide)) (pa_cons pe_best pa_nil (star1 ns [] X.env)) (star1 ns [] X.env)
  refine PE.best (pe_callB (call_lenS (X := X)) g1 (ok.blt (by decide)) bb_len (pa_cons pin pa_nil rfl) g3 g2 rfl) ?_
  refine ha.thn q fun dx x H1 _ s1 r1 q1 => ?_
  cases dx with
  | tuple xs =>
    have q2 : Ct X.mg W σ H1 B (match ints? xs with
      | some ns => if ns.length < 64 then R.ok (PyData.int (distinct ns)) else .bad
      | none => .bad) _ := q1
    cases hi : ints? xs with
    | none => rw [hi] at q2; exact q2.elim
    | some ns =>
      rw [hi] at q2
      have q3 : Ct X.mg W σ H1 B (if ns.length < 64 then R.ok (PyData.int (distinct ns)) else .bad) _ := q2
      split at q3
      · rename_i hlt
        obtain ⟨p0, vs, rfl, ht, rs⟩ := r1.top.tup_of
        obtain rfl := RDs.ints rs hi
        exact ⟨p0, ns, rfl, .inl ht.rd, hlt, fun a1 h1 => ⟨a1, ns, rfl, upd_same, q3 _ _ (s1.trans (same_upd h1)) (VR.of (.int _) fun z => nomatch z)⟩⟩
      · exact q3.elim
  | _ => exact q1.elim

/-! ### and, or -/
theorem bind_assoc {α β γ : Type} {x : R α} {f : α → R β} {g : β → R γ} : (x.bind f).bind g = x.bind fun y => (f y).bind g := by cases x <;> rfl
def bestW (X : Cx) (e : Expr) : TT := fun σ H Q => ∀ wh pins s, L2.Inv X pins σ H s → wpAny (model X.prog X.w) X.A (isTrue e X.env wh) (TP X pins σ Q) X.xe s
theorem pw_best {X : Cx} {e : Expr} : PW X e (bestW X e) := ⟨fun wh pins s σ H Q I h => h wh pins s I⟩
theorem PW.best {X : Cx} {e : Expr} {t : TT} (h : PW X e t) {σ : L2.St} {H : Hp} {Q : Bool → Hp → Prop} (q : t σ H Q) : bestW X e σ H Q := fun wh pins s I => h.run wh pins s σ H Q I q
def SndW (X : Cx) (W : WX) (e : Expr) (σ : L2.St) (H : Hp) (B : Addr → Prop) (r : R Bool) : Prop := ∀ Q : Bool → Hp → Prop, Ct X.mg W σ H B r (fun b => ∀ H', Same H H' → Q b H') → bestW X e σ H Q
theorem SndW.t {r : R Bool} (h : SndW X W a σ H B r) : SndT X W a σ H B r := fun Q q pins s I => h Q q _ pins s I
theorem SndM.wk {m2 : Nat} {f2 : Bool} (h : SndM m X W a σ H B ra fr) (hm : m2 = 0 → m = 0) (hf : f2 = true → fr = true) : SndM m2 X W a σ H B ra f2 := fun Q q => h Q (Ct.imp q fun d _ hq v H' s r => hq v H' s ⟨r.top, fun z => r.rd (hm z), fun z => r.new (hf z)⟩)
/-- an expression that is neither and, or, not, if, nor a comparison -/
theorem sndT_val (ha : SndM 0 X W a σ H B ra fr) (he : ∀ whole, isTrue a X.env whole = (do let v ← whole; standAt a.pos; holding [v] (truthy v))) : SndT X W a σ H B (ra.bind asBool) := fun Q q => by
  refine PT.best (pt_val pe_best he) ?_
  refine ha.thn q fun dx x H1 _ s1 r1 q1 => ?_
  cases dx with
  | bool k => exact ⟨k, r1.bl_of, q1 _ s1⟩
  | _ => exact q1.elim
theorem snd_and {rest : List Expr} (ha : SndM 0 X W a σ H B ra f1) (hb : ∀ H1, Same H H1 → SndM 0 X W (.BoolOp .And (b :: rest) pos) σ H1 B rb f2) : SndM m X W (.BoolOp .And (a :: b :: rest) pos) σ H B (ra.bind fun x => (asBool x).bind fun k => if k = true then rb else .ok (.bool false)) false := fun Q q => by
  refine PE.best (pe_and pe_best pe_best) ?_
  refine ha.thn q fun dx x H1 _ s1 r1 q1 => ?_
  cases dx with
  | bool k =>
    refine ⟨k, r1.bl_of, ?_⟩
    cases k with
    | true => exact hb H1 s1 _ (Ct.imp q1 fun d _ hq v H' s r => hq v H' (s1.trans s) ⟨r.top, fun _ => r.rd rfl, fun z => nomatch z⟩)
    | false => exact q1 _ _ s1 (VR.of (.bl _) fun z => nomatch z)
  | _ => exact q1.elim
theorem snd_or {rest : List Expr} (ha : SndM 0 X W a σ H B ra f1) (hb : ∀ H1, Same H H1 → SndM 0 X W (.BoolOp .Or (b :: rest) pos) σ H1 B rb f2) : SndM m X W (.BoolOp .Or (a :: b :: rest) pos) σ H B (ra.bind fun x => (asBool x).bind fun k => if k = true then .ok (.bool true) else rb) false := fun Q q => by
  refine PE.best (pe_or pe_best pe_best) ?_
  refine ha.thn q fun dx x H1 _ s1 r1 q1 => ?_
  cases dx with
  | bool k =>
    refine ⟨k, r1.bl_of, ?_⟩
    cases k with
    | false => exact hb H1 s1 _ (Ct.imp q1 fun d _ hq v H' s r => hq v H' (s1.trans s) ⟨r.top, fun _ => r.rd rfl, fun z => nomatch z⟩)
    | true => exact q1 _ _ s1 (VR.of (.bl _) fun z => nomatch z)
  | _ => exact q1.elim
theorem sndW_and {rest : List Expr} {rt rt2 : R Bool} (ha : SndT X W a σ H B rt) (hb : ∀ H1, Same H H1 → SndW X W (.BoolOp .And (b :: rest) pos) σ H1 B rt2) : SndW X W (.BoolOp .And (a :: b :: rest) pos) σ H B (rt.bind fun k => if k = true then rt2 else .ok false) := fun Q q => by
  refine PW.best (pw_and pt_best pw_best) ?_
  refine ha.thn q fun k H1 _ s1 q1 => ?_
  cases k with
  | true => exact hb H1 s1 _ (Ct.imp q1 fun d _ hq H' s => hq H' (s1.trans s))
  | false => exact q1 _ s1
theorem sndW_or {rest : List Expr} {rt rt2 : R Bool} (ha : SndT X W a σ H B rt) (hb : ∀ H1, Same H H1 → SndW X W (.BoolOp .Or (b :: rest) pos) σ H1 B rt2) : SndW X W (.BoolOp .Or (a :: b :: rest) pos) σ H B (rt.bind fun k => if k = true then .ok true else rt2) := fun Q q => by
  refine PW.best (pw_or pt_best pw_best) ?_
  refine ha.thn q fun k H1 _ s1 q1 => ?_
  cases k with
  | false => exact hb H1 s1 _ (Ct.imp q1 fun d _ hq H' s => hq H' (s1.trans s))
  | true => exact q1 _ s1
theorem sndW_and1 {rt : R Bool} (ha : SndT X W a σ H B rt) : SndW X W (.BoolOp .And [a] pos) σ H B rt := fun Q q => PW.best (pw_and1 pt_best) (ha Q q)
theorem sndW_or1 {rt : R Bool} (ha : SndT X W a σ H B rt) : SndW X W (.BoolOp .Or [a] pos) σ H B rt := fun Q q => PW.best (pw_or1 pt_best) (ha Q q)
theorem snd_one {op : BoolOp} (ha : SndM m X W a σ H B ra fr) : SndM m X W (.BoolOp op [a] pos) σ H B ra fr := fun Q q => PE.best (pe_one pe_best) (ha Q q)
theorem sndT_ite {rt r1 r2 : R Bool} (hc : SndT X W d σ H B rt) (ha : ∀ H1, Same H H1 → SndT X W a σ H1 B r1) (hb : ∀ H1, Same H H1 → SndT X W b σ H1 B r2) : SndT X W (.IfExp d a b pos) σ H B (rt.bind fun k => if k = true then r1 else r2) := fun Q q pins s I => by
  refine isTrue_IfExp (thn (hc.thn q (Q := fun k H1 => Same H H1 ∧ Ct X.mg W σ H1 B (if k = true then r1 else r2) (fun b => ∀ H', Same H H' → Q b H')) (fun k H1 _ s1 q1 => ⟨s1, q1⟩) pins s I) fun k s1 ⟨H1, I1, sm, q1⟩ => ?_)
  cases k with
  | true =>
    rw [if_pos rfl] at q1
    exact ha H1 sm Q (Ct.imp q1 fun b _ hq H' s => hq H' (sm.trans s)) pins s1 I1
  | false =>
    rw [if_neg Bool.false_ne_true] at q1
    exact hb H1 sm Q (Ct.imp q1 fun b _ hq H' s => hq H' (sm.trans s)) pins s1 I1
end
end PV
end
section
set_option Elab.async false
set_option linter.all false
set_option maxRecDepth 100000
set_option maxHeartbeats 4000000
/-! PV14: sorted by a key, calls of defs. -/
namespace PV
open PySem PySem.Spec PyProof.Rows L2
mutual
theorem reads_nil {h : Heap} : ∀ {d : D} {u : Value} {as : List Addr}, noLst d = true → Reads h u d as → as = []
  | .none, _, _, _, r => by cases r; rfl
  | .bool _, _, _, _, r => by cases r; rfl
  | .int _, _, _, _, r => by cases r; rfl
  | .str _, _, _, _, r => by cases r; rfl
  | .list _, _, _, e, _ => nomatch e
  | .dict _, _, _, e, _ => nomatch e
  | .tuple xs, _, _, e, r => by
    cases r with
    | tuple _ _ _ h4 => exact readsAll_nil (show noLstAll xs = true from e) h4
theorem readsAll_nil {h : Heap} : ∀ {ds : List D} {us : List Value} {as : List Addr}, noLstAll ds = true → ReadsAll h us ds as → as = []
  | [], _, _, _, r => by cases r; rfl
  | d :: ds, _, _, e, r => by
    have e' : noLst d = true ∧ noLstAll ds = true := by simpa [noLstAll] using e
    cases r with
    | cons r1 r2 => rw [reads_nil e'.1 r1, readsAll_nil e'.2 r2]; rfl
end
theorem noLst_mem : ∀ {ds : List D} {d : D}, noLstAll ds = true → d ∈ ds → noLst d = true
  | e :: ds, d, h, m => by
    have h' : noLst e = true ∧ noLstAll ds = true := by simpa [noLstAll] using h
    rcases List.mem_cons.mp m with rfl | m
    · exact h'.1
    · exact noLst_mem h'.2 m
theorem plain_mem : ∀ {ds : List D} {d : D}, PyData.plainAll ds = true → d ∈ ds → d.plain = true
  | e :: ds, d, h, m => by
    have h' : e.plain = true ∧ PyData.plainAll ds = true := by simpa [PyData.plainAll] using h
    rcases List.mem_cons.mp m with rfl | m
    · exact h'.1
    · exact plain_mem h'.2 m
theorem mapR_key : ∀ {xs ks : List D}, mapR lenKey xs = .ok ks → xs.length = ks.length ∧ ∀ p ∈ xs.zip ks, ∃ ys, p.1 = .tuple ys ∧ p.2 = .tuple [.int ys.length, .tuple ys]
  | [], ks, h => by cases h; exact ⟨rfl, fun p hp => nomatch hp⟩
  | x :: xs, ks, h => by
    have h' : (lenKey x).bind (fun y => (mapR lenKey xs).bind fun ys => R.ok (y :: ys)) = .ok ks := h
    cases x with
    | tuple ys =>
      cases e : mapR lenKey xs with
      | ok zs =>
        have h2 : (mapR lenKey xs).bind (fun zs => R.ok (PyData.tuple [.int ys.length, .tuple ys] :: zs)) = .ok ks := h'
        rw [e] at h2
        cases h2
        obtain ⟨a, b⟩ := mapR_key e
        refine ⟨by rw [List.length_cons, List.length_cons, a], fun p hp => ?_⟩
        rw [List.zip_cons_cons] at hp
        rcases List.mem_cons.mp hp with rfl | hp
        · exact ⟨ys, rfl, rfl⟩
        · exact b p hp
      | ex z =>
        have h2 : (mapR lenKey xs).bind (fun zs => R.ok (PyData.tuple [.int ys.length, .tuple ys] :: zs)) = .ok ks := h'
        rw [e] at h2; cases h2
      | bad =>
        have h2 : (mapR lenKey xs).bind (fun zs => R.ok (PyData.tuple [.int ys.length, .tuple ys] :: zs)) = .ok ks := h'
        rw [e] at h2; cases h2
    | _ => cases h'
theorem mapR_key_noex : ∀ {xs : List D} {x : D}, mapR lenKey xs ≠ .ex x
  | [], _ => fun z => nomatch z
  | y :: xs, x => fun h => by
    cases y with
    | tuple ys =>
      have h2 : (mapR lenKey xs).bind (fun zs => R.ok (PyData.tuple [.int ys.length, .tuple ys] :: zs)) = .ex x := h
      cases e : mapR lenKey xs with
      | ok zs => rw [e] at h2; cases h2
      | ex z => exact mapR_key_noex e
      | bad => rw [e] at h2; cases h2
    | _ => cases h
section
variable {fa : Nat → Addr} {fd : Nat → FuncData} {n : Nat} {ev : Nat → List D → R D} {X : Cx} {c : SC} {m : Nat} {W : WX} {σ : L2.St} {H : Hp} {B : Addr → Prop} {fr f1 f2 f3 : Bool} {ra rb rc : R D} {a b d l r e : Expr} {pos p p2 pos2 kp : Pos} {ta : TA}
theorem each_zip {Rr : Value → D → Prop} : ∀ {us : List Value} {xs ks : List D}, PySem.W.EachIs Rr us xs → xs.length = ks.length → PySem.W.EachIs (fun v (p : D × D) => Rr v p.1) us (xs.zip ks)
  | _, _, ks, .nil, _ => by cases ks <;> exact .nil
  | _, _, [], .cons r t, h => nomatch h
  | _, _, k :: ks, .cons r t, h => .cons r (each_zip t (by simpa using h))
theorem each_fst {Rr : Value → D → Prop} : ∀ {us : List Value} {ps : List (D × D)}, PySem.W.EachIs (fun v (p : D × D) => Rr v p.1) us ps → PySem.W.EachIs Rr us (ps.map Prod.fst)
  | _, _, .nil => .nil
  | _, _, .cons r t => .cons r (each_fst t)
theorem call_sortk {f : Str} (ok : XOk fa fd n ev X c) (hh : c.hot = false) (hf : f ∈ c.KF) : CallRK X (.builtin "sorted") ["key"] (fun xs zs H Q => ∃ B x ds ks q, xs = [x] ∧ (∃ af, zs = [.ref af] ∧ X.mg f = some (.ref af)) ∧ NoN B H ∧ TopD B H x (.list ds) ∧ mapR lenKey ds = .ok ks ∧ sortOk ks = true ∧ noLstAll ks = true ∧ q = (((ds.zip ks).mergeSort (PySem.W.dataLe false Prod.snd)).map Prod.fst) ∧ FinL B H (.list q) Q) := by
  intro pins s σ H xs zs us ws Q I rx rz h
  obtain ⟨B, x, ds, ks, q', rfl, ⟨af, rfl, haf⟩, hB, hx, hk, hso, hnl, rfl, q⟩ := h
  obtain ⟨u, rfl, ru⟩ := vals1 rx
  obtain ⟨w', rfl, rw'⟩ := vals1 rz
  obtain rfl : w' = Value.ref af := rw'
  obtain ⟨p0, vs, rfl, hr, rs⟩ := hx.lst_of
  cases ru
  obtain ⟨its, nn, rv, e0, hz⟩ := listR I hr
  obtain ⟨hl, hpair⟩ := mapR_key hk
  obtain ⟨h1, h2, h3, h4⟩ := sortOk_of hso
  obtain ⟨a', ha', hkey⟩ := ok.wd.key f hf
  rw [haf] at ha'
  cases ha'
  have st := stands rs rv
  have hsnd : (ds.zip ks).map Prod.snd = ks := by rw [List.map_snd_zip]; omega
  have hlen : (ds.zip ks).length = ks.length := by rw [List.length_zip, hl, Nat.min_self]
  show wpAny _ _ (call (.builtin "sorted") [.ref p0] [(Str.ofString "key", .ref af)]) _ _ _
  refine PySem.W.sorted_key_data (R := fun v (p : D × D) => Stand B H v p.1) (vs := its) (bs := ds.zip ks) (b := false) Prod.snd ⟨_, e0, rfl, nn, rfl⟩ (each_zip st hl) (by rw [hsnd]; exact allAlike h1) (by rw [hsnd]; exact h3) (by rw [hlen, ← LIM_eq]; exact h4) (fun p hp => ?_)
    (PyProof.Rows.ksk_s1 _ _) (fun _ => PyProof.Rows.ksk_l1 _ _) (fun _ => PyProof.Rows.ksk_t1 _ _) (fun v p hv hp h tk kk => ?_) fun out cc h' tk kk hn hD hlo eo => ?_
  · have hm : p.2 ∈ ks := by rw [← hsnd]; exact List.mem_map_of_mem hp
    have a1 := fitAll_depth h2
    have a2 := depth_mem hm
    have a3 := ok.hu
    omega
  · obtain ⟨ys, e1, e2⟩ := hpair p hp
    have hm : p.2 ∈ ks := by rw [← hsnd]; exact List.mem_map_of_mem hp
    rw [e2] at hm ⊢
    have pk := plain_mem (fitAll_plain h2) hm
    have pd : (PyData.tuple ys).plain = true := by
      have : PyData.plainAll [.int ys.length, .tuple ys] = true := pk
      simpa [PyData.plainAll, PyData.plain] using this
    have nk := noLst_mem hnl hm
    have nd : noLst (PyData.tuple ys) = true := by
      have : noLstAll [.int ys.length, .tuple ys] = true := nk
      simpa [noLstAll, noLst] using this
    obtain ⟨xv, rxv, hrd⟩ := hv
    rw [e1] at hrd
    obtain ⟨as, hr1⟩ := reads_of I (.rd hrd) pd rxv
    obtain rfl := reads_nil nd hr1
    have hr2 : Reads h v (.tuple ys) [] := PyProof.Rows.Reads.keeps kk hr1
    have hlen3 : ys.length ≤ sizeLine := by
      obtain ⟨p5, vs5, _, ht5, rs5⟩ := (TopD.rd hrd).tup_of
      rw [← rs5.length]
      exact rd_len I (.inr ht5.rd)
    exact hkey _ { s with heap := h, toks := tk } v ys (((ok.room hh).mono (by omega : 1 + 1 + 1 ≤ n + 3)).in1.in1) I.ok.mod hlen3 (fun b o z => kk _ _ (I.bk b o z)) hr2
  · obtain ⟨xs', v1, r1⟩ := stands_back (each_fst eo)
    have hlen2 : xs'.length ≤ sizeLine := by rw [v1.length, hlo, hlen, ← LIM_eq]; exact h4
    exact ⟨.ref _, upd H (s.heap.objs.size + 1) (.lst xs'), I.laid (t' := tk) kk (Nat.le_succ _) ⟨hlen2, out, cc, v1, hD⟩, rfl, new_lst hB r1 q _ (I.hok.fresh (Nat.le_succ _))⟩
theorem snd_sortk (ok : XOk fa fd n ev X c) (hh : c.hot = false) (nB : NoN B H) {f : Str} (hf : f ∈ c.KF) (hg : glB c.sc "sorted" = true) (hg2 : glB c.sc f = true) (ns : notStar a = true) (ha : SndM 1 X W a σ H B ra f1) : SndM m X W (.Call (.Name "sorted" p) [a] [⟨some "key", .Name f p2, kp⟩] pos) σ H B (ra.bind fun x => match x with
    | .list xs => (mapR lenKey xs).bind fun ks => if sortOk ks = true ∧ noLstAll ks = true then .ok (.list (((xs.zip ks).mergeSort (PySem.W.dataLe false Prod.snd)).map Prod.fst)) else .bad
    | _ => .bad) true := fun Q q => by
  obtain ⟨g1, g2, g3⟩ := ok.gl hg
  obtain ⟨k1, k2, k3⟩ := ok.gl hg2
  obtain ⟨af, haf, _⟩ := ok.wd.key f hf
  refine PE.best (pe_callBK (call_sortk ok hh hf) g1 (ok.blt (by decide)) bb_sorted (pa_cons pe_best pa_nil (star1 ns [] X.env)) (pk_cons (pe_glob (v := .ref af) k1 haf rfl k2) pk_nil) g3 g2 (by rw [star1 ns]; rfl) (by rw [star1 ns]; rfl) rfl rfl rfl) ?_
  refine ha.thn q fun dx x H1 _ s1 r1 q1 => ?_
  cases dx with
  | list xs =>
    have q2 : Ct X.mg W σ H1 B ((mapR lenKey xs).bind fun ks => if sortOk ks = true ∧ noLstAll ks = true then R.ok (PyData.list (((xs.zip ks).mergeSort (PySem.W.dataLe false Prod.snd)).map Prod.fst)) else .bad) _ := q1
    obtain ⟨ks, hks, q3⟩ := ct_noex q2.bind (fun x => mapR_key_noex)
    have q4 : Ct X.mg W σ H1 B (if sortOk ks = true ∧ noLstAll ks = true then R.ok (PyData.list (((xs.zip ks).mergeSort (PySem.W.dataLe false Prod.snd)).map Prod.fst)) else .bad) _ := q3
    split at q4
    · rename_i h
      exact ⟨B, x, xs, ks, _, rfl, ⟨af, rfl, haf⟩, nB.same s1, r1.top, hks, h.1, h.2, rfl, FinL.of (m := m) (fr := true) s1 q4⟩
    · exact q4.elim
  | _ => exact q1.elim

/-! ### calls of defs -/
theorem snd_glob (ok : XOk fa fd n ev X c) {x : Str} (hg : glB c.sc x = true) : SndM m X W (.Name x pos) σ H B (match c.G.g x with
    | some d => .ok d
    | none => .bad) false := by
  cases e : c.G.g x with
  | none => exact fun Q q => q.elim
  | some d =>
    obtain ⟨h1, u, h2, h3⟩ := ok.wd.gl x d e
    obtain ⟨g1, g2, g3⟩ := ok.gl hg
    exact snd_const (pe_glob g1 h2 h3 g2) (fun B H => atom_rd h1) (by cases d <;> first | rfl | cases h1)
def bestK (X : Cx) (kws : List Keyword) : TA := fun σ H Q => ∀ pos pins s, L2.Inv X pins σ H s → wpAny (model X.prog X.w) X.A (evalAll ((backToKw pos (keywordEach kws X.env)).map (·.2))) (AP X pins σ Q) X.xe s
theorem pk_best {X : Cx} {kws : List Keyword} : PK X kws (bestK X kws) := ⟨fun pos pins s σ H Q I h => h pos pins s I⟩
theorem PK.best {X : Cx} {kws : List Keyword} {t : TA} (h : PK X kws t) {σ : L2.St} {H : Hp} {Q : List V → Hp → Prop} (q : t σ H Q) : bestK X kws σ H Q := fun pos pins s I => h.run pos pins s σ H Q I q
def SndK (X : Cx) (W : WX) (kws : List Keyword) (σ : L2.St) (H : Hp) (B : Addr → Prop) (r : R (List D)) : Prop :=
  ∀ Q : List V → Hp → Prop, Ct X.mg W σ H B r (fun ds => ∀ vs H', Same H H' → RDs B H' vs ds → vs.length = kws.length → Q vs H') → bestK X kws σ H Q
theorem kw_names {env : PySem.Env} {pos : Pos} : ∀ {kws : List Keyword} {ns : List Str}, kwNames kws = some ns → (backToKw pos (keywordEach kws env)).all (·.1.isSome) = true ∧ (backToKw pos (keywordEach kws env)).filterMap (·.1) = ns ∧ (backToKw pos (keywordEach kws env)).any (·.1.isNone) = false ∧ ns.length = kws.length
  | [], ns, h => by
    have : some ([] : List Str) = some ns := h
    cases this; exact ⟨rfl, rfl, rfl, rfl⟩
  | ⟨none, e, p⟩ :: kws, ns, h => by simp [kwNames] at h
  | ⟨some x, e, p⟩ :: kws, ns, h => by
    have h' : kwNames kws = (kwNames kws) := rfl
    cases e2 : kwNames kws with
    | none => unfold kwNames at h e2; simp [e2] at h
    | some ms =>
      have : ns = x :: ms := by
        unfold kwNames at h e2
        simp [e2] at h
        exact h.symm
      subst this
      obtain ⟨a, b, cc, dd'⟩ := kw_names (env := env) (pos := pos) e2
      refine ⟨?_, ?_, ?_, by rw [List.length_cons, List.length_cons, dd']⟩
      · show (true && (backToKw pos (keywordEach kws env)).all (·.1.isSome)) = true
        rw [a]; rfl
      · show x :: (backToKw pos (keywordEach kws env)).filterMap (·.1) = x :: ms
        rw [b]
      · show (false || (backToKw pos (keywordEach kws env)).any (·.1.isNone)) = false
        rw [cc]; rfl
theorem snd_call (ok : XOk fa fd n ev X c) (hh : c.hot = false) (tk : Takes X W) (nB : NoN B H) {f : Nat} {i : FnD} {es : List Expr} {kws : List Keyword} {ns : List Str} {rA rK : R (List D)} {dfl : List D} (hT : c.T f = some i) (hg : glB c.sc i.name = true) (hns : kwNames kws = some ns)
    (hst : (e :: es).all notStar = true) (hsh : (es.length + 1, ns, dfl) ∈ i.shapes) (hdf : dfl.all flatKey = true) (hnp : es.length + 1 + ns.length + dfl.length = i.ps.length) (ha : SndA X W (e :: es) σ H B rA) (hk : ∀ H1, Same H H1 → SndK X W kws σ H1 B rK) :
    SndM m X W (.Call (.Name i.name p) (e :: es) kws pos) σ H B (rA.bind fun xs => rK.bind fun ys => ev f (xs ++ ys ++ dfl)) false := fun Q q => by
  obtain ⟨g1, g2, g3⟩ := ok.gl hg
  have F := ok.wd.fn f i hT
  obtain ⟨k1, k2, k3, k4⟩ := kw_names (env := X.env) (pos := pos) hns
  obtain ⟨ds, hds, bind⟩ := F.sh _ hsh
  have hst' := hst
  rw [List.all_cons, Bool.and_eq_true] at hst'
  intro pins s I
  refine wpAny_Call_Name_kw (ld_glob I g1 F.gm ?_ g2)
  refine PySem.W.callWith_KW (h₀ := X.base) I.ok.mod.kin F.kp k1 (thn (ha.thn q (Q := fun vs H1 => ∃ xs, Same H H1 ∧ RDs B H1 vs xs ∧ vs.length = (e :: es).length ∧ Ct X.mg W σ H1 B (rK.bind fun ys => ev f (xs ++ ys ++ dfl)) (fun d => ∀ v H', Same H H' → VR m B H H' v d false → Q v H')) (fun xs vs H1 _ s1 r1 l1 q1 => ⟨xs, s1, r1, l1, q1⟩) pos pins s I) fun us s1 ⟨vs, H1, I1, r, xs, sm, rx, lx, q1⟩ => ?_)
    (by rw [anyStar hst, k3]; rfl) (star1 hst'.1 es X.env)
  refine thn (((hk H1 sm) (fun zs H2 => ∃ ys, Same H1 H2 ∧ RDs B H2 zs ys ∧ zs.length = kws.length ∧ Ct X.mg W σ H2 B (ev f (xs ++ ys ++ dfl)) (fun d => ∀ v H', Same H H' → VR m B H H' v d false → Q v H')) (Ct.imp q1.bind fun ys _ q2 zs H2 s2 r2 l2 => ⟨ys, s2, r2, l2, Ct.same s2 q2⟩)) pos pins s1 I1) fun ws s2 ⟨zs, H2, I2, rz, ys, sm2, ry, ly, q2⟩ => ⟨I2.kIn, ?_⟩
  rw [k2]
  have l1 : us.length = es.length + 1 := r.length.symm.trans lx
  have l2 : ws.length = ns.length := by rw [k4, ← ly]; exact rz.length.symm
  have rall : Vals (vs ++ zs ++ dfl.map atomV) (us ++ ws ++ ds) := (r.append rz).append hds
  have rd : RDs B H2 (vs ++ zs ++ dfl.map atomV) (xs ++ ys ++ dfl) := ((RDs.mv (.same sm2) rx).append ry).append (atoms_rd hdf)
  have lall : (xs ++ ys ++ dfl).length = i.ps.length := by
    have e1 := rx.length
    have e2 := ry.length
    rw [List.length_append, List.length_append, ← e1, ← e2, lx, ly, ← k4, ← hnp]; rfl
  have sp : spF X.mg i.ps.length (ev f) (vs ++ zs ++ dfl.map atomV) H2 Q (WE W σ) := by
    refine ⟨B, _, rd, lall, nB.same (sm.trans sm2), ?_⟩
    cases hr : ev f (xs ++ ys ++ dfl) with
    | ok d =>
      rw [hr] at q2
      exact fun v H' s3 r3 => q2 v H' ((sm.trans sm2).trans s3) (VR.of r3 fun z => nomatch z)
    | ex x => rw [hr] at q2; exact q2
    | bad => rw [hr] at q2; exact q2
  refine wpAny_call (codeAny_mono (F.ok.run X.A X.stack s2 H2 ⟨us, ns.zip ws⟩ (us ++ ws ++ ds) (vs ++ zs ++ dfl.map atomV) Q (WE W σ) ((ok.room hh).mono (by omega)) I2.env0 (bind s2 us ws I2.kIn l1 l2) rall sp) fun rr s' hq => ?_)
  cases rr with
  | error e => exact passAt tk σ pins H2 s2 e s' I2 hq
  | ok fl =>
    cases fl with
    | ret u => exact I2.after hq
    | next => exact False.elim hq
    | brk => exact False.elim hq
    | cont => exact False.elim hq
end
end PV
end
section
set_option Elab.async false
set_option linter.all false
set_option maxRecDepth 100000
set_option maxHeartbeats 8000000
/-! PV15: an expression that looks right does what the evaluator says. -/
namespace PV
open PySem PySem.Spec PyProof.Rows L2
def plainX : Expr → Bool
  | .UnaryOp .Not _ _ => false
  | .BoolOp _ _ _ => false
  | .IfExp _ _ _ _ => false
  | .Compare _ _ _ _ => false
  | _ => true
theorem plainX_of {x : Expr} {env : PySem.Env} (h : plainX x = true) : ∀ whole, PySem.isTrue x env whole = (do let v ← whole; standAt x.pos; holding [v] (truthy v)) := by
  intro whole
  cases x with
  | UnaryOp op _ _ => cases op <;> first | rfl | cases h
  | _ => first | rfl | cases h
def isRng : E → Bool
  | .rng1 _ => true
  | .rng2 _ _ => true
  | .rng3 _ _ _ => true
  | _ => false
/-- an except suite's error: its object, its class, its fields -/
def HotE (X : Cx) (c : SC) (σ : L2.St) (H : Hp) (B : Addr → Prop) : Prop := c.hot = true → ∃ (X0 : Cx) (a C dd : Addr) (oe : Obj) (fs : List (Str × V)) (pn : List (Addr × Obj)) (nm : Str) (kvs : List (D × D)) (j : Nat) (xj : Xc),
  X = L2.Cx.suite X0 a ((a, oe) :: pn) ∧ σ[c.hi]? = some (some (.ref a)) ∧ L2.Zc (.ref C) (some dd) oe ∧ (∃ vs, oe.data = .fields vs) ∧ H dd = some (.xd fs) ∧ c.G.x = some (.dict ((.none, .str nm) :: kvs)) ∧ c.XT j = some xj ∧ xj.name = nm ∧ X.mg nm = some (.ref C) ∧
    ∀ f e, (PyData.str f, e) ∈ kvs → ∃ v, fs.lookup f = some v ∧ RD B H v e
theorem HotE.same {X : Cx} {c : SC} {σ : L2.St} {H H' : Hp} {B : Addr → Prop} (s : Same H H') (h : HotE X c σ H B) : HotE X c σ H' B := fun z => by
  obtain ⟨X0, a, C, dd, oe, fs, pn, nm, kvs, j, xj, h1, h2, h3, h4, h5, h6, h7, h8, h9, h10⟩ := h z
  exact ⟨X0, a, C, dd, oe, fs, pn, nm, kvs, j, xj, h1, h2, h3, h4, s _ _ h5, h6, h7, h8, h9, fun f e hm => let ⟨v, q1, q2⟩ := h10 f e hm; ⟨v, q1, q2.mv (.same s)⟩⟩
structure RelX (X : Cx) (c : SC) (B : Addr → Prop) (ρ : Env) (σ : L2.St) (H : Hp) : Prop extends RelE B c.own ρ σ H where
  hx : HotE X c σ H B
theorem RelX.same {X : Cx} {c : SC} {B : Addr → Prop} {ρ : Env} {σ : L2.St} {H H' : Hp} (r : RelX X c B ρ σ H) (e : Same H H') : RelX X c B ρ σ H' := ⟨r.toRelE.same e, r.hx.same e⟩
theorem RelE.cold {X : Cx} {c : SC} {B : Addr → Prop} {ρ : Env} {σ : L2.St} {H : Hp} (r : RelE B c.own ρ σ H) (hh : c.hot = false) : RelX X c B ρ σ H := ⟨r, fun z => by rw [hh] at z; cases z⟩
section
variable (fa : Nat → Addr) (fd : Nat → FuncData) (n : Nat) (ev : Nat → List D → R D)
structure GoodM (e : E) (m : Nat) : Prop where
  run : ∀ (x : Expr) (X : Cx) (c : SC) (W : WX) (σ : L2.St) (ρ : Env) (H : Hp) (B : Addr → Prop), XOk fa fd n ev X c → Takes X W → RelX X c B ρ σ H → ckE c m e x = true → SndM m X W x σ H B (evE c.G ev e ρ) (freshE e)
structure Good (e : E) : Prop where
  val : ∀ m, m ≤ 1 → GoodM fa fd n ev e m
  tst : ∀ (x : Expr) (X : Cx) (c : SC) (W : WX) (σ : L2.St) (ρ : Env) (H : Hp) (B : Addr → Prop), XOk fa fd n ev X c → Takes X W → RelX X c B ρ σ H → ckE c 0 e x = true → SndT X W x σ H B ((evE c.G ev e ρ).bind asBool)
  itr : ∀ (lp : Bool) (x : Expr) (X : Cx) (c : SC) (W : WX) (σ : L2.St) (ρ : Env) (H : Hp) (B : Addr → Prop) (tg : Expr), XOk fa fd n ev X c → Takes X W → RelX X c B ρ σ H → ckE c 2 e x = true → (lp = true → isRng e = true ∨ ckE c 0 e x = true) → SndI lp X W tg x σ H B ((evE c.G ev e ρ).bind items)
structure GoodS (es : Es) : Prop where
  arg : ∀ (l : List Expr) (X : Cx) (c : SC) (W : WX) (σ : L2.St) (ρ : Env) (H : Hp) (B : Addr → Prop), XOk fa fd n ev X c → Takes X W → RelX X c B ρ σ H → ckEs c es l = true → SndA X W l σ H B (evEs c.G ev es ρ)
  kwd : ∀ (l : List Keyword) (X : Cx) (c : SC) (W : WX) (σ : L2.St) (ρ : Env) (H : Hp) (B : Addr → Prop), XOk fa fd n ev X c → Takes X W → RelX X c B ρ σ H → ckKs c es l = true → SndK X W l σ H B (evEs c.G ev es ρ)
  and : ∀ (l : List Expr) (X : Cx) (c : SC) (W : WX) (σ : L2.St) (ρ : Env) (H : Hp) (B : Addr → Prop) (pos : Pos), XOk fa fd n ev X c → Takes X W → RelX X c B ρ σ H → ckEs c es l = true → SndM 0 X W (.BoolOp .And l pos) σ H B (evAnd c.G ev es ρ) false ∧ SndW X W (.BoolOp .And l pos) σ H B ((evAnd c.G ev es ρ).bind asBool)
  or : ∀ (l : List Expr) (X : Cx) (c : SC) (W : WX) (σ : L2.St) (ρ : Env) (H : Hp) (B : Addr → Prop) (pos : Pos), XOk fa fd n ev X c → Takes X W → RelX X c B ρ σ H → ckEs c es l = true → SndM 0 X W (.BoolOp .Or l pos) σ H B (evOr c.G ev es ρ) false ∧ SndW X W (.BoolOp .Or l pos) σ H B ((evOr c.G ev es ρ).bind asBool)
end
section
variable {fa : Nat → Addr} {fd : Nat → FuncData} {n : Nat} {ev : Nat → List D → R D}
theorem ck21 {c : SC} {e : E} {x : Expr} (h : ckE c 2 e x = true) (hr : isRng e = false) : ckE c 1 e x = true := by
  cases e <;> first | (cases hr; done) | (unfold ckE at h ⊢; exact h) | (unfold ckE at h ⊢; simpa using h)
theorem Good.gen {e : E} (hr : isRng e = false) (hM : ∀ m, m ≤ 1 → GoodM fa fd n ev e m)
    (hT : ∀ (x : Expr) (X : Cx) (c : SC) (W : WX) (σ : L2.St) (ρ : Env) (H : Hp) (B : Addr → Prop), XOk fa fd n ev X c → Takes X W → RelX X c B ρ σ H → ckE c 0 e x = true → SndT X W x σ H B ((evE c.G ev e ρ).bind asBool)) : Good fa fd n ev e := by
  refine ⟨hM, hT, fun lp x X c W σ ρ H B tg ok tk rel h hl => ?_⟩
  cases lp with
  | false => exact sndI_val (lp := false) ((hM 1 (Nat.le_refl _)).run x X c W σ ρ H B ok tk rel (ck21 h hr))
  | true =>
    rcases hl rfl with z | z
    · rw [hr] at z; cases z
    · exact sndI_val (lp := true) ((hM 0 (Nat.zero_le _)).run x X c W σ ρ H B ok tk rel z)
theorem Good.plain {e : E} (hr : isRng e = false) (hp : ∀ c x, ckE c 0 e x = true → plainX x = true) (hM : ∀ m, m ≤ 1 → GoodM fa fd n ev e m) : Good fa fd n ev e :=
  .gen hr hM fun x X c W σ ρ H B ok tk rel h => sndT_val ((hM 0 (Nat.zero_le _)).run x X c W σ ρ H B ok tk rel h) (plainX_of (hp c x h))
theorem noSlice_plain {x : Expr} (h : noSlice x = true) : PlainIx x := by
  intro o i
  cases x <;> first | rfl | cases h
theorem ck_ns {c : SC} {m : Nat} {e : E} {x : Expr} (h : ckE c m e x = true) : notStar x = true := by
  cases x with
  | Starred a b => cases e <;> (unfold ckE at h; cases h)
  | _ => rfl
theorem ck_set {c : SC} {m : Nat} {e : E} {x : Expr} (h : ckE c m e x = true) (env : PySem.Env) : ∀ y, foldedSetIterable x env y = pure y := by
  cases x with
  | Set a b d => cases e <;> (unfold ckE at h; cases h)
  | _ => intro y; rfl
theorem eqDs_of : ∀ {a b : List D}, eqDs a b = true → a = b ∧ a.all flatKey = true
  | [], [], _ => ⟨rfl, rfl⟩
  | x :: a, y :: b, h => by
    have h' : (flatKey x && flatKey y && PyData.eqv x y && eqDs a b) = true := h
    simp only [Bool.and_eq_true] at h'
    obtain ⟨e1, e2⟩ := eqDs_of h'.2
    rw [flat_eqv h'.1.1.1 h'.1.1.2 h'.1.2, e1]
    refine ⟨rfl, ?_⟩
    rw [List.all_cons, ← flat_eqv h'.1.1.1 h'.1.1.2 h'.1.2, h'.1.1.1, ← e1, e2]; rfl
  | [], _ :: _, h => by cases h
  | _ :: _, [], h => by cases h
theorem tgB_of {scope sc : Scope} {x : Str} (h : tgB scope sc x = true) : (relS scope sc).names.lookup x = some .local ∨ scope.names.lookup x = some .cell := by
  unfold tgB at h
  rw [Bool.or_eq_true] at h
  rcases h with h | h
  · split at h
    · exact .inl (by assumption)
    · cases h
  · split at h
    · exact .inr (by assumption)
    · cases h
theorem sc_eta (c : SC) : ({ c with sc := c.sc } : SC) = c := rfl
theorem noEx_ok {α : Type} {r : R α} {a : α} (h : r.noEx = .ok a) : r = .ok a := by cases r <;> first | exact h | cases h
theorem bind_ok_inv {α β : Type} {r : R α} {f : α → R β} {b : β} (h : r.bind f = .ok b) : ∃ a, r = .ok a ∧ f a = .ok b := by
  cases r with
  | ok a => exact ⟨a, rfl, h⟩
  | ex x => cases h
  | bad => cases h
theorem asBool_inv {d : D} {b : Bool} (h : asBool d = .ok b) : d = .bool b := by cases d <;> first | (cases h; rfl) | cases h
section
variable {X : Cx} {c : SC} {σ : L2.St} {ρ : Env} {H : Hp} {B : Addr → Prop} {scope : Scope} {i : Nat} {elt b : E} {le lb : Expr}
/-- a comprehension's turn, from its parts -/
theorem turn_of (ok : XOk fa fd n ev X c) (hh : c.hot = false) (rel : RelE B c.own ρ σ H) (hk : scope.kind = .function) (hi : c.own.contains i = false) (ge : Good fa fd n ev elt) (ce : ckE { c with sc := relS scope c.sc } 0 elt le = true) :
    TurnOk X scope le [] i σ H B (fun _ => .ok true) (fun d => (evE c.G ev elt (ρ.set i (some d))).noEx) := by
  refine ⟨fun B2 H2 v d s mv nb rd b hb Q q => ?_, fun B2 H2 v d s mv nb rd y hy Q q => ?_⟩
  · cases hb
    intro s0 H0 C cl fp pins s' I
    exact (pts_nil (X := Blk X scope s0 H0 C cl fp)).run pins s' _ H2 Q I (q H2 (L2.Same.refl _))
  · have e := noEx_ok hy
    intro s0 H0 C cl fp
    have := (ge.val 0 (by omega)).run le (Blk X scope s0 H0 C cl fp) { c with sc := relS scope c.sc } (fun _ _ _ _ => False) (σ.set i (some v)) (ρ.set i (some d)) H2 B2 (ok.blk hk) takes0 (RelE.cold (c := { c with sc := relS scope c.sc }) (rel.blk s mv nb hi rd) hh) ce
    refine this Q ?_
    rw [show evE ({ c with sc := relS scope c.sc } : SC).G ev elt (ρ.set i (some d)) = .ok y from e]
    exact fun u H' s' r => q u H' s' (r.rd rfl)
theorem turn_if (ok : XOk fa fd n ev X c) (hh : c.hot = false) (rel : RelE B c.own ρ σ H) (hk : scope.kind = .function) (hi : c.own.contains i = false) (ge : Good fa fd n ev elt) (ce : ckE { c with sc := relS scope c.sc } 0 elt le = true) (gb : Good fa fd n ev b) (cb : ckE { c with sc := relS scope c.sc } 0 b lb = true) :
    TurnOk X scope le [lb] i σ H B (fun d => ((evE c.G ev b (ρ.set i (some d))).bind asBool).noEx) (fun d => (evE c.G ev elt (ρ.set i (some d))).noEx) := by
  refine ⟨fun B2 H2 v d s mv nb rd k hb Q q => ?_, (turn_of ok hh rel hk hi ge ce).el⟩
  have e := noEx_ok hb
  intro s0 H0 C cl fp pins s' I
  have := gb.tst lb (Blk X scope s0 H0 C cl fp) { c with sc := relS scope c.sc } (fun _ _ _ _ => False) (σ.set i (some v)) (ρ.set i (some d)) H2 B2 (ok.blk hk) takes0 (RelE.cold (c := { c with sc := relS scope c.sc }) (rel.blk s mv nb hi rd) hh) cb
  refine (pts_one (X := Blk X scope s0 H0 C cl fp) pt_best).run pins s' _ H2 Q I (this Q ?_)
  rw [show (evE ({ c with sc := relS scope c.sc } : SC).G ev b (ρ.set i (some d))).bind asBool = .ok k from e]
  exact fun H' s' => q H' s'
end
end
end PV
end
section
set_option Elab.async false
set_option linter.all false
set_option maxRecDepth 100000
set_option maxHeartbeats 16000000
/-! PV16: the whole of it, by the form of the expression. -/
namespace PV
open PySem PySem.Spec PyProof.Rows L2
section
variable {fa : Nat → Addr} {fd : Nat → FuncData} {n : Nat} {ev : Nat → List D → R D}
theorem g_v (i : Nat) : Good fa fd n ev (.v i) := .plain rfl (fun c x h => by unfold ckE at h; split at h <;> first | rfl | cases h) fun m hm => ⟨fun x X c W σ ρ H B ok tk rel h => by
  unfold ckE at h
  split at h
  · rw [Bool.and_eq_true, Bool.not_eq_true'] at h
    exact snd_slot (ok.nm h.1) fun d e => let ⟨v, a, b⟩ := rel.im i d h.2 e; ⟨v, a, VR.of b fun z => nomatch z⟩
  · cases h⟩
theorem g_pk (i : Nat) : Good fa fd n ev (.pk i) := .plain rfl (fun c x h => by unfold ckE at h; split at h <;> first | rfl | cases h) fun m hm => ⟨fun x X c W σ ρ H B ok tk rel h => by
  unfold ckE at h
  split at h
  · rw [Bool.and_eq_true, Bool.and_eq_true] at h
    have h1 := of_decide_eq_true h.1.1
    exact snd_slot (ok.nm h.1.2) fun d e => let ⟨v, a, b⟩ := rel.pk i d h.2 e; ⟨v, a, b, fun z => by omega, fun z => nomatch z⟩
  · cases h⟩
theorem g_none : Good fa fd n ev .none := .plain rfl (fun c x h => by unfold ckE at h; split at h <;> first | rfl | cases h) fun m hm => ⟨fun x X c W σ ρ H B ok tk rel h => by
  unfold ckE at h
  split at h
  · exact snd_const pe_non (fun _ _ => .non) rfl
  · cases h⟩
theorem g_bool (b : Bool) : Good fa fd n ev (.bool b) := .plain rfl (fun c x h => by unfold ckE at h; split at h <;> first | rfl | cases h) fun m hm => ⟨fun x X c W σ ρ H B ok tk rel h => by
  unfold ckE at h
  split at h
  · obtain rfl := eq_of_beq h
    exact snd_const pe_bl (fun _ _ => .bl b) rfl
  · cases h⟩
theorem g_int (b : Int) : Good fa fd n ev (.int b) := .plain rfl (fun c x h => by unfold ckE at h; split at h <;> first | rfl | cases h) fun m hm => ⟨fun x X c W σ ρ H B ok tk rel h => by
  unfold ckE at h
  split at h
  · obtain rfl := eq_of_beq h
    exact snd_const pe_int (fun _ _ => .int b) rfl
  · cases h⟩
theorem g_str (b : Str) : Good fa fd n ev (.str b) := .plain rfl (fun c x h => by unfold ckE at h; split at h <;> first | rfl | cases h) fun m hm => ⟨fun x X c W σ ρ H B ok tk rel h => by
  unfold ckE at h
  split at h
  · obtain rfl := eq_of_beq h
    exact snd_const pe_str (fun _ _ => .str b) rfl
  · cases h⟩
theorem g_glob (b : Str) : Good fa fd n ev (.glob b) := .plain rfl (fun c x h => by unfold ckE at h; split at h <;> first | rfl | cases h) fun m hm => ⟨fun x X c W σ ρ H B ok tk rel h => by
  unfold ckE at h
  split at h
  · rw [Bool.and_eq_true] at h
    obtain rfl := eq_of_beq h.1
    exact snd_glob ok h.2
  · cases h⟩
section
variable {a b d : E} (ga : Good fa fd n ev a) (gb : Good fa fd n ev b) (gd : Good fa fd n ev d)
include ga gb in
theorem g_bin (o : B2) : Good fa fd n ev (.bin o a b) := .plain rfl (fun c x h => by unfold ckE at h; split at h <;> first | rfl | cases h) fun m hm => ⟨fun x X c W σ ρ H B ok tk rel h => by
  unfold ckE at h
  split at h
  · rename_i l op r p
    rw [Bool.and_eq_true, Bool.and_eq_true] at h
    obtain rfl := eq_of_beq h.1.1
    exact snd_bin ok rel.non ((ga.val 1 (by omega)).run _ X c W σ ρ H B ok tk rel h.1.2) fun H1 s => (gb.val 1 (by omega)).run _ X c W σ ρ H1 B ok tk (rel.same s) h.2
  · cases h⟩
include ga in
theorem g_neg : Good fa fd n ev (.neg a) := .plain rfl (fun c x h => by unfold ckE at h; split at h <;> first | rfl | cases h) fun m hm => ⟨fun x X c W σ ρ H B ok tk rel h => by
  unfold ckE at h
  split at h
  · exact snd_neg ((ga.val 0 (by omega)).run _ X c W σ ρ H B ok tk rel h)
  · cases h⟩
include ga gb in
theorem g_cmp (o : Cm) : Good fa fd n ev (.cmp o a b) := .gen rfl (fun m hm => ⟨fun x X c W σ ρ H B ok tk rel h => by
  unfold ckE at h
  split at h
  · rename_i l op r p
    rw [Bool.and_eq_true, Bool.and_eq_true, Bool.and_eq_true, Bool.not_eq_true'] at h
    obtain rfl := eq_of_beq h.1.1.1
    exact snd_cmp ok ((ga.val 0 (by omega)).run _ X c W σ ρ H B ok tk rel h.1.1.2) (fun H1 s => (gb.val 1 (by omega)).run _ X c W σ ρ H1 B ok tk (rel.same s) h.1.2) h.2
  · cases h⟩) fun x X c W σ ρ H B ok tk rel h => by
  unfold ckE at h
  split at h
  · rename_i l op r p
    rw [Bool.and_eq_true, Bool.and_eq_true, Bool.and_eq_true, Bool.not_eq_true'] at h
    obtain rfl := eq_of_beq h.1.1.1
    have := sndT_cmp (pos := p) ok ((ga.val 0 (by omega)).run _ X c W σ ρ H B ok tk rel h.1.1.2) (fun H1 s => (gb.val 1 (by omega)).run _ X c W σ ρ H1 B ok tk (rel.same s) h.1.2) h.2
    have e : (evE c.G ev (.cmp o a b) ρ).bind asBool = (evE c.G ev a ρ).bind fun x => (evE c.G ev b ρ).bind fun y => cmp2 o x y := by
      show ((evE c.G ev a ρ).bind fun x => (evE c.G ev b ρ).bind fun y => b2 (cmp2 o x y)).bind asBool = _
      cases evE c.G ev a ρ with
      | ok x =>
        cases evE c.G ev b ρ with
        | ok y =>
          show (b2 (cmp2 o x y)).bind asBool = cmp2 o x y
          unfold b2
          cases cmp2 o x y <;> rfl
        | ex _ => rfl
        | bad => rfl
      | ex _ => rfl
      | bad => rfl
    rw [e]
    exact this
  · cases h
theorem cm_in {o : Cm} (h1 : (cmOf o == CmpOp.In) = false) (h2 : (cmOf o == CmpOp.NotIn) = false) : o ≠ Cm.isin ∧ o ≠ Cm.nin := by
  constructor
  · intro z
    subst z
    exact absurd h1 (by decide)
  · intro z
    subst z
    exact absurd h2 (by decide)
include ga gb gd in
theorem g_chain (o o' : Cm) : Good fa fd n ev (.chain o o' a b d) := .gen rfl (fun m hm => ⟨fun x X c W σ ρ H B ok tk rel h => by
  unfold ckE at h
  split at h
  · rename_i l op op' mid r p
    simp only [Bool.and_eq_true, Bool.not_eq_true'] at h
    obtain ⟨⟨⟨⟨⟨⟨⟨⟨⟨⟨h1, h2⟩, h3⟩, h4⟩, h5⟩, h6⟩, h7⟩, h8⟩, h9⟩, h10⟩, h11⟩ := h
    obtain rfl := eq_of_beq h1
    obtain rfl := eq_of_beq h2
    exact snd_chain ok (cm_in h8 h9) (cm_in h10 h11) ((ga.val 0 (by omega)).run _ X c W σ ρ H B ok tk rel h3) (fun H1 s => (gb.val 0 (by omega)).run _ X c W σ ρ H1 B ok tk (rel.same s) h4) (fun H1 s => (gd.val 0 (by omega)).run _ X c W σ ρ H1 B ok tk (rel.same s) h5) h7
  · cases h⟩) fun x X c W σ ρ H B ok tk rel h => by
  unfold ckE at h
  split at h
  · rename_i l op op' mid r p
    simp only [Bool.and_eq_true, Bool.not_eq_true'] at h
    obtain ⟨⟨⟨⟨⟨⟨⟨⟨⟨⟨h1, h2⟩, h3⟩, h4⟩, h5⟩, h6⟩, h7⟩, h8⟩, h9⟩, h10⟩, h11⟩ := h
    obtain rfl := eq_of_beq h1
    obtain rfl := eq_of_beq h2
    exact sndT_chain ok (cm_in h8 h9) (cm_in h10 h11) ((ga.val 0 (by omega)).run _ X c W σ ρ H B ok tk rel h3) (fun H1 s => (gb.val 0 (by omega)).run _ X c W σ ρ H1 B ok tk (rel.same s) h4) (fun H1 s => (gd.val 0 (by omega)).run _ X c W σ ρ H1 B ok tk (rel.same s) h5) h7
  · cases h
include ga in
theorem g_isN : Good fa fd n ev (.isN a) := .gen rfl (fun m hm => ⟨fun x X c W σ ρ H B ok tk rel h => by
  unfold ckE at h
  split at h
  · exact snd_isN ((ga.val 1 (by omega)).run _ X c W σ ρ H B ok tk rel h)
  · cases h⟩) fun x X c W σ ρ H B ok tk rel h => by
  unfold ckE at h
  split at h
  · exact sndT_isN ((ga.val 1 (by omega)).run _ X c W σ ρ H B ok tk rel h)
  · cases h
include ga in
theorem g_notN : Good fa fd n ev (.notN a) := .gen rfl (fun m hm => ⟨fun x X c W σ ρ H B ok tk rel h => by
  unfold ckE at h
  split at h
  · exact snd_notN ((ga.val 1 (by omega)).run _ X c W σ ρ H B ok tk rel h)
  · cases h⟩) fun x X c W σ ρ H B ok tk rel h => by
  unfold ckE at h
  split at h
  · exact sndT_notN ((ga.val 1 (by omega)).run _ X c W σ ρ H B ok tk rel h)
  · cases h
include ga in
theorem g_not : Good fa fd n ev (.not a) := .gen rfl (fun m hm => ⟨fun x X c W σ ρ H B ok tk rel h => by
  unfold ckE at h
  split at h
  · exact snd_not ((ga.val 0 (by omega)).run _ X c W σ ρ H B ok tk rel h)
  · cases h⟩) fun x X c W σ ρ H B ok tk rel h => by
  unfold ckE at h
  split at h
  · rename_i l p1
    have := sndT_not (pos := p1) (ga.tst _ X c W σ ρ H B ok tk rel h)
    have e : (evE c.G ev (.not a) ρ).bind asBool = ((evE c.G ev a ρ).bind asBool).bind fun k => .ok (!k) := by
      show ((evE c.G ev a ρ).bind fun x => (asBool x).bind fun b => R.ok (.bool (!b))).bind asBool = _
      cases evE c.G ev a ρ with
      | ok x => cases x <;> rfl
      | ex _ => rfl
      | bad => rfl
    rw [e]
    exact this
  · cases h
include ga gb gd in
theorem g_ite : Good fa fd n ev (.ite d a b) := .gen rfl (fun m hm => ⟨fun x X c W σ ρ H B ok tk rel h => by
  unfold ckE at h
  split at h
  · rename_i t l r p
    rw [Bool.and_eq_true, Bool.and_eq_true] at h
    have := snd_ite (m := m) (pos := p) (gd.tst _ X c W σ ρ H B ok tk rel h.1.1) (fun H1 s => (ga.val 0 (by omega)).run _ X c W σ ρ H1 B ok tk (rel.same s) h.1.2) (fun H1 s => (gb.val 0 (by omega)).run _ X c W σ ρ H1 B ok tk (rel.same s) h.2)
    rw [bind_assoc] at this
    exact this
  · cases h⟩) fun x X c W σ ρ H B ok tk rel h => by
  unfold ckE at h
  split at h
  · rename_i t l r p
    rw [Bool.and_eq_true, Bool.and_eq_true] at h
    have := sndT_ite (pos := p) (gd.tst _ X c W σ ρ H B ok tk rel h.1.1) (fun H1 s => ga.tst _ X c W σ ρ H1 B ok tk (rel.same s) h.1.2) (fun H1 s => gb.tst _ X c W σ ρ H1 B ok tk (rel.same s) h.2)
    have e : (evE c.G ev (.ite d a b) ρ).bind asBool = ((evE c.G ev d ρ).bind asBool).bind fun k => if k = true then (evE c.G ev a ρ).bind asBool else (evE c.G ev b ρ).bind asBool := by
      show ((evE c.G ev d ρ).bind fun x => (asBool x).bind fun k => if k = true then evE c.G ev a ρ else evE c.G ev b ρ).bind asBool = _
      cases evE c.G ev d ρ with
      | ok x =>
        cases x with
        | bool k => cases k <;> rfl
        | _ => rfl
      | ex _ => rfl
      | bad => rfl
    rw [e]
    exact this
  · cases h
include ga gb in
theorem g_ix : Good fa fd n ev (.ix a b) := .plain rfl (fun c x h => by unfold ckE at h; split at h <;> first | rfl | cases h) fun m hm => ⟨fun x X c W σ ρ H B ok tk rel h => by
  unfold ckE at h
  split at h
  · rw [Bool.and_eq_true, Bool.and_eq_true] at h
    exact snd_ix ok rel.non ((ga.val 1 (by omega)).run _ X c W σ ρ H B ok tk rel h.1.1) (fun H1 s => (gb.val 0 (by omega)).run _ X c W σ ρ H1 B ok tk (rel.same s) h.1.2) (noSlice_plain h.2)
  · cases h⟩
include ga gb gd in
theorem g_sl : Good fa fd n ev (.sl a b d) := .plain rfl (fun c x h => by unfold ckE at h; split at h <;> first | rfl | cases h) fun m hm => ⟨fun x X c W σ ρ H B ok tk rel h => by
  unfold ckE at h
  split at h
  · rw [Bool.and_eq_true, Bool.and_eq_true] at h
    exact snd_sl rel.non ((ga.val 1 (by omega)).run _ X c W σ ρ H B ok tk rel h.1.1) (fun H1 s => (gb.val 0 (by omega)).run _ X c W σ ρ H1 B ok tk (rel.same s) h.1.2) (fun H1 s => (gd.val 0 (by omega)).run _ X c W σ ρ H1 B ok tk (rel.same s) h.2)
  · cases h⟩
include ga gb in
theorem g_slL : Good fa fd n ev (.slL a b) := .plain rfl (fun c x h => by unfold ckE at h; split at h <;> first | rfl | cases h) fun m hm => ⟨fun x X c W σ ρ H B ok tk rel h => by
  unfold ckE at h
  split at h
  · rw [Bool.and_eq_true] at h
    exact snd_slL rel.non ((ga.val 1 (by omega)).run _ X c W σ ρ H B ok tk rel h.1) (fun H1 s => (gb.val 0 (by omega)).run _ X c W σ ρ H1 B ok tk (rel.same s) h.2)
  · cases h⟩
include ga gb in
theorem g_slH : Good fa fd n ev (.slH a b) := .plain rfl (fun c x h => by unfold ckE at h; split at h <;> first | rfl | cases h) fun m hm => ⟨fun x X c W σ ρ H B ok tk rel h => by
  unfold ckE at h
  split at h
  · rw [Bool.and_eq_true] at h
    exact snd_slH rel.non ((ga.val 1 (by omega)).run _ X c W σ ρ H B ok tk rel h.1) (fun H1 s => (gb.val 0 (by omega)).run _ X c W σ ρ H1 B ok tk (rel.same s) h.2)
  · cases h⟩
theorem g_dT : Good fa fd n ev .dT := .plain rfl (fun c x h => by unfold ckE at h; split at h <;> first | rfl | cases h) fun m hm => ⟨fun x X c W σ ρ H B ok tk rel h => by
  unfold ckE at h
  split at h
  · exact snd_dT rel.non
  · cases h⟩
include ga in
theorem g_f1 (f : F1) : Good fa fd n ev (.f1 f a) := .plain rfl (fun c x h => by unfold ckE at h; split at h <;> first | rfl | cases h) fun m hm => ⟨fun x X c W σ ρ H B ok tk rel h => by
  unfold ckE at h
  split at h
  · rename_i y p1 l p2
    rw [Bool.and_eq_true, Bool.not_eq_true'] at h
    obtain ⟨h, hh⟩ := h
    rw [Bool.and_eq_true, Bool.and_eq_true] at h
    obtain rfl := eq_of_beq h.1.1
    have := snd_f1 (m := m) (p := p1) (pos := p2) ok hh rel.non h.1.2 (ck_ns h.2) ((ga.val 1 (by omega)).run _ X c W σ ρ H B ok tk rel h.2)
    refine this.wk (fun z => z) ?_
    cases f <;> intro z <;> first | rfl | cases z
  · cases h⟩
include ga gb in
theorem g_mx2 : Good fa fd n ev (.mx2 a b) := .plain rfl (fun c x h => by unfold ckE at h; split at h <;> first | rfl | cases h) fun m hm => ⟨fun x X c W σ ρ H B ok tk rel h => by
  unfold ckE at h
  split at h
  · rw [Bool.and_eq_true, Bool.not_eq_true'] at h
    obtain ⟨h, hh⟩ := h
    rw [Bool.and_eq_true, Bool.and_eq_true, Bool.and_eq_true] at h
    obtain rfl := eq_of_beq h.1.1.1
    exact snd_mx2 ok hh h.1.1.2 (ck_ns h.1.2) (ck_ns h.2) ((ga.val 0 (by omega)).run _ X c W σ ρ H B ok tk rel h.1.2) (fun H1 s => (gb.val 0 (by omega)).run _ X c W σ ρ H1 B ok tk (rel.same s) h.2)
  · cases h⟩
include ga gb in
theorem g_mn2 : Good fa fd n ev (.mn2 a b) := .plain rfl (fun c x h => by unfold ckE at h; split at h <;> first | rfl | cases h) fun m hm => ⟨fun x X c W σ ρ H B ok tk rel h => by
  unfold ckE at h
  split at h
  · rw [Bool.and_eq_true, Bool.not_eq_true'] at h
    obtain ⟨h, hh⟩ := h
    rw [Bool.and_eq_true, Bool.and_eq_true, Bool.and_eq_true] at h
    obtain rfl := eq_of_beq h.1.1.1
    exact snd_mn2 ok hh h.1.1.2 (ck_ns h.1.2) (ck_ns h.2) ((ga.val 0 (by omega)).run _ X c W σ ρ H B ok tk rel h.1.2) (fun H1 s => (gb.val 0 (by omega)).run _ X c W σ ρ H1 B ok tk (rel.same s) h.2)
  · cases h⟩
include ga in
theorem g_isa (t : Ty) : Good fa fd n ev (.isa t a) := .plain rfl (fun c x h => by unfold ckE at h; split at h <;> first | rfl | cases h) fun m hm => ⟨fun x X c W σ ρ H B ok tk rel h => by
  unfold ckE at h
  split at h
  · simp only [Bool.and_eq_true] at h
    obtain ⟨⟨⟨⟨h1, h2⟩, h3⟩, h4⟩, h5⟩ := h
    obtain rfl := eq_of_beq h1
    obtain rfl := eq_of_beq h3
    exact snd_isa ok h2 h4 (ck_ns h5) ((ga.val 1 (by omega)).run _ X c W σ ρ H B ok tk rel h5)
  · cases h⟩
include ga in
theorem g_lenset : Good fa fd n ev (.lenset a) := .plain rfl (fun c x h => by unfold ckE at h; split at h <;> first | rfl | cases h) fun m hm => ⟨fun x X c W σ ρ H B ok tk rel h => by
  unfold ckE at h
  split at h
  · rw [Bool.and_eq_true, Bool.not_eq_true'] at h
    obtain ⟨h, hh⟩ := h
    simp only [Bool.and_eq_true] at h
    obtain ⟨⟨⟨⟨h1, h2⟩, h3⟩, h4⟩, h5⟩ := h
    obtain rfl := eq_of_beq h1
    obtain rfl := eq_of_beq h2
    exact snd_lenset ok hh h3 h4 (ck_ns h5) ((ga.val 1 (by omega)).run _ X c W σ ρ H B ok tk rel h5)
  · cases h⟩
include ga in
theorem g_sortk (f : Str) : Good fa fd n ev (.sortk f a) := .plain rfl (fun c x h => by unfold ckE at h; split at h <;> first | rfl | cases h) fun m hm => ⟨fun x X c W σ ρ H B ok tk rel h => by
  unfold ckE at h
  split at h
  · rw [Bool.and_eq_true, Bool.not_eq_true'] at h
    obtain ⟨h, hh⟩ := h
    simp only [Bool.and_eq_true] at h
    obtain ⟨⟨⟨⟨⟨⟨h1, h2⟩, h3⟩, h4⟩, h5⟩, h6⟩, h7⟩ := h
    obtain rfl := eq_of_beq h1
    obtain rfl := eq_of_beq h2
    obtain rfl := eq_of_beq h3
    exact (snd_sortk ok hh rel.non (List.contains_iff_mem.mp h4) h5 h6 (ck_ns h7) ((ga.val 1 (by omega)).run _ X c W σ ρ H B ok tk rel h7)).wk (fun z => z) (fun z => rfl)
  · cases h⟩
theorem base_of {x : Expr} (h : notCall x = true) (mt : Str) (env : PySem.Env) : attributeBase x mt env (eval x env) = eval x env := by
  cases x <;> first | rfl | cases h
include ga gb gd in
theorem g_get2 : Good fa fd n ev (.get2 a b d) := .plain rfl (fun c x h => by unfold ckE at h; split at h <;> first | rfl | cases h) fun m hm => ⟨fun x X c W σ ρ H B ok tk rel h => by
  unfold ckE at h
  split at h
  · rw [Bool.and_eq_true, Bool.not_eq_true'] at h
    obtain ⟨h, hh⟩ := h
    simp only [Bool.and_eq_true] at h
    obtain ⟨⟨⟨⟨⟨⟨⟨h1, h2⟩, h3⟩, h4⟩, h5⟩, h6⟩, h7⟩, h8⟩ := h
    obtain rfl := eq_of_beq h1
    exact snd_get2 ok hh (base_of h3 _ _) h2 h7 h8 ((ga.val 1 (by omega)).run _ X c W σ ρ H B ok tk rel h4) (fun H1 s => (gb.val 0 (by omega)).run _ X c W σ ρ H1 B ok tk (rel.same s) h5) (fun H1 s => (gd.val 0 (by omega)).run _ X c W σ ρ H1 B ok tk (rel.same s) h6)
  · cases h⟩
include ga gb in
theorem g_index : Good fa fd n ev (.index a b) := .plain rfl (fun c x h => by unfold ckE at h; split at h <;> first | rfl | cases h) fun m hm => ⟨fun x X c W σ ρ H B ok tk rel h => by
  unfold ckE at h
  split at h
  · simp only [Bool.and_eq_true] at h
    obtain ⟨⟨⟨⟨⟨h1, h2⟩, h3⟩, h4⟩, h5⟩, h6⟩ := h
    obtain rfl := eq_of_beq h1
    exact snd_index ok (base_of h3 _ _) h2 h6 ((ga.val 1 (by omega)).run _ X c W σ ρ H B ok tk rel h4) (fun H1 s => (gb.val 0 (by omega)).run _ X c W σ ρ H1 B ok tk (rel.same s) h5)
  · cases h⟩
end
end
end PV
end
section
set_option Elab.async false
set_option linter.all false
set_option maxRecDepth 100000
set_option maxHeartbeats 4000000
/-! PVX: isinstance of a caught error that has a dict; its fields. -/
namespace PV
open PySem PySem.W PySem.Spec PySem.Calls PyProof.Rows
section
variable {prog : Program} {w : World} {A : Around} {E : Value → Shared → Prop} {s : Shared} {K : Frag} {x D : Addr} {ox : Obj} {od : Option (List (Str × Value))}
theorem obj_data {C : Addr} {nm : Str} {a g : Value} {od} (h1 : (clsIn K C).isSome = true) (h2 : findIn K (.ref C) nm = some (some a)) (h3 : specialIn K a "__get__" = some (some g)) (h4 : takesIn K a = some true) : findObj K C od nm = some (.bind g a) := by
  obtain ⟨cd, h1⟩ := Option.isSome_iff_exists.mp h1
  unfold findObj
  rw [h1, Option.bind_some, h2, Option.bind_some]
  simp [h3, h4]
theorem class_of {od} {Q : Option Value → Shared → Prop} (C : L2.ExcC K D) (X : K.In s.heap) (I : InstAt s.heap x ox D od) (h : Q (some (.ref D)) { s with toks := s.toks + 1 }) : wpAny (model prog w) A (getAttr? (.ref x) "__class__") Q E s := by
  have hf : findObj K D od "__class__" = some (.bind (.builtin "getset_descriptor.__get__") (.builtin "object.__class__")) := obj_data (by obtain ⟨cd, hc, _⟩ := any_some C.hd; rw [hc]; rfl) C.ha C.hn C.ht
  obtain ⟨hp, g, d, t, os⟩ := s
  have l0 := I.type (M := model prog w)
  have l1 := looks_findIn (M := model prog w) X C.hg
  have l2 := looks_findIn (M := model prog w) X C.hk
  have l3 := looks_find (M := model prog w) X I hf
  have lsub : Looks (model prog w) hp (isInstance (.ref x) (.type "BaseException")) true := l0.andThen (looks_subIn X C.hs)
  have e0 : (false && onTheHeap (Value.builtin "BaseException.__getattribute__")) = false := rfl
  have e2 : (Value.builtin "BaseException.__getattribute__" == Value.builtin "object.__getattribute__") = false := by decide +kernel
  have e1 : (onTheHeap (Value.ref D) && Value.builtin "BaseException.__getattribute__" == Value.builtin "object.__getattribute__") = false := by rw [e2]; rfl
  unfold getAttr? getAttrBy? getAttrBy
  refine wpAny_bind (wpAny_mkText (wpAny_bind (wpAny_attempt (wpAny_holding (wpAny_bind (l0.at (wpAny_bind (l1.at ?_))))))))
  show wpAny _ _ (if (onTheHeap (Value.ref D) && Value.builtin "BaseException.__getattribute__" == Value.builtin "object.__getattribute__") = true then _ else _) _ _ _
  rw [e1, if_neg Bool.false_ne_true]
  unfold getAttrByItsOwn hookBefore
  refine wpAny_bind ?_
  rw [if_pos (show onTheHeap (Value.ref D) = true from rfl)]
  refine l2.at ?_
  refine wpAny_bind (wpAny_attempt (wpAny_holding ?_))
  unfold callGetattribute
  rw [e0, if_neg Bool.false_ne_true]
  unfold boundAndCalled
  rw [PySem.F.excAttr_ValueError.ga.bind (.ref x)]
  refine wpAny_bind (wpAny_pure ?_)
  show wpAny _ _ (call (.builtin "BaseException.__getattribute__") [.ref x, .str "__class__" t]) _ _ _
  refine wpAny_call (codeAny_call_builtin PySem.F.excAttr_ValueError.ga.plain PySem.F.entry_bexc_ga ?_)
  refine @check_slot (model prog w) _ _ ⟨hp, g, d, t + 1, os⟩ "BaseException.__getattribute__" "BaseException" "__getattribute__" (.ref x) [.str "__class__" t] [] _ (by decide +kernel) (by decide +kernel) lsub (PySem.F.args_bexc_ga (.ref x) (.str "__class__" t)) ?_
  unfold Builtin.«object.__getattribute__»
  refine wpAny_bind (wpAny_of_eq (a := ((Value.ref x : Value), [Value.str "__class__" t])) (by first | rfl | (simp only [slotArgs]; rfl)) ?_)
  refine wpAny_bind (wpAny_pure (wpAny_bind (l0.at (wpAny_bind (l3.at ?_)))))
  show wpAny _ _ (holding [Value.builtin "object.__class__"] (call (.builtin "getset_descriptor.__get__") [.builtin "object.__class__", .ref x, .ref D]) >>= ret) _ _ _
  refine wpAny_bind (wpAny_holding (wpAny_call (class_get (s := ⟨hp, g, d, t + 1, os⟩) (ox := ox) (od := od) X I C.hm ?_)))
  refine wpAny_pure ?_
  show wpAny _ _ (handedOut (.ref D)) _ _ _
  rw [handedOut_of (v := .ref D) rfl]
  first
    | exact wpAny_pure (wpAny_pure h)
    | exact wpAny_pure h
    | exact wpAny_pure (wpAny_bind (wpAny_pure (wpAny_pure h)))
theorem kitx_of {od} (C : L2.ExcC K D) : KitX K (.ref x) (.ref D) (fun h => InstAt h x ox D od) where
  ty := fun _ _ _ I => I.type
  it := fun _ _ X _ => by
    obtain ⟨cdD, hcD, _⟩ := any_some C.hd
    unfold clsIn at hcD
    split at hcD
    · rename_i c' d' cd' sl' ho
      intro A' Q' E' s' k q
      unfold isType loadHead
      exact wpAny_bind (wpAny_loadPart (k _ _ (X _ _ ho)) (wpAny_pure q))
    · cases hcD
  ne := fun h tp dd its n sl X htp => by
    obtain ⟨cdD, hcD, _⟩ := any_some C.hd
    refine Bool.eq_false_iff.mpr fun q => ?_
    have e : D = tp := Value.ref.inj (beq_iff_eq.mp q)
    subst e
    unfold clsIn at hcD
    split at hcD
    · rename_i c' d' cd' sl' ho
      have z := (X _ _ ho).symm.trans htp
      cases z
    · cases hcD
  ca := fun X I k => class_of C X I k
end
end PV
namespace PV
open PySem PySem.Spec PyProof.Rows L2
/-- isinstance(e, c), e the error that the suite holds -/
theorem call_isX {X : Cx} {a D : Addr} {oe : Obj} {pn : List (Addr × Obj)} {d : Addr} (C : ExcC X.K D) (hz : Zc (.ref D) (some d) oe) (hf : ∃ vs, oe.data = .fields vs) :
    CallR (X.suite a ((a, oe) :: pn)) (.builtin "isinstance") (fun xs H Q => ∃ (c : V) (cv : Value) (b : Bool) (fs : List (Str × V)), xs = [.ref a, c] ∧ (∀ u, RelV c u → u = cv) ∧ PySem.W.kitOne X.K (.ref D) cv = some b ∧ H d = some (.xd fs) ∧ Q (.bl b) H) := by
  intro pins s σ H xs us Q I r h
  obtain ⟨c, cv, b, fs, rfl, hcv, e, hd, q⟩ := h
  obtain ⟨u1, u2, rfl, r1, r2⟩ := vals2 r
  obtain rfl : u1 = Value.ref a := r1
  obtain rfl := hcv _ r2
  obtain ⟨hget, _⟩ := I.pin (a, oe) (List.mem_append.mpr (.inl List.mem_cons_self))
  obtain ⟨vs, hv⟩ := hf
  have hx : ObjOk X.prog X.w H s.heap d (.xd fs) := I.hok d _ hd
  obtain ⟨mA, hns, _⟩ := hx
  obtain ⟨od, ho, _⟩ := lookIn_ns hns
  have J : PySem.W.InstAt s.heap a oe D (some od) := ⟨hget, hz.1, by unfold PySem.W.notCls; rw [hv] <;> rfl, by rw [hz.2]; exact ho⟩
  exact PySem.W.kia_one (kitx_of C) I.kIn J e (fun z => nomatch z) fun tk => ⟨.bl b, H, I.kept (t' := tk) fun _ _ z => z, rfl, q⟩
end PV
end
section
set_option Elab.async false
set_option linter.all false
set_option maxRecDepth 100000
set_option maxHeartbeats 16000000
/-! PV17: lists of expressions, calls, comprehensions; every expression. -/
namespace PV
open PySem PySem.Spec PyProof.Rows L2
section
variable {fa : Nat → Addr} {fd : Nat → FuncData} {n : Nat} {ev : Nat → List D → R D}
theorem SndA.nil {X : Cx} {W : WX} {σ : L2.St} {H : Hp} {B : Addr → Prop} : SndA X W [] σ H B (.ok []) := fun Q q => PA.best pa_nil (q [] H (L2.Same.refl H) .nil rfl)
theorem SndK.nil {X : Cx} {W : WX} {σ : L2.St} {H : Hp} {B : Addr → Prop} : SndK X W [] σ H B (.ok []) := fun Q q => PK.best pk_nil (q [] H (L2.Same.refl H) .nil rfl)
theorem gs_nil : GoodS fa fd n ev .nil := by
  refine ⟨fun l X c W σ ρ H B ok tk rel h => ?_, fun l X c W σ ρ H B ok tk rel h => ?_, fun l X c W σ ρ H B pos ok tk rel h => ⟨fun Q q => q.elim, fun Q q => q.elim⟩, fun l X c W σ ρ H B pos ok tk rel h => ⟨fun Q q => q.elim, fun Q q => q.elim⟩⟩
  · cases l with
    | nil => exact SndA.nil
    | cons x xs => unfold ckEs at h; cases h
  · cases l with
    | nil => exact SndK.nil
    | cons x xs => unfold ckKs at h; cases h
theorem ckEs_cons {c : SC} {e : E} {r : Es} {l : List Expr} (h : ckEs c (.cons e r) l = true) : ∃ x xs, l = x :: xs ∧ ckE c 0 e x = true ∧ notStar x = true ∧ ckEs c r xs = true := by
  cases l with
  | nil => unfold ckEs at h; cases h
  | cons x xs =>
    unfold ckEs at h
    rw [Bool.and_eq_true, Bool.and_eq_true] at h
    exact ⟨x, xs, rfl, h.1.1, h.1.2, h.2⟩
theorem ckEs_nil {c : SC} {l : List Expr} (h : ckEs c .nil l = true) : l = [] := by
  cases l with
  | nil => rfl
  | cons x xs => unfold ckEs at h; cases h
theorem asBool_assoc {r : R D} {f : Bool → R D} {g : Bool → R Bool} (h : ∀ k, (f k).bind asBool = g k) : (r.bind fun x => (asBool x).bind f).bind asBool = (r.bind asBool).bind g := by
  cases r with
  | ok x =>
    cases x with
    | bool k => exact h k
    | _ => rfl
  | ex x => rfl
  | bad => rfl
theorem gs_cons {e : E} {r : Es} (ge : Good fa fd n ev e) (gr : GoodS fa fd n ev r) : GoodS fa fd n ev (.cons e r) := by
  refine ⟨fun l X c W σ ρ H B ok tk rel h => ?_, fun l X c W σ ρ H B ok tk rel h => ?_, fun l X c W σ ρ H B pos ok tk rel h => ?_, fun l X c W σ ρ H B pos ok tk rel h => ?_⟩
  · obtain ⟨x, xs, rfl, h1, h2, h3⟩ := ckEs_cons h
    refine fun Q q => PA.best (pa_cons pe_best pa_best (star1 h2 xs X.env)) ?_
    refine ((ge.val 0 (by omega)).run _ X c W σ ρ H B ok tk rel h1).thn q fun d v H1 _ s1 r1 q1 => ?_
    refine (gr.arg _ X c W σ ρ H1 B ok tk (rel.same s1) h3).thn q1 fun ds vs H2 _ s2 r2 l2 q2 => ?_
    exact q2 _ _ (s1.trans s2) (.cons ((r1.rd rfl).mv (.same s2)) r2) (by rw [List.length_cons, List.length_cons, l2])
  · cases l with
    | nil => unfold ckKs at h; cases h
    | cons k ks =>
      obtain ⟨nm, x, kp⟩ := k
      unfold ckKs at h
      rw [Bool.and_eq_true] at h
      refine fun Q q => PK.best (pk_cons pe_best pk_best) ?_
      refine ((ge.val 0 (by omega)).run _ X c W σ ρ H B ok tk rel h.1).thn q fun d v H1 _ s1 r1 q1 => ?_
      refine gr.kwd _ X c W σ ρ H1 B ok tk (rel.same s1) h.2 _ (Ct.imp q1.bind fun ds _ q2 vs H2 s2 r2 l2 => ?_)
      exact q2 _ _ (s1.trans s2) (.cons ((r1.rd rfl).mv (.same s2)) r2) (by rw [List.length_cons, List.length_cons, l2])
  · obtain ⟨x, xs, rfl, h1, h2, h3⟩ := ckEs_cons h
    cases r with
    | nil =>
      obtain rfl := ckEs_nil h3
      exact ⟨(snd_one ((ge.val 0 (by omega)).run _ X c W σ ρ H B ok tk rel h1)).wk (fun z => z) (fun z => nomatch z), sndW_and1 (ge.tst _ X c W σ ρ H B ok tk rel h1)⟩
    | cons e' r' =>
      obtain ⟨x', xs', rfl, _⟩ := ckEs_cons h3
      refine ⟨snd_and ((ge.val 0 (by omega)).run _ X c W σ ρ H B ok tk rel h1) fun H1 s => (gr.and _ X c W σ ρ H1 B pos ok tk (rel.same s) h3).1, ?_⟩
      have := sndW_and (pos := pos) (ge.tst _ X c W σ ρ H B ok tk rel h1) fun H1 s => (gr.and _ X c W σ ρ H1 B pos ok tk (rel.same s) h3).2
      have e : (evAnd c.G ev (.cons e (.cons e' r')) ρ).bind asBool = ((evE c.G ev e ρ).bind asBool).bind fun k => if k = true then (evAnd c.G ev (.cons e' r') ρ).bind asBool else .ok false := by
        exact asBool_assoc fun k => by cases k <;> rfl
      rw [e]
      exact this
  · obtain ⟨x, xs, rfl, h1, h2, h3⟩ := ckEs_cons h
    cases r with
    | nil =>
      obtain rfl := ckEs_nil h3
      exact ⟨(snd_one ((ge.val 0 (by omega)).run _ X c W σ ρ H B ok tk rel h1)).wk (fun z => z) (fun z => nomatch z), sndW_or1 (ge.tst _ X c W σ ρ H B ok tk rel h1)⟩
    | cons e' r' =>
      obtain ⟨x', xs', rfl, _⟩ := ckEs_cons h3
      refine ⟨snd_or ((ge.val 0 (by omega)).run _ X c W σ ρ H B ok tk rel h1) fun H1 s => (gr.or _ X c W σ ρ H1 B pos ok tk (rel.same s) h3).1, ?_⟩
      have := sndW_or (pos := pos) (ge.tst _ X c W σ ρ H B ok tk rel h1) fun H1 s => (gr.or _ X c W σ ρ H1 B pos ok tk (rel.same s) h3).2
      have e : (evOr c.G ev (.cons e (.cons e' r')) ρ).bind asBool = ((evE c.G ev e ρ).bind asBool).bind fun k => if k = true then .ok true else (evOr c.G ev (.cons e' r') ρ).bind asBool := by
        exact asBool_assoc fun k => by cases k <;> rfl
      rw [e]
      exact this
theorem ckEs_stars {c : SC} : ∀ {r : Es} {l : List Expr}, ckEs c r l = true → l.all notStar = true
  | .nil, l, h => by rw [ckEs_nil h]; rfl
  | .cons e r, l, h => by
    obtain ⟨x, xs, rfl, _, h2, h3⟩ := ckEs_cons h
    rw [List.all_cons, h2, ckEs_stars h3]; rfl

theorem g_and {es : Es} (gs : GoodS fa fd n ev es) : Good fa fd n ev (.and es) := .gen rfl (fun m hm => ⟨fun x X c W σ ρ H B ok tk rel h => by
  unfold ckE at h
  split at h
  · exact ((gs.and _ X c W σ ρ H B _ ok tk rel h).1).wk (fun _ => rfl) (fun z => nomatch z)
  · cases h⟩) fun x X c W σ ρ H B ok tk rel h => by
  unfold ckE at h
  split at h
  · exact ((gs.and _ X c W σ ρ H B _ ok tk rel h).2).t
  · cases h
theorem g_or {es : Es} (gs : GoodS fa fd n ev es) : Good fa fd n ev (.or es) := .gen rfl (fun m hm => ⟨fun x X c W σ ρ H B ok tk rel h => by
  unfold ckE at h
  split at h
  · exact ((gs.or _ X c W σ ρ H B _ ok tk rel h).1).wk (fun _ => rfl) (fun z => nomatch z)
  · cases h⟩) fun x X c W σ ρ H B ok tk rel h => by
  unfold ckE at h
  split at h
  · exact ((gs.or _ X c W σ ρ H B _ ok tk rel h).2).t
  · cases h
theorem g_tup {es : Es} (gs : GoodS fa fd n ev es) : Good fa fd n ev (.tup es) := .plain rfl (fun c x h => by unfold ckE at h; split at h <;> first | rfl | cases h) fun m hm => ⟨fun x X c W σ ρ H B ok tk rel h => by
  unfold ckE at h
  split at h
  · rw [Bool.and_eq_true] at h
    exact snd_tup (gs.arg _ X c W σ ρ H B ok tk rel h.1) (of_decide_eq_true h.2)
  · cases h⟩
theorem g_lst {es : Es} (gs : GoodS fa fd n ev es) : Good fa fd n ev (.lst es) := .plain rfl (fun c x h => by unfold ckE at h; split at h <;> first | rfl | cases h) fun m hm => ⟨fun x X c W σ ρ H B ok tk rel h => by
  unfold ckE at h
  split at h
  · rw [Bool.and_eq_true] at h
    exact snd_lst rel.non (gs.arg _ X c W σ ρ H B ok tk rel h.1) (of_decide_eq_true h.2)
  · cases h⟩
theorem g_call {as ks : Es} (f : Nat) (dfl : List D) (ga : GoodS fa fd n ev as) (gk : GoodS fa fd n ev ks) : Good fa fd n ev (.call f as ks dfl) := .plain rfl (fun c x h => by unfold ckE at h; split at h <;> first | rfl | cases h) fun m hm => ⟨fun x X c W σ ρ H B ok tk rel h => by
  unfold ckE at h
  split at h
  · rename_i y p1 args kws p2
    rw [Bool.and_eq_true, Bool.not_eq_true'] at h
    obtain ⟨hh, h⟩ := h
    split at h
    · rename_i i hT
      simp only [Bool.and_eq_true] at h
      obtain ⟨⟨⟨⟨⟨h1, h2⟩, h3⟩, h4⟩, h5⟩, h6⟩ := h
      obtain rfl := eq_of_beq h1
      split at h6
      · rename_i ns hns
        obtain ⟨sh, hm1, hsh⟩ := List.any_eq_true.mp h6
        simp only [Bool.and_eq_true] at hsh
        obtain ⟨⟨⟨k1, k2⟩, k3⟩, k4⟩ := hsh
        obtain ⟨e1, e2⟩ := eqDs_of k3
        have k1 := eq_of_beq k1
        have k2 := eq_of_beq k2
        have k4 := of_decide_eq_true k4
        cases args with
        | nil => cases h4
        | cons e0 es0 =>
          have hsh : (es0.length + 1, ns, dfl) ∈ i.shapes := by
            obtain ⟨a1, a2, a3⟩ := sh
            simp only at k1 k2 e1
            rw [e1, ← k2]
            have : a1 = es0.length + 1 := k1
            rw [← this]
            exact hm1
          exact snd_call ok hh tk rel.non hT h2 hns (ckEs_stars h3) hsh e2 (by simpa using k4) (ga.arg _ X c W σ ρ H B ok tk rel h3) (fun H1 s => gk.kwd _ X c W σ ρ H1 B ok tk (rel.same s) h5)
      · cases h6
    · cases h
  · cases h⟩
theorem noEx_fn {f : D → R D} : ∀ d x, (fun d => (f d).noEx) d ≠ .ex x := fun d x => noEx_ne
theorem g_comp {elt it : E} (i : Nat) (ge : Good fa fd n ev elt) (gi : Good fa fd n ev it) : Good fa fd n ev (.comp elt i it) := .plain rfl (fun c x h => by unfold ckE at h; split at h <;> first | rfl | cases h) fun m hm => ⟨fun x X c W σ ρ H B ok tk rel h => by
  unfold ckE at h
  split at h
  · rename_i l y p1 e0 sc p2
    rw [Bool.and_eq_true, Bool.not_eq_true'] at h
    obtain ⟨h, hh⟩ := h
    simp only [Bool.and_eq_true, Bool.not_eq_true'] at h
    obtain ⟨⟨⟨⟨⟨⟨h1, h2⟩, h3⟩, h4⟩, h5⟩, h6⟩, h7⟩ := h
    have okb : BlkOk X.N X.env.scope sc [(y, i)] := by rw [ok.N, ok.sc]; exact blkOk_by h3
    have := snd_lc (m := m) (σ := σ) (pos := p2) (px := p1) (ok.calm hh) ok.nd rel.non (gi.itr false _ X c W σ ρ H B (.Name y p1) ok tk rel h1 (fun z => nomatch z)) okb (by rw [ok.sc]; exact locB_of h4) (by rw [ok.sc]; exact tgB_of h5) (ck_set h1 X.env) (fun d x z => by cases z) (fun d x => noEx_ne) (turn_of ok hh rel.toRelE okb.kind h6 ge h7)
    have e : (evE c.G ev (.comp elt i it) ρ) = ((evE c.G ev it ρ).bind items).bind fun xs => (filterMapR (fun _ => .ok true) (fun d => (evE c.G ev elt (ρ.set i (some d))).noEx) xs).bind fun ys => .ok (.list ys) := by
      show ((evE c.G ev it ρ).bind items).bind _ = _
      congr 1
      funext xs
      rw [mapR_filter]
    rw [e]
    exact this
  · cases h⟩
theorem g_compIf {elt it t : E} (i : Nat) (ge : Good fa fd n ev elt) (gi : Good fa fd n ev it) (gt : Good fa fd n ev t) : Good fa fd n ev (.compIf elt i it t) := .plain rfl (fun c x h => by unfold ckE at h; split at h <;> first | rfl | cases h) fun m hm => ⟨fun x X c W σ ρ H B ok tk rel h => by
  unfold ckE at h
  split at h
  · rename_i l y p1 e0 b0 sc p2
    rw [Bool.and_eq_true, Bool.not_eq_true'] at h
    obtain ⟨h, hh⟩ := h
    simp only [Bool.and_eq_true, Bool.not_eq_true'] at h
    obtain ⟨⟨⟨⟨⟨⟨⟨h1, h2⟩, h3⟩, h4⟩, h5⟩, h6⟩, h7⟩, h8⟩ := h
    have okb : BlkOk X.N X.env.scope sc [(y, i)] := by rw [ok.N, ok.sc]; exact blkOk_by h3
    exact snd_lc (m := m) (σ := σ) (pos := p2) (px := p1) (ok.calm hh) ok.nd rel.non (gi.itr false _ X c W σ ρ H B (.Name y p1) ok tk rel h1 (fun z => nomatch z)) okb (by rw [ok.sc]; exact locB_of h4) (by rw [ok.sc]; exact tgB_of h5) (ck_set h1 X.env) (fun d x => noEx_ne) (fun d x => noEx_ne) (turn_if ok hh rel.toRelE okb.kind h6 ge h7 gt h8)
  · cases h⟩
theorem slot_dict {mg : Str → Option Value} {W : WX} {σ : L2.St} {H : Hp} {B : Addr → Prop} {ρ : Env} {j : Nat} {α : Type} {f : List D → R α} {okp : α → Prop} (q : Ct mg W σ H B (((slot ρ j).bind dkeys).bind f) okp) : ∃ ds, ρ[j]? = some (some (.dict ds)) ∧ Ct mg W σ H B (f (ds.map (·.1))) okp := by
  unfold slot at q
  split at q
  · rename_i d hd
    cases d with
    | dict ds => exact ⟨ds, hd, q⟩
    | _ => exact q.elim
  · exact q.elim
theorem rel_top {own : List Nat} {ρ : Env} {σ : L2.St} {H : Hp} {B : Addr → Prop} (rel : RelE B own ρ σ H) {j : Nat} {d : D} (h : ρ[j]? = some (some d)) : ∃ v, σ[j]? = some (some v) ∧ TopD B H v d := by
  cases ho : own.contains j with
  | true => exact rel.pk j d ho h
  | false =>
    obtain ⟨v, a, b⟩ := rel.im j d ho h
    exact ⟨v, a, .rd b⟩
theorem rel_mv {own : List Nat} {ρ : Env} {σ : L2.St} {H H2 : Hp} {B : Addr → Prop} (rel : RelE B own ρ σ H) (mv : Mv B B H H2) (nb : NoN B H2) (tp : ∀ v d, TopD B H v d → TopD B H2 v d) : RelE B own ρ σ H2 :=
  ⟨fun i d h1 h2 => let ⟨v, a, b⟩ := rel.im i d h1 h2; ⟨v, a, b.mv mv⟩, fun i d h1 h2 => let ⟨v, a, b⟩ := rel.pk i d h1 h2; ⟨v, a, tp v d b⟩, nb, rel.len⟩
theorem name_set {y : Str} {p : Pos} {env : PySem.Env} : ∀ z, foldedSetIterable (.Name y p) env z = pure z := fun z => rfl
theorem g_compD {elt : E} (i j : Nat) (ge : Good fa fd n ev elt) : Good fa fd n ev (.compD elt i j) := .plain rfl (fun c x h => by unfold ckE at h; split at h <;> first | rfl | cases h) fun m hm => ⟨fun x X c W σ ρ H B ok tk rel h => by
  unfold ckE at h
  split at h
  · rename_i l y p1 y2 p3 sc p2
    rw [Bool.and_eq_true, Bool.not_eq_true'] at h
    obtain ⟨h, hh⟩ := h
    simp only [Bool.and_eq_true, Bool.not_eq_true'] at h
    obtain ⟨⟨⟨⟨⟨⟨h1, h2⟩, h3⟩, h4⟩, h5⟩, h6⟩, h7⟩ := h
    have okb : BlkOk X.N X.env.scope sc [(y, i)] := by rw [ok.N, ok.sc]; exact blkOk_by h3
    intro Q q
    have q' : Ct X.mg W σ H B (((slot ρ j).bind dkeys).bind fun xs => (mapR (fun d => (evE c.G ev elt (ρ.set i (some d))).noEx) xs).bind fun ys => R.ok (PyData.list ys)) _ := q
    obtain ⟨ds, hd, q2⟩ := slot_dict q'
    obtain ⟨v, hv, ht⟩ := rel_top rel.toRelE hd
    rw [mapR_filter] at q2
    exact snd_lcD (m := m) (σ := σ) (pos := p2) (px := p1) (ok.calm hh) ok.nd rel.non (ok.nm h1) hv ht okb (by rw [ok.sc]; exact locB_of h4) (by rw [ok.sc]; exact tgB_of h5) name_set (fun d x z => by cases z) (fun d x => noEx_ne) (fun H2 mv nb tp => turn_of ok hh (rel_mv rel.toRelE mv nb tp) okb.kind h6 ge h7) Q q2
  · cases h⟩
theorem g_compIfD {elt t : E} (i j : Nat) (ge : Good fa fd n ev elt) (gt : Good fa fd n ev t) : Good fa fd n ev (.compIfD elt i j t) := .plain rfl (fun c x h => by unfold ckE at h; split at h <;> first | rfl | cases h) fun m hm => ⟨fun x X c W σ ρ H B ok tk rel h => by
  unfold ckE at h
  split at h
  · rename_i l y p1 y2 p3 b0 sc p2
    rw [Bool.and_eq_true, Bool.not_eq_true'] at h
    obtain ⟨h, hh⟩ := h
    simp only [Bool.and_eq_true, Bool.not_eq_true'] at h
    obtain ⟨⟨⟨⟨⟨⟨⟨h1, h2⟩, h3⟩, h4⟩, h5⟩, h6⟩, h7⟩, h8⟩ := h
    have okb : BlkOk X.N X.env.scope sc [(y, i)] := by rw [ok.N, ok.sc]; exact blkOk_by h3
    intro Q q
    have q' : Ct X.mg W σ H B (((slot ρ j).bind dkeys).bind fun xs => (filterMapR (fun d => ((evE c.G ev t (ρ.set i (some d))).bind asBool).noEx) (fun d => (evE c.G ev elt (ρ.set i (some d))).noEx) xs).bind fun ys => R.ok (PyData.list ys)) _ := q
    obtain ⟨ds, hd, q2⟩ := slot_dict q'
    obtain ⟨v, hv, ht⟩ := rel_top rel.toRelE hd
    exact snd_lcD (m := m) (σ := σ) (pos := p2) (px := p1) (ok.calm hh) ok.nd rel.non (ok.nm h1) hv ht okb (by rw [ok.sc]; exact locB_of h4) (by rw [ok.sc]; exact tgB_of h5) name_set (fun d x => noEx_ne) (fun d x => noEx_ne) (fun H2 mv nb tp => turn_if ok hh (rel_mv rel.toRelE mv nb tp) okb.kind h6 ge h7 gt h8) Q q2
  · cases h⟩
theorem g_rng {e : E} (hr : isRng e = true) (hn : ∀ c m x, m ≤ 1 → ckE c m e x = false) (hi : ∀ (lp : Bool) (x : Expr) (X : Cx) (c : SC) (W : WX) (σ : L2.St) (ρ : Env) (H : Hp) (B : Addr → Prop) (tg : Expr), XOk fa fd n ev X c → Takes X W → RelX X c B ρ σ H → ckE c 2 e x = true → SndI lp X W tg x σ H B ((evE c.G ev e ρ).bind items)) : Good fa fd n ev e :=
  ⟨fun m hm => ⟨fun x X c W σ ρ H B ok tk rel h => by rw [hn c m x hm] at h; cases h⟩, fun x X c W σ ρ H B ok tk rel h => (by rw [hn c 0 x (by omega)] at h; cases h), fun lp x X c W σ ρ H B tg ok tk rel h _ => hi lp x X c W σ ρ H B tg ok tk rel h⟩
theorem m2 {m : Nat} (hm : m ≤ 1) : (m == 2) = false := by
  rw [beq_eq_false_iff_ne]; omega
theorem g_rng1 {a : E} (ga : Good fa fd n ev a) : Good fa fd n ev (.rng1 a) := g_rng rfl (fun c m x hm => by
  unfold ckE
  split
  · rw [m2 hm]; rfl
  · rfl) fun lp x X c W σ ρ H B tg ok tk rel h => by
  unfold ckE at h
  split at h
  · simp only [Bool.and_eq_true] at h
    obtain ⟨⟨⟨h1, h2⟩, h3⟩, h4⟩ := h
    obtain rfl := eq_of_beq h2
    exact sndI_rng1 ok h3 (ck_ns h4) ((ga.val 0 (by omega)).run _ X c W σ ρ H B ok tk rel h4)
  · cases h
theorem g_rng2 {a b : E} (ga : Good fa fd n ev a) (gb : Good fa fd n ev b) : Good fa fd n ev (.rng2 a b) := g_rng rfl (fun c m x hm => by
  unfold ckE
  split
  · rw [m2 hm]; rfl
  · rfl) fun lp x X c W σ ρ H B tg ok tk rel h => by
  unfold ckE at h
  split at h
  · simp only [Bool.and_eq_true] at h
    obtain ⟨⟨⟨⟨h1, h2⟩, h3⟩, h4⟩, h5⟩ := h
    obtain rfl := eq_of_beq h2
    exact sndI_rng2 ok h3 (ck_ns h4) (ck_ns h5) ((ga.val 0 (by omega)).run _ X c W σ ρ H B ok tk rel h4) (fun H1 s => (gb.val 0 (by omega)).run _ X c W σ ρ H1 B ok tk (rel.same s) h5)
  · cases h
theorem g_rng3 {a b d : E} (ga : Good fa fd n ev a) (gb : Good fa fd n ev b) (gd : Good fa fd n ev d) : Good fa fd n ev (.rng3 a b d) := g_rng rfl (fun c m x hm => by
  unfold ckE
  split
  · rw [m2 hm]; rfl
  · rfl) fun lp x X c W σ ρ H B tg ok tk rel h => by
  unfold ckE at h
  split at h
  · simp only [Bool.and_eq_true] at h
    obtain ⟨⟨⟨⟨⟨h1, h2⟩, h3⟩, h4⟩, h5⟩, h6⟩ := h
    obtain rfl := eq_of_beq h2
    exact sndI_rng3 ok h3 (ck_ns h4) (ck_ns h5) (ck_ns h6) ((ga.val 0 (by omega)).run _ X c W σ ρ H B ok tk rel h4) (fun H1 s => (gb.val 0 (by omega)).run _ X c W σ ρ H1 B ok tk (rel.same s) h5) (fun H1 s => (gd.val 0 (by omega)).run _ X c W σ ρ H1 B ok tk (rel.same s) h6)
  · cases h
theorem dget_mem {f : Str} {v : D} : ∀ {kvs : List (D × D)}, dget kvs (.str f) = some v → (PyData.str f, v) ∈ kvs
  | [], h => nomatch h
  | (k, u) :: r, h => by
    have h' : (if PyData.eqv k (.str f) = true then some u else dget r (.str f)) = some v := h
    split at h'
    · rename_i e
      cases h'
      cases k with
      | str g =>
        have : g = f := by simpa [PyData.eqv] using e
        rw [this]; exact List.mem_cons_self
      | _ => simp [PyData.eqv] at e
    · exact List.mem_cons_of_mem _ (dget_mem h')
theorem dget_mem1 {f nm : Str} {v : D} {kvs : List (D × D)} (h : dget ((.none, .str nm) :: kvs) (.str f) = some v) : (PyData.str f, v) ∈ kvs := by
  rcases List.mem_cons.mp (dget_mem h) with e | e
  · cases e
  · exact e
theorem g_fld (k : Nat) (f : Str) : Good fa fd n ev (.fld k f) := .plain rfl (fun c x h => by unfold ckE at h; split at h <;> first | rfl | cases h) fun m hm => ⟨fun x X c W σ ρ H B ok tk rel h => by
  unfold ckE at h
  split at h
  · rename_i y p1 g p2
    rw [Bool.and_eq_true, Bool.and_eq_true, Bool.and_eq_true] at h
    obtain ⟨⟨⟨h1, h2⟩, h3⟩, h4⟩ := h
    obtain rfl := eq_of_beq h2
    obtain ⟨X0, a, C, dd, oe, fs, pn, nm, kvs, j, xj, e1, e2, e3, e4, e5, e6, e7, e8, e9, e10⟩ := rel.hx h1
    split at h4
    · rename_i xc hxc
      intro Q q
      have q' : Ct X.mg W σ H B (match c.G.x with
        | some (.dict kvs) => (match dget kvs (.str g) with
          | some v => .ok v
          | none => .bad)
        | _ => (.bad : R D)) _ := q
      rw [e6] at q'
      have q2 : Ct X.mg W σ H B (match dget ((.none, .str nm) :: kvs) (.str g) with
          | some v => .ok v
          | none => (.bad : R D)) _ := q'
      cases hd : dget ((.none, .str nm) :: kvs) (.str g) with
      | none => rw [hd] at q2; exact q2.elim
      | some v =>
        rw [hd] at q2
        obtain ⟨u, l, r⟩ := e10 _ _ (dget_mem1 hd)
        have xf := ok.wd.xw.own j xj C e7 (by rw [e8]; exact e9)
        have nof := ok.wd.xw.nof j xj C e7 (by rw [e8]; exact e9) k xc g hxc (List.contains_iff_mem.mp h4)
        have nmP := ok.nm (pos := p1) h3
        subst e1
        exact PE.best (pe_xf (X := X0) xf.1 nof e3 e4 nmP rfl) ⟨_, e2, rfl, rfl, dd, fs, u, rfl, e5, l, q2 u H (L2.Same.refl H) (VR.of r fun z => nomatch z)⟩
    · cases h4
  · cases h⟩
theorem g_isaC (k : Nat) (nm0 : Str) : Good fa fd n ev (.isaC k nm0) := .plain rfl (fun c x h => by unfold ckE at h; split at h <;> first | rfl | cases h) fun m hm => ⟨fun x X c W σ ρ H B ok tk rel h => by
  unfold ckE at h
  split at h
  · rename_i x0 p0 y p1 z p2 p3
    simp only [Bool.and_eq_true] at h
    obtain ⟨⟨⟨⟨⟨⟨h1, h2⟩, h3⟩, h4⟩, h5⟩, h6⟩, h7⟩ := h
    obtain rfl := eq_of_beq h2
    obtain rfl := eq_of_beq h5
    obtain ⟨X0, a, C, dd, oe, fs, pn, nm, kvs, j, xj, e1, e2, e3, e4, e5, e6, e7, e8, e9, e10⟩ := rel.hx h1
    split at h7
    · rename_i xc hxc
      obtain rfl := eq_of_beq h7
      intro Q q
      have q' : Ct X.mg W σ H B (match c.G.x with
        | some x => .ok (.bool (c.G.sub (clsX x) k))
        | none => (.bad : R D)) _ := q
      rw [e6] at q'
      have q2 := (show (∀ v H', Same H H' → VR m B H H' v (.bool (c.G.sub nm k)) false → Q v H') from q') (.bl _) H (L2.Same.refl H) (VR.of (.bl _) fun z => nomatch z)
      obtain ⟨g1, g2, g3⟩ := ok.gl h3
      obtain ⟨k1, k2, k3⟩ := ok.gl h6
      obtain ⟨v, u, rv, hu, cl⟩ := ok.wd.xw.cv k xc hxc
      have ki := (ok.wd.xw.is j xj C k xc u e7 (by rw [e8]; exact e9) hxc cl).1
      rw [e8] at ki
      have ec := (ok.wd.xw.own j xj C e7 (by rw [e8]; exact e9)).2
      have pc : PE X (.Name xc.name p2) (tC v) := by
        rcases cl with cl | ⟨c1, c2⟩
        · exact pe_glob k1 cl rv k2
        · exact pe_bltn k1 c1 c2 rv k3 k2
      have nmP := ok.nm (pos := p1) h4
      have bl := ok.blt (x := "isinstance") (by decide)
      subst e1
      refine PE.best (pe_callB (call_isX (X := X0) ec e3 e4) g1 bl bb_isinstance (pa_cons nmP (pa_cons pc pa_nil rfl) rfl) g3 g2 rfl rfl) ?_
      exact ⟨_, e2, v, u, _, fs, rfl, hu, ki, e5, q2⟩
    · cases h7
  · cases h⟩
variable (fa fd n ev) in
mutual
theorem sndE : ∀ e : E, Good fa fd n ev e
  | .v i => g_v i
  | .pk i => g_pk i
  | .none => g_none
  | .bool b => g_bool b
  | .int b => g_int b
  | .str b => g_str b
  | .glob b => g_glob b
  | .bin o a b => g_bin (sndE a) (sndE b) o
  | .neg a => g_neg (sndE a)
  | .cmp o a b => g_cmp (sndE a) (sndE b) o
  | .chain o p a b c => g_chain (sndE a) (sndE b) (sndE c) o p
  | .isN a => g_isN (sndE a)
  | .notN a => g_notN (sndE a)
  | .and es => g_and (sndEs es)
  | .or es => g_or (sndEs es)
  | .not a => g_not (sndE a)
  | .ite c a b => g_ite (sndE a) (sndE b) (sndE c)
  | .tup es => g_tup (sndEs es)
  | .lst es => g_lst (sndEs es)
  | .dT => g_dT
  | .ix a i => g_ix (sndE a) (sndE i)
  | .sl a lo hi => g_sl (sndE a) (sndE lo) (sndE hi)
  | .slL a lo => g_slL (sndE a) (sndE lo)
  | .slH a hi => g_slH (sndE a) (sndE hi)
  | .call f as ks dfl => g_call f dfl (sndEs as) (sndEs ks)
  | .f1 f a => g_f1 (sndE a) f
  | .mx2 a b => g_mx2 (sndE a) (sndE b)
  | .mn2 a b => g_mn2 (sndE a) (sndE b)
  | .isa t a => g_isa (sndE a) t
  | .lenset a => g_lenset (sndE a)
  | .sortk f a => g_sortk (sndE a) f
  | .get2 d k x => g_get2 (sndE d) (sndE k) (sndE x)
  | .index a x => g_index (sndE a) (sndE x)
  | .comp elt i it => g_comp i (sndE elt) (sndE it)
  | .compIf elt i it c => g_compIf i (sndE elt) (sndE it) (sndE c)
  | .compD elt i j => g_compD i j (sndE elt)
  | .compIfD elt i j c => g_compIfD i j (sndE elt) (sndE c)
  | .rng1 a => g_rng1 (sndE a)
  | .rng2 a b => g_rng2 (sndE a) (sndE b)
  | .rng3 a b c => g_rng3 (sndE a) (sndE b) (sndE c)
  | .fld k f => g_fld k f
  | .isaC k x => g_isaC k x
theorem sndEs : ∀ es : Es, GoodS fa fd n ev es
  | .nil => gs_nil
  | .cons e r => gs_cons (sndE e) (sndEs r)
end
end
end PV
end
section
set_option Elab.async false
set_option linter.all false
set_option maxRecDepth 100000
set_option maxHeartbeats 8000000
/-! PV18: the slots of a running def. -/
namespace PV
open PySem PySem.Spec PyProof.Rows L2
/-- what is not to be met: the caller's, the def's own -/
def BB (B0 : Addr → Prop) (oa : Nat → Option Addr) : Addr → Prop := fun b => B0 b ∨ ∃ i, oa i = some b
structure RelS (B0 : Addr → Prop) (H0 : Hp) (own : List Nat) (oa : Nat → Option Addr) (ρ : Env) (σ : L2.St) (H : Hp) : Prop where
  same : Same H0 H
  im : ∀ i d, own.contains i = false → ρ[i]? = some (some d) → ∃ v, σ[i]? = some (some v) ∧ RD (BB B0 oa) H v d
  pk : ∀ i d, own.contains i = true → ρ[i]? = some (some d) → ∃ v, σ[i]? = some (some v) ∧ ((isL d = false ∧ RD (BB B0 oa) H v d) ∨ ∃ a, v = .ref a ∧ oa i = some a ∧ OwnAt (BB B0 oa) H a d)
  fr : ∀ i a, oa i = some a → H0 a = none ∧ H a ≠ none
  inj : ∀ i j a, oa i = some a → oa j = some a → i = j
  non0 : NoN B0 H0
  len : ρ.length = σ.length
/-- what a run of code leaves as it was -/
structure MvS (B B' : Addr → Prop) (H H' : Hp) : Prop where
  mv : Mv B B' H H'
  there : ∀ b, H b ≠ none → H' b ≠ none
theorem MvS.same {B : Addr → Prop} {H H' : Hp} (e : Same H H') : MvS B B H H' := ⟨.same e, fun b h z => h (e.free z)⟩
theorem nf_there {H : Hp} {b : Addr} {u : HO} (h : Rd H b u) : H b ≠ none := rd_there h
theorem MvS.trans {B B1 B2 : Addr → Prop} {H H1 H2 : Hp} (a : MvS B B1 H H1) (b : MvS B1 B2 H1 H2) : MvS B B2 H H2 :=
  ⟨⟨fun x u nf h hb => b.mv.rd x u nf (a.mv.rd x u nf h hb) fun z => hb (a.mv.new x z (rd_there h)), fun x xs h => b.mv.tup _ _ (a.mv.tup _ _ h), fun x o xs h => b.mv.frz _ _ _ (a.mv.frz _ _ _ h),
    fun x h2 h => a.mv.new x (b.mv.new x h2 (a.there x h)) h⟩, fun x h => b.there x (a.there x h)⟩
theorem MvS.less {B B' : Addr → Prop} {H : Hp} (h : ∀ b, B' b → H b ≠ none → B b) : MvS B B' H H := ⟨.less h, fun _ z => z⟩
section
variable {B0 : Addr → Prop} {H0 : Hp} {own : List Nat} {oa : Nat → Option Addr} {ρ : Env} {σ : L2.St} {H H' : Hp}
theorem RelS.nB (r : RelS B0 H0 own oa ρ σ H) : NoN (BB B0 oa) H := fun b hb => by
  rcases hb with hb | ⟨i, hi⟩
  · exact (r.non0.same r.same) b hb
  · exact (r.fr i b hi).2
theorem OwnAt.mv {B B' : Addr → Prop} {a : Addr} {d : D} (m : Mv B B' H H') (k : ∀ u, H a = some u → H' a = some u) (h : OwnAt B H a d) : OwnAt B' H' a d := by
  rcases h with ⟨xs, ds, e1, e2, e3⟩ | ⟨kvs, ds, e1, e2, e3⟩
  · exact .inl ⟨xs, ds, e1, k _ e2, RDs.mv m e3⟩
  · exact .inr ⟨kvs, ds, e1, k _ e2, RDt.mv m e3⟩
theorem OwnAt.top {B : Addr → Prop} {a : Addr} {d : D} (h : OwnAt B H a d) : TopD B H (.ref a) d := by
  rcases h with ⟨xs, ds, rfl, e2, e3⟩ | ⟨kvs, ds, rfl, e2, e3⟩
  · exact .lst (.inl e2) e3
  · exact .dT (.inl e2) e3
theorem OwnAt.rd {B : Addr → Prop} {a : Addr} {d : D} (n : ¬ B a) (h : OwnAt B H a d) : RD B H (.ref a) d := by
  rcases h with ⟨xs, ds, rfl, e2, e3⟩ | ⟨kvs, ds, rfl, e2, e3⟩
  · exact .lst n (.inl e2) e3
  · exact .dT n (.inl e2) e3
theorem RelS.relE (r : RelS B0 H0 own oa ρ σ H) : RelE (BB B0 oa) own ρ σ H :=
  ⟨r.im, fun i d h1 h2 => by
    obtain ⟨v, e, h | ⟨a, rfl, _, h⟩⟩ := r.pk i d h1 h2
    · exact ⟨v, e, .rd h.2⟩
    · exact ⟨_, e, h.top⟩, r.nB, r.len⟩
theorem RelS.grow (r : RelS B0 H0 own oa ρ σ H) (s : Same H H') : RelS B0 H0 own oa ρ σ H' :=
  ⟨r.same.trans s, fun i d h1 h2 => let ⟨v, a, b⟩ := r.im i d h1 h2; ⟨v, a, b.mv (.same s)⟩, fun i d h1 h2 => by
    obtain ⟨v, e, h | ⟨a, rfl, h3, h⟩⟩ := r.pk i d h1 h2
    · exact ⟨v, e, .inl ⟨h.1, h.2.mv (.same s)⟩⟩
    · exact ⟨_, e, .inr ⟨a, rfl, h3, h.mv (.same s) fun u hu => s _ _ hu⟩⟩, fun i a h => ⟨(r.fr i a h).1, fun z => (r.fr i a h).2 (s.free z)⟩, r.inj, r.non0, r.len⟩
/-- some of the own objects given up -/
def del (oa : Nat → Option Addr) (ks : List Nat) : Nat → Option Addr := fun i => if ks.contains i = true then none else oa i
theorem del_some {ks : List Nat} {i : Nat} {a : Addr} (h : del oa ks i = some a) : oa i = some a ∧ ks.contains i = false := by
  unfold del at h
  split at h
  · cases h
  · rename_i hk
    exact ⟨h, by simpa using hk⟩
theorem del_le {ks : List Nat} : ∀ b, BB B0 (del oa ks) b → BB B0 oa b := fun b h => by
  rcases h with h | ⟨i, h⟩
  · exact .inl h
  · exact .inr ⟨i, (del_some h).1⟩
theorem clear_some {d : D} : ∀ {ks : List Nat} {ρ : Env} {i : Nat}, (clear ρ ks)[i]? = some (some d) → ρ[i]? = some (some d) ∧ ks.contains i = false
  | [], ρ, i, h => ⟨h, rfl⟩
  | k :: ks, ρ, i, h => by
    obtain ⟨h1, h2⟩ := clear_some (ks := ks) (ρ := ρ.set k none) (show (clear (ρ.set k none) ks)[i]? = some (some d) from h)
    by_cases hk : k = i
    · subst hk
      rw [List.getElem?_set] at h1
      rw [if_pos rfl] at h1
      split at h1 <;> cases h1
    · rw [List.getElem?_set_ne hk] at h1
      exact ⟨h1, by rw [List.contains_cons, h2]; simp [Ne.symm hk]⟩
theorem clear_len : ∀ {ks : List Nat} {ρ : Env}, (clear ρ ks).length = ρ.length
  | [], _ => rfl
  | k :: ks, ρ => by
    show (clear (ρ.set k none) ks).length = _
    rw [clear_len, List.length_set]
theorem RelS.kill (r : RelS B0 H0 own oa ρ σ H) (ks : List Nat) : RelS B0 H0 own (del oa ks) (clear ρ ks) σ H :=
  ⟨r.same, fun i d h1 h2 => let ⟨v, a, b⟩ := r.im i d h1 (clear_some h2).1; ⟨v, a, b.mv (.less fun b hb _ => del_le b hb)⟩, fun i d h1 h2 => by
    obtain ⟨e1, e2⟩ := clear_some h2
    obtain ⟨v, e, h | ⟨a, rfl, h3, h⟩⟩ := r.pk i d h1 e1
    · exact ⟨v, e, .inl ⟨h.1, h.2.mv (.less fun b hb _ => del_le b hb)⟩⟩
    · exact ⟨_, e, .inr ⟨a, rfl, by unfold del; rw [e2]; exact h3, h.mv (.less fun b hb _ => del_le b hb) fun u hu => hu⟩⟩, fun i a h => r.fr i a (del_some h).1, fun i j a h1 h2 => r.inj i j a (del_some h1).1 (del_some h2).1, r.non0, by rw [clear_len]; exact r.len⟩
theorem RelS.not0 (r : RelS B0 H0 own oa ρ σ H) {i : Nat} {a : Addr} (h : oa i = some a) : ¬ B0 a := fun z => r.non0 a z (r.fr i a h).1
/-- own objects handed on -/
theorem RelS.mov (r : RelS B0 H0 own oa ρ σ H) (ks : List Nat) : RelE (BB B0 (del oa ks)) (own.filter fun i => !ks.contains i) ρ σ H := by
  refine ⟨fun i d h1 h2 => ?_, fun i d h1 h2 => ?_, (r.kill ks).nB, r.len⟩
  · have hless : ∀ {v : V}, RD (BB B0 oa) H v d → RD (BB B0 (del oa ks)) H v d := fun h => h.mv (.less fun b hb _ => del_le b hb)
    cases ho : own.contains i with
    | false =>
      obtain ⟨v, a, b⟩ := r.im i d ho h2
      exact ⟨v, a, hless b⟩
    | true =>
      have hk : ks.contains i = true := by
        cases hk : ks.contains i with
        | true => rfl
        | false =>
          have : (own.filter fun i => !ks.contains i).contains i = true := by
            rw [List.contains_iff_mem, List.mem_filter]
            exact ⟨List.contains_iff_mem.mp ho, by rw [hk]; rfl⟩
          rw [this] at h1; cases h1
      obtain ⟨v, e, h | ⟨a, rfl, h3, h⟩⟩ := r.pk i d ho h2
      · exact ⟨v, e, hless h.2⟩
      · refine ⟨_, e, (h.mv (.less fun b hb _ => del_le b hb) fun u hu => hu).rd fun z => ?_⟩
        rcases z with z | ⟨j, hj⟩
        · exact r.not0 h3 z
        · obtain ⟨q1, q2⟩ := del_some hj
          rw [r.inj i j a h3 q1] at hk
          rw [hk] at q2; cases q2
  · have ho : own.contains i = true ∧ ks.contains i = false := by
      rw [List.contains_iff_mem, List.mem_filter] at h1
      exact ⟨List.contains_iff_mem.mpr h1.1, by simpa using h1.2⟩
    obtain ⟨v, e, h | ⟨a, rfl, h3, h⟩⟩ := r.pk i d ho.1 h2
    · exact ⟨v, e, .rd (h.2.mv (.less fun b hb _ => del_le b hb))⟩
    · exact ⟨_, e, (h.mv (.less fun b hb _ => del_le b hb) fun u hu => hu).top⟩
/-- a slot set to a value that is not owned -/
theorem RelS.setI (r : RelS B0 H0 own oa ρ σ H) {i : Nat} {v : V} {d : D} (h : own.contains i = false ∨ isL d = false) (hd : RD (BB B0 oa) H v d) : RelS B0 H0 own oa (ρ.set i (some d)) (σ.set i (some v)) H := by
  have hl := r.len
  have at' : ∀ {j x}, (ρ.set i (some d))[j]? = some (some x) → (j = i ∧ x = d ∧ (σ.set i (some v))[j]? = some (some v)) ∨ (j ≠ i ∧ ρ[j]? = some (some x) ∧ (σ.set i (some v))[j]? = σ[j]?) := by
    intro j x e
    by_cases hj : i = j
    · subst hj
      rw [List.getElem?_set, if_pos rfl] at e
      split at e
      · cases e
        exact .inl ⟨rfl, rfl, by rw [List.getElem?_set, if_pos rfl, if_pos (by omega)]⟩
      · cases e
    · rw [List.getElem?_set_ne hj] at e
      exact .inr ⟨Ne.symm hj, e, by rw [List.getElem?_set_ne hj]⟩
  refine ⟨r.same, fun j x h1 h2 => ?_, fun j x h1 h2 => ?_, r.fr, r.inj, r.non0, by simp [hl]⟩
  · rcases at' h2 with ⟨rfl, rfl, e⟩ | ⟨hj, e1, e2⟩
    · exact ⟨v, e, hd⟩
    · rw [e2]; exact r.im j x h1 e1
  · rcases at' h2 with ⟨rfl, rfl, e⟩ | ⟨hj, e1, e2⟩
    · rcases h with h | h
      · rw [h1] at h; cases h
      · exact ⟨v, e, .inl ⟨h, hd⟩⟩
    · rw [e2]; exact r.pk j x h1 e1
def setOa (oa : Nat → Option Addr) (i : Nat) (a : Addr) : Nat → Option Addr := fun j => if j = i then some a else oa j
/-- the heap H' holds besides a new object at a -/
theorem bb_new {i : Nat} {a : Addr} (s : Same H H') (h : H a = none) : Mv (BB B0 oa) (BB B0 (setOa oa i a)) H H' :=
  ⟨fun _ _ _ hr _ => Same.rd s hr, fun _ _ e => s _ _ e, fun _ _ _ e => s _ _ e, fun b hb hn => by
    rcases hb with hb | ⟨j, hj⟩
    · exact .inl hb
    · unfold setOa at hj
      split at hj
      · cases hj; exact absurd h hn
      · exact .inr ⟨j, hj⟩⟩
/-- an own slot set to a new object -/
theorem RelS.setO (r : RelS B0 H0 own oa ρ σ H) {i : Nat} {a : Addr} {d : D} (s : Same H H') (h : H a = none) (ho : OwnAt (fun b => BB B0 oa b ∨ b = a) H' a d) (hi : own.contains i = true) :
    RelS B0 H0 own (setOa oa i a) (ρ.set i (some d)) (σ.set i (some (.ref a))) H' ∧ MvS (BB B0 oa) (BB B0 (setOa oa i a)) H H' := by
  have hl := r.len
  have mv := bb_new (B0 := B0) (oa := oa) (i := i) s h
  have hthere : H' a ≠ none := by rcases ho with ⟨_, _, _, e, _⟩ | ⟨_, _, _, e, _⟩ <;> rw [e] <;> exact fun z => nomatch z
  have ho' : OwnAt (BB B0 (setOa oa i a)) H' a d := by
    refine ho.mv (.less fun b hb _ => ?_) fun u hu => hu
    rcases hb with hb | ⟨j, hj⟩
    · exact .inl (.inl hb)
    · unfold setOa at hj
      split at hj
      · cases hj; exact .inr rfl
      · exact .inl (.inr ⟨j, hj⟩)
  have at' : ∀ {j x}, (ρ.set i (some d))[j]? = some (some x) → (j = i ∧ x = d ∧ (σ.set i (some (.ref a)))[j]? = some (some (.ref a))) ∨ (j ≠ i ∧ ρ[j]? = some (some x) ∧ (σ.set i (some (.ref a)))[j]? = σ[j]?) := by
    intro j x e
    by_cases hj : i = j
    · subst hj
      rw [List.getElem?_set, if_pos rfl] at e
      split at e
      · cases e
        exact .inl ⟨rfl, rfl, by rw [List.getElem?_set, if_pos rfl, if_pos (by omega)]⟩
      · cases e
    · rw [List.getElem?_set_ne hj] at e
      exact .inr ⟨Ne.symm hj, e, by rw [List.getElem?_set_ne hj]⟩
  refine ⟨⟨r.same.trans s, fun j x h1 h2 => ?_, fun j x h1 h2 => ?_, fun j b hb => ?_, fun j k b h1 h2 => ?_, r.non0, by simp [hl]⟩, mv, fun b hb z => hb (s.free z)⟩
  · rcases at' h2 with ⟨rfl, rfl, e⟩ | ⟨hj, e1, e2⟩
    · rw [hi] at h1; cases h1
    · rw [e2]
      obtain ⟨v, q1, q2⟩ := r.im j x h1 e1
      exact ⟨v, q1, q2.mv mv⟩
  · rcases at' h2 with ⟨rfl, rfl, e⟩ | ⟨hj, e1, e2⟩
    · exact ⟨_, e, .inr ⟨a, rfl, by unfold setOa; rw [if_pos rfl], ho'⟩⟩
    · rw [e2]
      obtain ⟨v, q1, q | ⟨a', rfl, q2, q3⟩⟩ := r.pk j x h1 e1
      · exact ⟨v, q1, .inl ⟨q.1, q.2.mv mv⟩⟩
      · exact ⟨_, q1, .inr ⟨a', rfl, by unfold setOa; rw [if_neg hj]; exact q2, q3.mv mv fun u hu => s _ _ hu⟩⟩
  · unfold setOa at hb
    split at hb
    · cases hb
      exact ⟨r.same.free h, hthere⟩
    · exact ⟨(r.fr j b hb).1, fun z => (r.fr j b hb).2 (s.free z)⟩
  · unfold setOa at h1 h2
    split at h1
    · split at h2
      · omega
      · cases h1; exact absurd h (r.fr k _ h2).2
    · split at h2
      · cases h2; exact absurd h (r.fr j _ h1).2
      · exact r.inj j k b h1 h2
/-- an own object written -/
theorem RelS.write (r : RelS B0 H0 own oa ρ σ H) {i : Nat} {a : Addr} {d d' : D} {o o' : HO} (hoa : oa i = some a) (hi : own.contains i = true) (hσ : σ[i]? = some (some (.ref a))) (ho : H a = some o) (nf : Nf o) (nt : ∀ xs, o ≠ .tup xs)
    (hn : OwnAt (BB B0 oa) (upd H a o') a d') : RelS B0 H0 own oa (ρ.set i (some d')) σ (upd H a o') ∧ MvS (BB B0 oa) (BB B0 oa) H (upd H a o') := by
  have hb : BB B0 oa a := .inr ⟨i, hoa⟩
  have mv : Mv (BB B0 oa) (BB B0 oa) H (upd H a o') := ⟨fun b u _ h hb' => by
      have hne : b ≠ a := fun z => hb' (by rw [z]; exact hb)
      rcases h with h | ⟨o2, h⟩
      · exact .inl (by rw [upd_ne hne]; exact h)
      · exact .inr ⟨o2, by rw [upd_ne hne]; exact h⟩,
    fun b w h => by rw [upd_ne (fun z => by rw [z, ho] at h; exact nt w (Option.some.inj h))]; exact h,
    fun b o2 w h => by rw [upd_ne (fun z => by rw [z, ho] at h; cases h; exact nf)]; exact h,
    fun b h _ => h⟩
  have th : ∀ b, H b ≠ none → upd H a o' b ≠ none := fun b h => by
    by_cases hba : b = a
    · rw [hba, upd_same]; exact fun z => nomatch z
    · rw [upd_ne hba]; exact h
  refine ⟨⟨fun b u e => ?_, fun j x h1 h2 => ?_, fun j x h1 h2 => ?_, fun j b h => ⟨(r.fr j b h).1, th b (r.fr j b h).2⟩, r.inj, r.non0, by rw [List.length_set]; exact r.len⟩, mv, th⟩
  · rw [upd_ne (fun z => by rw [z, (r.fr i a hoa).1] at e; cases e)]
    exact r.same b u e
  · have hj : i ≠ j := fun z => by rw [← z, hi] at h1; cases h1
    rw [List.getElem?_set_ne hj] at h2
    obtain ⟨v, q1, q2⟩ := r.im j x h1 h2
    exact ⟨v, q1, q2.mv mv⟩
  · by_cases hj : i = j
    · subst hj
      rw [List.getElem?_set, if_pos rfl] at h2
      split at h2
      · cases h2
        exact ⟨_, hσ, .inr ⟨a, rfl, hoa, hn⟩⟩
      · cases h2
    · rw [List.getElem?_set_ne hj] at h2
      obtain ⟨v, q1, q | ⟨a', rfl, q2, q3⟩⟩ := r.pk j x h1 h2
      · exact ⟨v, q1, .inl ⟨q.1, q.2.mv mv⟩⟩
      · have hne : a' ≠ a := fun z => hj (r.inj i j a hoa (by rw [← z]; exact q2))
        exact ⟨_, q1, .inr ⟨a', rfl, q2, q3.mv mv fun u hu => by rw [upd_ne hne]; exact hu⟩⟩
end
end PV
end
section
set_option Elab.async false
set_option linter.all false
set_option maxRecDepth 100000
set_option maxHeartbeats 8000000
/-! PV19: statements. -/
namespace PV
open PySem PySem.Spec PyProof.Rows L2
def bestS (X : Cx) (st : Stmt) : TS := fun D σ H => ∀ pins s, L2.Inv X pins σ H s → wpAny (model X.prog X.w) X.A (exec st X.env) (SP X pins D) X.xe s
theorem ps_best {X : Cx} {st : Stmt} : PS X st (bestS X st) := ⟨fun pins s σ H D I h => h pins s I⟩
theorem PS.best {X : Cx} {st : Stmt} {t : TS} (h : PS X st t) {D : Ends} {σ : L2.St} {H : Hp} (q : t D σ H) : bestS X st D σ H := fun pins s I => h.run pins s σ H D I q
def bestSs (X : Cx) (st : List Stmt) : TS := fun D σ H => ∀ pins s, L2.Inv X pins σ H s → wpAny (model X.prog X.w) X.A (execs st X.env) (SP X pins D) X.xe s
theorem pss_best {X : Cx} {st : List Stmt} : PSs X st (bestSs X st) := ⟨fun pins s σ H D I h => h pins s I⟩
theorem PSs.best {X : Cx} {st : List Stmt} {t : TS} (h : PSs X st t) {D : Ends} {σ : L2.St} {H : Hp} (q : t D σ H) : bestSs X st D σ H := fun pins s I => h.run pins s σ H D I q

/-- what is wanted of an outcome -/
def EndOk (D : Ends) (W : WX) (mg : Str → Option Value) (B0 : Addr → Prop) (H0 : Hp) (own : List Nat) (B : Addr → Prop) (H : Hp) : Out → Prop
  | .nx ρ => ∀ oa σ H', RelS B0 H0 own oa ρ σ H' → MvS B (BB B0 oa) H H' → D.nx σ H'
  | .bk ρ => ∀ oa σ H', RelS B0 H0 own oa ρ σ H' → MvS B (BB B0 oa) H H' → D.bk σ H'
  | .ct ρ => ∀ oa σ H', RelS B0 H0 own oa ρ σ H' → MvS B (BB B0 oa) H H' → D.ct σ H'
  | .rt d _ => ∀ v H', Same H0 H' → RD B0 H' v d → D.rt v H'
  | .ex x ρ => ∀ oa σ H' c dd, RelS B0 H0 own oa ρ σ H' → MvS B (BB B0 oa) H H' → RX mg (BB B0 oa) H' c dd x → W c dd σ H'
  | .bad => False
section
variable {D : Ends} {W : WX} {mg : Str → Option Value} {B0 : Addr → Prop} {H0 : Hp} {own : List Nat} {oa : Nat → Option Addr} {ρ : Env} {σ : L2.St} {H H' : Hp} {B B1 : Addr → Prop}
theorem EndOk.mono {o : Out} (h : EndOk D W mg B0 H0 own B H o) (m : MvS B B1 H H') : EndOk D W mg B0 H0 own B1 H' o := by
  cases o with
  | nx ρ => exact fun oa σ H2 r m2 => h oa σ H2 r (m.trans m2)
  | bk ρ => exact fun oa σ H2 r m2 => h oa σ H2 r (m.trans m2)
  | ct ρ => exact fun oa σ H2 r m2 => h oa σ H2 r (m.trans m2)
  | rt d ρ => exact h
  | ex x ρ => exact fun oa σ H2 c dd r m2 => h oa σ H2 c dd r (m.trans m2)
  | bad => exact h
theorem mvs_kill (ks : List Nat) : MvS (BB B0 oa) (BB B0 (del oa ks)) H H := .less fun b hb _ => del_le b hb
theorem end_ct {α : Type} {rr : R α} {f : α → Out} (r : RelS B0 H0 own oa ρ σ H) (ks : List Nat) (h : EndOk D W mg B0 H0 own (BB B0 oa) H (rr.out (clear ρ ks) f)) : Ct mg W σ H (BB B0 (del oa ks)) rr (fun a => EndOk D W mg B0 H0 own (BB B0 oa) H (f a)) := by
  cases rr with
  | ok a => exact h
  | ex x => exact fun c dd H' s x => h (del oa ks) σ H' c dd ((r.kill ks).grow s) ((mvs_kill ks).trans (.same s)) x
  | bad => exact h
theorem end_ct0 {α : Type} {rr : R α} {f : α → Out} (r : RelS B0 H0 own oa ρ σ H) (h : EndOk D W mg B0 H0 own (BB B0 oa) H (rr.out ρ f)) : Ct mg W σ H (BB B0 oa) rr (fun a => EndOk D W mg B0 H0 own (BB B0 oa) H (f a)) := by
  cases rr with
  | ok a => exact h
  | ex x => exact fun c dd H' s x => h oa σ H' c dd (r.grow s) (.same s) x
  | bad => exact h
end
theorem sw_of {sc : Scope} {v : Expr} {x : Str} {px : Pos} {l : Nat} {env : PySem.Env} (hk : env.scope.kind = .function) (hsc : env.scope = sc) (hn : noSetC v = true) : swapsWith v (some (.Name x px)) l env = pure (swB sc v x px) := by
  cases v with
  | ListComp a gs s p =>
    have hb : env.blockKind = .function := by unfold Env.blockKind; rw [hk]; rfl
    have ky : env.kindOf x = sc.names.lookup x := by rw [← hsc]; rfl
    unfold swapsWith swB
    simp only [hb, ky, Expr.pos]
    cases sc.names.lookup x with
    | none => rfl
    | some k => cases k <;> rfl
  | SetComp _ _ _ _ => cases hn
  | DictComp _ _ _ _ _ => cases hn
  | _ => rfl
theorem sw_sub {v o i : Expr} {p : Pos} {l : Nat} {env : PySem.Env} : swapsWith v (some (.Subscript o i p)) l env = pure false := by cases v <;> rfl
section
variable (fa : Nat → Addr) (fd : Nat → FuncData) (n : Nat) (ev : Nat → List D → R D) (WN : Nat)
structure SOk (X : Cx) (c : SC) : Prop where
  x : XOk fa fd n ev X c
  hh : c.hot = false
  fn : ∀ y, X.fn y = true
  stk : X.stack = X.env :: X.outer
  frm : X.env.frame = some X.env.locals
  pass : PassesOwn (model X.prog X.w) X.A X.env X.xe
def GoodSt (s : S) : Prop := ∀ (st : Stmt) (X : Cx) (c : SC) (W : WX) (B0 : Addr → Prop) (H0 : Hp) (oa : Nat → Option Addr) (σ : L2.St) (ρ : Env) (H : Hp) (D : Ends), SOk fa fd n ev X c → Takes X W → RelS B0 H0 c.own oa ρ σ H → ckS c s st = true →
  EndOk D W X.mg B0 H0 c.own (BB B0 oa) H (evS c.G c.XT WN ev s ρ) → bestS X st D σ H
def GoodSts (s : Ss) : Prop := ∀ (st : List Stmt) (X : Cx) (c : SC) (W : WX) (B0 : Addr → Prop) (H0 : Hp) (oa : Nat → Option Addr) (σ : L2.St) (ρ : Env) (H : Hp) (D : Ends), SOk fa fd n ev X c → Takes X W → RelS B0 H0 c.own oa ρ σ H → ckSs c s st = true →
  EndOk D W X.mg B0 H0 c.own (BB B0 oa) H (evSs c.G c.XT WN ev s ρ) → bestSs X st D σ H
end
section
variable {fa : Nat → Addr} {fd : Nat → FuncData} {n : Nat} {ev : Nat → List D → R D} {WN : Nat}
theorem XOk.mv {X : Cx} {c : SC} (ok : XOk fa fd n ev X c) (ks : List Nat) : XOk fa fd n ev X (mvd c ks) := ⟨ok.N, ok.sc, ok.nd, ok.kind, ok.cold, ok.hu, ok.wd⟩
theorem sts_nil : GoodSts fa fd n ev WN .nil := fun st X c W B0 H0 oa σ ρ H D ok tk r h q => by
  cases st with
  | nil => exact PSs.best pss_nil (q oa σ H r (.same (L2.Same.refl H)))
  | cons a b => unfold ckSs at h; cases h
theorem sts_cons {s : S} {rs : Ss} (gs : GoodSt fa fd n ev WN s) (gr : GoodSts fa fd n ev WN rs) : GoodSts fa fd n ev WN (.cons s rs) := fun st X c W B0 H0 oa σ ρ H D ok tk r h q => by
  cases st with
  | nil => unfold ckSs at h; cases h
  | cons a b =>
    unfold ckSs at h
    rw [Bool.and_eq_true] at h
    refine PSs.best (pss_cons ps_best pss_best) (gs a X c W B0 H0 oa σ ρ H { D with nx := bestSs X b D } ok tk r h.1 ?_)
    have q' : EndOk D W X.mg B0 H0 c.own (BB B0 oa) H ((evS c.G c.XT WN ev s ρ).thn (evSs c.G c.XT WN ev rs)) := q
    cases ho : evS c.G c.XT WN ev s ρ with
    | nx ρ' =>
      rw [ho] at q'
      exact fun oa' σ' H' r' m => gr b X c W B0 H0 oa' σ' ρ' H' D ok tk r' h.2 (EndOk.mono (show EndOk D W X.mg B0 H0 c.own (BB B0 oa) H (evSs c.G c.XT WN ev rs ρ') from q') m)
    | rt d ρ' => rw [ho] at q'; exact q'
    | bk ρ' => rw [ho] at q'; exact q'
    | ct ρ' => rw [ho] at q'; exact q'
    | ex x ρ' => rw [ho] at q'; exact q'
    | bad => rw [ho] at q'; exact q'
theorem rel_of_mv {X : Cx} {B0 : Addr → Prop} {H0 : Hp} {c : SC} {oa : Nat → Option Addr} {ρ : Env} {σ : L2.St} {H : Hp} (hh : c.hot = false) (r : RelS B0 H0 c.own oa ρ σ H) (ks : List Nat) : RelX X (mvd c ks) (BB B0 (PV.del oa ks)) ρ σ H := RelE.cold (c := mvd c ks) (r.mov ks) hh
/-- a slot set -/
theorem set_end {D : Ends} {W : WX} {mg : Str → Option Value} {B0 : Addr → Prop} {H0 : Hp} {own : List Nat} {oa : Nat → Option Addr} {ρ : Env} {σ : L2.St} {H H' : Hp} {ks : List Nat} {i : Nat} {d : PyData} {v : V} {fr : Bool} (r : RelS B0 H0 own oa ρ σ H)
    (q : EndOk D W mg B0 H0 own (BB B0 oa) H (.nx ((clear ρ ks).set i (some d)))) (s : Same H H') (rv : VR 0 (BB B0 (del oa ks)) H H' v d fr) (hf : own.contains i = false ∨ fr = true) : D.nx (σ.set i (some v)) H' := by
  have r1 := r.kill ks
  by_cases hi : own.contains i = false ∨ isL d = false
  · exact q _ _ _ ((r1.grow s).setI hi (rv.rd rfl)) ((mvs_kill ks).trans (.same s))
  · have h1 : own.contains i = true := by cases h : own.contains i with | true => rfl | false => exact absurd (.inl h) hi
    have h2 : isL d = true := by cases h : isL d with | true => rfl | false => exact absurd (.inr h) hi
    have h3 : fr = true := hf.resolve_left fun z => by rw [h1] at z; cases z
    obtain ⟨a, rfl, hn, ho⟩ := rv.new h3 h2
    obtain ⟨x1, x2⟩ := r1.setO s hn ho h1
    exact q _ _ _ x1 ((mvs_kill ks).trans x2)
theorem st_set (ks : List Nat) (i : Nat) (e : E) : GoodSt fa fd n ev WN (.set ks i e) := fun st X c W B0 H0 oa σ ρ H D ok tk r h q => by
  unfold ckS at h
  split at h
  · rename_i x px v pos
    simp only [Bool.and_eq_true, Bool.or_eq_true, Bool.not_eq_true'] at h
    obtain ⟨⟨⟨⟨⟨h1, h2⟩, h3⟩, h4⟩, h5⟩, h6⟩ := h
    have hN : X.N[i]? = some x := by rw [ok.x.N]; exact of_decide_eq_true h1
    have hl : L2.Loc X.env.scope x := by rw [ok.x.sc]; exact locB_of h2
    have q' : EndOk D W X.mg B0 H0 c.own (BB B0 oa) H ((evE c.G ev e ρ).out (clear ρ ks) fun d => .nx ((clear ρ ks).set i (some d))) := q
    have ct := end_ct r ks q'
    have sw := sw_of (x := x) (px := px) (l := pos.line) (env := X.env) (by rw [ok.x.sc]; exact ok.x.kind) ok.x.sc h5
    cases hsw : swB c.sc v x px with
    | false =>
      rw [hsw] at sw
      refine PS.best (ps_set ok.x.nd hN hl pe_best sw (.inl (ok.fn x))) ?_
      refine ((sndE fa fd n ev e).val 0 (by omega)).run v X (mvd c ks) W σ ρ H _ (ok.x.mv ks) tk (rel_of_mv ok.hh r ks) h3 _ (Ct.imp ct fun d _ q2 v H' s rv => ?_)
      exact set_end r q2 s rv h4
    | true =>
      rw [hsw] at sw
      have hyl : X.env.scope.names.lookup x = some .local := by
        rw [ok.x.sc]
        unfold swB at hsw
        split at hsw
        · simp only [Bool.and_eq_true] at hsw
          have := hsw.1.1
          split at this
          · assumption
          · cases this
        · cases hsw
      have h6 := h6.resolve_left (by rw [hsw]; exact fun z => nomatch z)
      have ok' := ok.x.mv ks
      have rel := rel_of_mv (X := X) ok.hh r ks
      cases e with
      | comp elt j it =>
        unfold ckE at h3
        split at h3
        · rename_i l y p1 e0 sc p2
          simp only [Bool.and_eq_true, Bool.not_eq_true'] at h3
          obtain ⟨⟨⟨⟨⟨⟨⟨g1, g2⟩, g3⟩, g4⟩, g5⟩, g6⟩, g7⟩, _⟩ := h3
          have okb : BlkOk X.N X.env.scope sc [(y, j)] := by rw [ok.x.N, ok.x.sc]; exact blkOk_by g3
          refine PS.best (ps_lcB (ok.x.calm ok.hh) ok.x.nd hN hyl sw pi_best okb (by rw [ok.x.sc]; exact locB_of g4) (by rw [ok.x.sc]; exact tgB_of g5) (ck_set g1 X.env)) ?_
          have e1 : (evE c.G ev (.comp elt j it) ρ) = ((evE c.G ev it ρ).bind items).bind fun xs => (filterMapR (fun _ => .ok true) (fun d => (evE c.G ev elt (ρ.set j (some d))).noEx) xs).bind fun ys => .ok (.list ys) := by
            show ((evE c.G ev it ρ).bind items).bind _ = _
            congr 1
            funext xs
            rw [mapR_filter]
          rw [e1] at ct
          exact lc_t (m := 0) rel.non ((sndE fa fd n ev it).itr false _ X (mvd c ks) W σ ρ H _ (.Name y p1) ok' tk rel g1 (fun z => nomatch z)) (fun d x z => by cases z) (fun d x => noEx_ne) (turn_of ok' ok.hh rel.toRelE okb.kind g6 (sndE fa fd n ev elt) g7)
            (Ct.imp ct fun d _ q2 v H' s rv => set_end r q2 s rv (.inr rfl))
        · cases h3
      | compIf elt j it t =>
        unfold ckE at h3
        split at h3
        · rename_i l y p1 e0 b0 sc p2
          simp only [Bool.and_eq_true, Bool.not_eq_true'] at h3
          obtain ⟨⟨⟨⟨⟨⟨⟨⟨g1, g2⟩, g3⟩, g4⟩, g5⟩, g6⟩, g7⟩, g8⟩, _⟩ := h3
          have okb : BlkOk X.N X.env.scope sc [(y, j)] := by rw [ok.x.N, ok.x.sc]; exact blkOk_by g3
          refine PS.best (ps_lcB (ok.x.calm ok.hh) ok.x.nd hN hyl sw pi_best okb (by rw [ok.x.sc]; exact locB_of g4) (by rw [ok.x.sc]; exact tgB_of g5) (ck_set g1 X.env)) ?_
          exact lc_t (m := 0) rel.non ((sndE fa fd n ev it).itr false _ X (mvd c ks) W σ ρ H _ (.Name y p1) ok' tk rel g1 (fun z => nomatch z)) (fun d x => noEx_ne) (fun d x => noEx_ne) (turn_if ok' ok.hh rel.toRelE okb.kind g6 (sndE fa fd n ev elt) g7 (sndE fa fd n ev t) g8)
            (Ct.imp ct fun d _ q2 v H' s rv => set_end r q2 s rv (.inr rfl))
        · cases h3
      | _ => cases h6
  · cases h
theorem st_ret (ks : List Nat) (e : E) : GoodSt fa fd n ev WN (.ret ks e) := fun st X c W B0 H0 oa σ ρ H D ok tk r h q => by
  unfold ckS at h
  split at h
  · rename_i v pos
    have q' : EndOk D W X.mg B0 H0 c.own (BB B0 oa) H ((evE c.G ev e ρ).out (clear ρ ks) fun d => .rt d (clear ρ ks)) := q
    refine PS.best (ps_ret pe_best) ?_
    refine ((sndE fa fd n ev e).val 0 (by omega)).run v X (mvd c ks) W σ ρ H _ (ok.x.mv ks) tk (rel_of_mv ok.hh r ks) h _ (Ct.imp (end_ct r ks q') fun d _ q2 v H' s rv => ?_)
    exact q2 v H' (r.same.trans s) ((rv.rd rfl).mv (.less fun b hb _ => .inl hb))
  · cases h
theorem st_brk : GoodSt fa fd n ev WN .brk := fun st X c W B0 H0 oa σ ρ H D ok tk r h q => by
  unfold ckS at h
  split at h
  · exact PS.best ps_break (q oa σ H r (.same (L2.Same.refl H)))
  · cases h
theorem st_cont : GoodSt fa fd n ev WN .cont := fun st X c W B0 H0 oa σ ρ H D ok tk r h q => by
  unfold ckS at h
  split at h
  · exact PS.best ps_continue (q oa σ H r (.same (L2.Same.refl H)))
  · cases h
theorem st_pass : GoodSt fa fd n ev WN .pass := fun st X c W B0 H0 oa σ ρ H D ok tk r h q => by
  unfold ckS at h
  split at h
  · exact PS.best ps_pass (q oa σ H r (.same (L2.Same.refl H)))
  · cases h
theorem st_ite {a b : Ss} (t : E) (ga : GoodSts fa fd n ev WN a) (gb : GoodSts fa fd n ev WN b) : GoodSt fa fd n ev WN (.ite t a b) := fun st X c W B0 H0 oa σ ρ H D ok tk r h q => by
  unfold ckS at h
  split at h
  · rename_i tx p1 q1 pos
    rw [Bool.and_eq_true, Bool.and_eq_true] at h
    refine PS.best (ps_if pt_best pss_best pss_best) ?_
    have q' : EndOk D W X.mg B0 H0 c.own (BB B0 oa) H ((evE c.G ev t ρ).out ρ fun d => (asBool d).out ρ fun k => if k = true then evSs c.G c.XT WN ev a ρ else evSs c.G c.XT WN ev b ρ) := q
    have q2 : EndOk D W X.mg B0 H0 c.own (BB B0 oa) H (((evE c.G ev t ρ).bind asBool).out ρ fun k => if k = true then evSs c.G c.XT WN ev a ρ else evSs c.G c.XT WN ev b ρ) := by
      cases he : evE c.G ev t ρ with
      | ok d =>
        rw [he] at q'
        exact q'
      | ex x => rw [he] at q'; exact q'
      | bad => rw [he] at q'; exact q'
    refine (sndE fa fd n ev t).tst tx X c W σ ρ H _ ok.x tk (r.relE.cold ok.hh) h.1.1 _ (Ct.imp (end_ct0 r q2) fun k _ q3 H' s => ?_)
    cases k with
    | true => exact ga p1 X c W B0 H0 oa σ ρ H' D ok tk (r.grow s) h.1.2 (EndOk.mono q3 (.same s))
    | false => exact gb q1 X c W B0 H0 oa σ ρ H' D ok tk (r.grow s) h.2 (EndOk.mono q3 (.same s))
  · cases h
theorem st_for {body : Ss} (i : Nat) (it : E) (clr : List Nat) (gb : GoodSts fa fd n ev WN body) : GoodSt fa fd n ev WN (.for_ i it body clr) := fun st X c W B0 H0 oa σ ρ H D ok tk r h q => by
  unfold ckS at h
  split at h
  · rename_i x px ie bd pos
    simp only [Bool.and_eq_true, Bool.or_eq_true, Bool.not_eq_true'] at h
    obtain ⟨⟨⟨⟨⟨h1, h2⟩, h3⟩, h4⟩, h5⟩, h6⟩ := h
    have hN : X.N[i]? = some x := by rw [ok.x.N]; exact of_decide_eq_true h1
    have hl : L2.Loc X.env.scope x := by rw [ok.x.sc]; exact locB_of h2
    have q' : EndOk D W X.mg B0 H0 c.own (BB B0 oa) H (((evE c.G ev it ρ).bind items).out ρ fun xs => evFor (evSs c.G c.XT WN ev body) i clr xs ρ) := q
    refine PS.best (ps_for ok.pass (ok.x.calm ok.hh) pi_best (pg_name ok.x.nd hN hl (.inl (ok.fn x))) pss_best (ck_set h4 X.env)) ?_
    refine (sndE fa fd n ev it).itr true ie X c W σ ρ H _ (.Name x px) ok.x tk (r.relE.cold ok.hh) h4 (fun _ => h5.imp (fun z => by cases it <;> first | rfl | cases z) id) _ (Ct.imp (end_ct0 r q') fun xs _ q2 J H1 hz s1 hJ => ?_)
    have m1 : MvS (BB B0 oa) (BB B0 oa) H H1 := .same s1
    refine ⟨fun k m σ2 H2 => m = xs.length - k ∧ k ≤ xs.length ∧ ∃ oa2 ρ2, RelS B0 H0 c.own oa2 ρ2 σ2 H2 ∧ MvS (BB B0 oa) (BB B0 oa2) H1 H2 ∧ EndOk D W X.mg B0 H0 c.own (BB B0 oa2) H2 (evFor (evSs c.G c.XT WN ev body) i clr (xs.drop k) ρ2),
      ⟨xs.length, rfl, Nat.zero_le _, oa, ρ, r.grow s1, .same (L2.Same.refl _), by rw [List.drop_zero]; exact EndOk.mono q2 m1⟩, ?_⟩
    rintro k m σ2 H2 ⟨rfl, hk, oa2, ρ2, r2, m2, q3⟩
    have hJ2 := hJ (BB B0 oa2) H2 ⟨m2.mv, fun z => nomatch z⟩ k
    by_cases hlt : k < xs.length
    · obtain ⟨hgo, hyl⟩ := hJ2.1 hlt
      refine .inr ⟨hgo, fun σ3 H3 => k < xs.length ∧ ∃ oa3 ρ3, RelS B0 H0 c.own oa3 ρ3 σ3 H3 ∧ MvS (BB B0 oa) (BB B0 oa3) H1 H3 ∧ EndOk D W X.mg B0 H0 c.own (BB B0 oa3) H3 (evFor (evSs c.G c.XT WN ev body) i clr (xs.drop (k + 1)) ρ3),
        fun σ3 H3 ⟨_, z⟩ => ⟨xs.length - (k + 1), by omega, rfl, by omega, z⟩, fun v H3 hyy => ?_⟩
      obtain ⟨rfl, d, hd, hv⟩ := hyl v H3 hyy
      have hdrop : xs.drop k = d :: xs.drop (k + 1) := by
        rw [List.drop_eq_getElem_cons hlt]
        have := List.getElem?_eq_getElem hlt
        rw [hd] at this
        cases this
        rfl
      rw [hdrop] at q3
      have r3 := r2.setI (i := i) (v := v) (d := d) (.inl h3) hv
      refine gb bd X c W B0 H0 oa2 (σ2.set i (some v)) (ρ2.set i (some d)) H3 _ ok tk r3 h6 ?_
      unfold evFor at q3
      cases ho : evSs c.G c.XT WN ev body (ρ2.set i (some d)) with
      | nx ρ4 =>
        rw [ho] at q3
        exact fun oa4 σ4 H4 r4 m4 => ⟨hlt, del oa4 clr, clear ρ4 clr, r4.kill clr, (m2.trans m4).trans (mvs_kill clr), EndOk.mono q3 (m4.trans (mvs_kill clr))⟩
      | ct ρ4 =>
        rw [ho] at q3
        exact fun oa4 σ4 H4 r4 m4 => ⟨hlt, del oa4 clr, clear ρ4 clr, r4.kill clr, (m2.trans m4).trans (mvs_kill clr), EndOk.mono q3 (m4.trans (mvs_kill clr))⟩
      | bk ρ4 =>
        rw [ho] at q3
        exact fun oa4 σ4 H4 r4 m4 => q3 (del oa4 clr) σ4 H4 (r4.kill clr) (m4.trans (mvs_kill clr))
      | rt d ρ4 => rw [ho] at q3; exact q3
      | ex x ρ4 => rw [ho] at q3; exact q3
      | bad => rw [ho] at q3; exact q3
    · have hke : xs.length ≤ k := by omega
      rw [List.drop_of_length_le hke] at q3
      exact .inl ⟨hJ2.2 hke, q3 oa2 σ2 H2 r2 (.same (L2.Same.refl _))⟩
  · cases h
end
end PV
end
section
set_option Elab.async false
set_option linter.all false
set_option maxRecDepth 100000
set_option maxHeartbeats 8000000
/-! PV20: own lists and dicts written. -/
namespace PV
open PySem PySem.Spec PyProof.Rows L2
section
variable {fa : Nat → Addr} {fd : Nat → FuncData} {n : Nat} {ev : Nat → List PyData → R PyData} {WN : Nat}
theorem mv_write {B : Addr → Prop} {H : Hp} {a : Addr} {o o' : HO} (hb : B a) (ho : H a = some o) (nf : Nf o) (nt : ∀ xs, o ≠ .tup xs) : Mv B B H (upd H a o') :=
  ⟨fun b u _ h hb' => by
      have hne : b ≠ a := fun z => hb' (by rw [z]; exact hb)
      rcases h with h | ⟨o2, h⟩
      · exact .inl (by rw [upd_ne hne]; exact h)
      · exact .inr ⟨o2, by rw [upd_ne hne]; exact h⟩,
    fun b w h => by rw [upd_ne (fun z => by rw [z, ho] at h; exact nt w (Option.some.inj h))]; exact h,
    fun b o2 w h => by rw [upd_ne (fun z => by rw [z, ho] at h; cases h; exact nf)]; exact h,
    fun b h _ => h⟩
theorem own_list {B0 : Addr → Prop} {H0 : Hp} {own : List Nat} {oa : Nat → Option Addr} {ρ : Env} {σ : L2.St} {H : Hp} (r : RelS B0 H0 own oa ρ σ H) {i : Nat} {xs : List PyData} (ho : own.contains i = true) (h : ρ[i]? = some (some (.list xs))) :
    ∃ a vs, σ[i]? = some (some (.ref a)) ∧ oa i = some a ∧ H a = some (.lst vs) ∧ RDs (BB B0 oa) H vs xs := by
  obtain ⟨v, e, h | ⟨a, rfl, h3, h⟩⟩ := r.pk i _ ho h
  · cases h.1
  · rcases h with ⟨vs, ds, e1, e2, e3⟩ | ⟨_, _, e1, _⟩
    · cases e1; exact ⟨a, vs, e, h3, e2, e3⟩
    · cases e1
theorem own_dict {B0 : Addr → Prop} {H0 : Hp} {own : List Nat} {oa : Nat → Option Addr} {ρ : Env} {σ : L2.St} {H : Hp} (r : RelS B0 H0 own oa ρ σ H) {i : Nat} {xs : List (PyData × PyData)} (ho : own.contains i = true) (h : ρ[i]? = some (some (.dict xs))) :
    ∃ a kvs, σ[i]? = some (some (.ref a)) ∧ oa i = some a ∧ H a = some (.dT kvs) ∧ RDt (BB B0 oa) H kvs xs := by
  obtain ⟨v, e, h | ⟨a, rfl, h3, h⟩⟩ := r.pk i _ ho h
  · cases h.1
  · rcases h with ⟨_, _, e1, _⟩ | ⟨kvs, ds, e1, e2, e3⟩
    · cases e1
    · cases e1; exact ⟨a, kvs, e, h3, e2, e3⟩
theorem st_app (ks : List Nat) (i : Nat) (e : E) : GoodSt fa fd n ev WN (.app ks i e) := fun st X c W B0 H0 oa σ ρ H D ok tk r h q => by
  unfold ckS at h
  split at h
  · rename_i x px mt ap v cp pos
    simp only [Bool.and_eq_true, Bool.not_eq_true'] at h
    obtain ⟨⟨⟨⟨⟨⟨h1, h2⟩, h3⟩, h4⟩, h5⟩, h6⟩, h7⟩ := h
    obtain rfl := eq_of_beq h1
    have q' : EndOk D W X.mg B0 H0 c.own (BB B0 oa) H (match (clear ρ ks)[i]? with
      | some (some (.list xs)) => (evE c.G ev e ρ).out (clear ρ ks) fun d => if xs.length < LIM then .nx ((clear ρ ks).set i (some (.list (xs ++ [d])))) else .bad
      | _ => .bad) := q
    split at q'
    · rename_i xs hx
      have r1 := r.kill ks
      obtain ⟨a, vs, e1, e2, e3, e4⟩ := own_list r1 h4 hx
      refine PS.best (ps_expr (pe_bm (T := "list") F.plainAttrs_list F.slot_list_append F.type_list_append mt_append (ok.x.nm h3) (pa_cons pe_best pa_nil (star1 h7 [] X.env)) rfl (by rw [star1 h7]; rfl) h2 (star1 h7 [] X.env) rfl) rfl) ?_
      refine ⟨.ref a, e1, .inl ⟨rfl, vs, .inl (.inl e3)⟩, ?_⟩
      refine ((sndE fa fd n ev e).val 0 (by omega)).run v X (mvd c ks) W σ ρ H _ (ok.x.mv ks) tk (rel_of_mv ok.hh r ks) h6 _ (Ct.imp (end_ct r ks q') fun d _ q2 u H' s rv => ?_)
      have q3 : EndOk D W X.mg B0 H0 c.own (BB B0 oa) H (if xs.length < LIM then Out.nx ((clear ρ ks).set i (some (.list (xs ++ [d])))) else .bad) := q2
      split at q3
      · rename_i hz
        have e3' := s _ _ e3
        have hb : BB B0 (PV.del oa ks) a := .inr ⟨i, e2⟩
        have mw := mv_write (o' := .lst (vs ++ [u])) hb e3' trivial (fun _ z => nomatch z)
        obtain ⟨x1, x2⟩ := (r1.grow s).write (i := i) (d' := .list (xs ++ [d])) (d := .none) (o' := .lst (vs ++ [u])) e2 h4 e1 e3' trivial (fun _ z => nomatch z)
          (.inl ⟨vs ++ [u], xs ++ [d], rfl, upd_same, RDs.mv mw ((RDs.mv (.same s) e4).append (.cons (rv.rd rfl) .nil))⟩)
        exact ⟨a, vs, u, rfl, rfl, e3', by rw [e4.length, ← LIM_eq]; exact hz, q3 _ _ _ x1 (((mvs_kill ks).trans (.same s)).trans x2)⟩
      · exact q3.elim
    · exact q'.elim
  · cases h
theorem paired_fst {F : List Key × V → List Key × Addr × Value → Prop} : ∀ {kvs : List (List Key × V)} {xs : List (List Key × Addr × Value)}, Paired (fun p q => p.1 = q.1 ∧ F p q) kvs xs → kvs.map (·.1) = xs.map (·.1)
  | _, _, .nil => rfl
  | _, _, .cons p t => by rw [List.map_cons, List.map_cons, p.1, paired_fst t]
theorem nodup_dT {X : Cx} {pins : List (Addr × Obj)} {σ : L2.St} {H : Hp} {s : Shared} {a : Addr} {kvs : List (List Key × V)} (I : L2.Inv X pins σ H s) (h : H a = some (.dT kvs)) : (kvs.map (·.1)).Nodup := by
  obtain ⟨_, _, xs, pr, o, es, ep, _, _, _, _, nd⟩ := I.hok a _ h
  rw [paired_fst pr]; exact nd
theorem st_put (ks : List Nat) (i : Nat) (k e : E) : GoodSt fa fd n ev WN (.put ks i k e) := fun st X c W B0 H0 oa σ ρ H D ok tk r h q => by
  unfold ckS at h
  split at h
  · rename_i x px ke sp v pos
    simp only [Bool.and_eq_true, Bool.not_eq_true'] at h
    obtain ⟨⟨⟨⟨h1, h2⟩, h3⟩, h4⟩, h5⟩ := h
    have r1 := r.kill ks
    have ok' := ok.x.mv ks
    have rel := rel_of_mv (X := X) ok.hh r ks
    have q' : EndOk D W X.mg B0 H0 c.own (BB B0 oa) H ((evE c.G ev e ρ).out (clear ρ ks) fun d => match (clear ρ ks)[i]? with
      | some (some (.dict kvs)) => (evE c.G ev k ρ).out (clear ρ ks) fun j => if tkey j = true ∧ kvs.length < LIM then .nx ((clear ρ ks).set i (some (.dict (dput kvs j d)))) else .bad
      | some (some (.list xs)) => (evE c.G ev k ρ).out (clear ρ ks) fun j => match j with
        | .int n => (match place xs.length n with
          | some m => .nx ((clear ρ ks).set i (some (.list (xs.set m d))))
          | none => .bad)
        | _ => .bad
      | _ => .bad) := q
    intro pins s I
    let P1 : V → Hp → Prop := fun u H1 => ∃ d, Same H H1 ∧ RD (BB B0 (PV.del oa ks)) H1 u d ∧ EndOk D W X.mg B0 H0 c.own (BB B0 oa) H (match (clear ρ ks)[i]? with
      | some (some (.dict kvs)) => (evE c.G ev k ρ).out (clear ρ ks) fun j => if tkey j = true ∧ kvs.length < LIM then .nx ((clear ρ ks).set i (some (.dict (dput kvs j d)))) else .bad
      | some (some (.list xs)) => (evE c.G ev k ρ).out (clear ρ ks) fun j => match j with
        | .int n => (match place xs.length n with
          | some m => .nx ((clear ρ ks).set i (some (.list (xs.set m d))))
          | none => .bad)
        | _ => .bad
      | _ => .bad)
    refine wpAny_Assign_Subscript (thn (((sndE fa fd n ev e).val 0 (by omega)).run v X (mvd c ks) W σ ρ H _ ok' tk rel h4 P1 (Ct.imp (end_ct r ks q') fun d _ q2 u H' s rv => ⟨d, s, rv.rd rfl, q2⟩) pins s I) fun rv s1 ⟨u, H1, I1, ru, d, sm1, rd1, q2⟩ => ?_) sw_sub
    split at q2
    · rename_i kvs0 hx
      obtain ⟨a, kvs, e1, e2, e3, e4⟩ := own_dict r1 h2 hx
      refine thn ((ok.x.nm h1).run pins s1 σ H1 (fun x H2 => x = .ref a ∧ H2 = H1) I1 ⟨_, e1, rfl, rfl⟩) fun uo s2 ⟨x0, H2, I2, rx, ex, eH⟩ => ?_
      subst ex eH
      obtain rfl : uo = Value.ref a := rx
      have q2 := EndOk.mono q2 (MvS.same sm1)
      refine thn (((sndE fa fd n ev k).val 0 (by omega)).run ke X (mvd c ks) W σ ρ H2 _ ok' tk (rel.same sm1) h5 (fun y H3 => ∃ j, Same H2 H3 ∧ RD (BB B0 (PV.del oa ks)) H3 y j ∧ EndOk D W X.mg B0 H0 c.own (BB B0 oa) H2 (if tkey j = true ∧ kvs0.length < LIM then Out.nx ((clear ρ ks).set i (some (.dict (dput kvs0 j d)))) else .bad))
        (Ct.imp (end_ct (r.grow sm1) ks q2) fun j _ q3 y H' s rv => ⟨j, s, rv.rd rfl, q3⟩) pins s2 I2) fun iv s3 ⟨y, H3, I3, ry, j, sm3, rd3, q3⟩ => ?_
      split at q3
      · rename_i hj
        obtain ⟨b, kk, rfl, hb, rfl⟩ := tkey_of rd3 hj.1
        have e3' := sm3 _ _ (sm1 _ _ e3)
        have nd := nodup_dT I3 e3'
        have hbb : BB B0 (PV.del oa ks) a := .inr ⟨i, e2⟩
        have mw := mv_write (o' := .dT (putK kvs kk u)) hbb e3' trivial (fun _ z => nomatch z)
        have rt := RDt.map kk (rd1.mv (.same sm3)) (RDt.mv (.same (sm1.trans sm3)) e4) nd
        have hlen := RDt.length e4
        obtain ⟨x1, x2⟩ := (r1.grow (sm1.trans sm3)).write (i := i) (d' := .dict (dput kvs0 (.tuple (kk.map kD)) d)) (d := .none) (o' := .dT (putK kvs kk u)) e2 h2 e1 e3' trivial (fun _ z => nomatch z)
          (.inr ⟨_, _, rfl, upd_same, RDt.mv mw rt⟩)
        have g : DPut H3 a (.ref b) u (upd H3 a (.dT (putK kvs kk u))) := DPut.t e3' hb (by rw [hlen, ← LIM_eq]; exact hj.2)
        exact d_setItem (by have := ok.x.hu; omega) I3 g ry ru fun s4 I4 => ⟨σ, _, I4, q3 _ _ _ x1 (((mvs_kill ks).trans (.same sm3)).trans x2)⟩
      · exact q3.elim
    · rename_i xs0 hx
      obtain ⟨a, vs, e1, e2, e3, e4⟩ := own_list r1 h2 hx
      refine thn ((ok.x.nm h1).run pins s1 σ H1 (fun x H2 => x = .ref a ∧ H2 = H1) I1 ⟨_, e1, rfl, rfl⟩) fun uo s2 ⟨x0, H2, I2, rx, ex, eH⟩ => ?_
      subst ex eH
      have q2 := EndOk.mono q2 (MvS.same sm1)
      refine thn (((sndE fa fd n ev k).val 0 (by omega)).run ke X (mvd c ks) W σ ρ H2 _ ok' tk (rel.same sm1) h5 (fun y H3 => ∃ j, Same H2 H3 ∧ RD (BB B0 (PV.del oa ks)) H3 y j ∧ EndOk D W X.mg B0 H0 c.own (BB B0 oa) H2 (match j with
          | .int n => (match place xs0.length n with
            | some m => Out.nx ((clear ρ ks).set i (some (.list (xs0.set m d))))
            | none => .bad)
          | _ => .bad))
        (Ct.imp (end_ct (r.grow sm1) ks q2) fun j _ q3 y H' s rv => ⟨j, s, rv.rd rfl, q3⟩) pins s2 I2) fun iv s3 ⟨y, H3, I3, ry, j, sm3, rd3, q3⟩ => ?_
      cases j with
      | int nn =>
        have q4 : EndOk D W X.mg B0 H0 c.own (BB B0 oa) H2 (match place xs0.length nn with
            | some m => Out.nx ((clear ρ ks).set i (some (.list (xs0.set m d))))
            | none => .bad) := q3
        cases hp : place xs0.length nn with
        | none => rw [hp] at q4; exact q4.elim
        | some m =>
          rw [hp] at q4
          cases rd3
          have e3' := sm3 _ _ (sm1 _ _ e3)
          have hbb : BB B0 (PV.del oa ks) a := .inr ⟨i, e2⟩
          have mw := mv_write (o' := .lst (vs.set m u)) hbb e3' trivial (fun _ z => nomatch z)
          obtain ⟨x1, x2⟩ := (r1.grow (sm1.trans sm3)).write (i := i) (d' := .list (xs0.set m d)) (d := .none) (o' := .lst (vs.set m u)) e2 h2 e1 e3' trivial (fun _ z => nomatch z)
            (.inl ⟨_, _, rfl, upd_same, RDs.mv mw (RDs.set (rd1.mv (.same sm3)) m (RDs.mv (.same (sm1.trans sm3)) e4))⟩)
          refine thn (set_list pins s3 σ H3 (.ref a) (.int nn) u uo iv rv (fun H4 => D.nx σ H4) I3 rx ry ru ⟨a, vs, nn, m, rfl, rfl, e3', by rw [e4.length, ← place_eq]; exact hp, q4 _ _ _ x1 (((mvs_kill ks).trans (.same sm3)).trans x2)⟩) fun _ s4 ⟨H4, I4, q5⟩ => ⟨σ, H4, I4, q5⟩
      | _ => exact q3.elim
    · exact q2.elim
  · cases h
end
end PV
end
section
set_option Elab.async false
set_option linter.all false
set_option maxRecDepth 100000
set_option maxHeartbeats 8000000
namespace PV
open PySem PySem.Spec PyProof.Rows L2
mutual
theorem ckE_g (G G0 : Gls) : ∀ (e : E) (N : List Str) (own : List Nat) (sc : Scope) (T : Nat → Option FnD) (KF : List Str) (XT : Nat → Option Xc) (hot : Bool) (hi : Nat) (m : Nat) (x : Expr), ckE ⟨N, own, sc, T, G, KF, XT, hot, hi⟩ m e x = ckE ⟨N, own, sc, T, G0, KF, XT, hot, hi⟩ m e x
  | .v i, N, own, sc, T, KF, XT, hot, hi, m, x => by
    unfold ckE
    rfl
  | .pk i, N, own, sc, T, KF, XT, hot, hi, m, x => by
    unfold ckE
    rfl
  | .none, N, own, sc, T, KF, XT, hot, hi, m, x => by
    unfold ckE
    rfl
  | .bool b, N, own, sc, T, KF, XT, hot, hi, m, x => by
    unfold ckE
    rfl
  | .int b, N, own, sc, T, KF, XT, hot, hi, m, x => by
    unfold ckE
    rfl
  | .str b, N, own, sc, T, KF, XT, hot, hi, m, x => by
    unfold ckE
    rfl
  | .glob b, N, own, sc, T, KF, XT, hot, hi, m, x => by
    unfold ckE
    rfl
  | .bin o a b, N, own, sc, T, KF, XT, hot, hi, m, x => by
    unfold ckE
    simp only [ckE_g G G0 a, ckE_g G G0 b]
    try rfl
  | .neg a, N, own, sc, T, KF, XT, hot, hi, m, x => by
    unfold ckE
    simp only [ckE_g G G0 a]
    try rfl
  | .cmp o a b, N, own, sc, T, KF, XT, hot, hi, m, x => by
    unfold ckE
    simp only [ckE_g G G0 a, ckE_g G G0 b]
    try rfl
  | .chain o p a b d, N, own, sc, T, KF, XT, hot, hi, m, x => by
    unfold ckE
    simp only [ckE_g G G0 a, ckE_g G G0 b, ckE_g G G0 d]
    try rfl
  | .isN a, N, own, sc, T, KF, XT, hot, hi, m, x => by
    unfold ckE
    simp only [ckE_g G G0 a]
    try rfl
  | .notN a, N, own, sc, T, KF, XT, hot, hi, m, x => by
    unfold ckE
    simp only [ckE_g G G0 a]
    try rfl
  | .and es, N, own, sc, T, KF, XT, hot, hi, m, x => by
    unfold ckE
    simp only [ckEs_g G G0 es]
    try rfl
  | .or es, N, own, sc, T, KF, XT, hot, hi, m, x => by
    unfold ckE
    simp only [ckEs_g G G0 es]
    try rfl
  | .not a, N, own, sc, T, KF, XT, hot, hi, m, x => by
    unfold ckE
    simp only [ckE_g G G0 a]
    try rfl
  | .ite d a b, N, own, sc, T, KF, XT, hot, hi, m, x => by
    unfold ckE
    simp only [ckE_g G G0 a, ckE_g G G0 b, ckE_g G G0 d]
    try rfl
  | .tup es, N, own, sc, T, KF, XT, hot, hi, m, x => by
    unfold ckE
    simp only [ckEs_g G G0 es]
    try rfl
  | .lst es, N, own, sc, T, KF, XT, hot, hi, m, x => by
    unfold ckE
    simp only [ckEs_g G G0 es]
    try rfl
  | .dT, N, own, sc, T, KF, XT, hot, hi, m, x => by
    unfold ckE
    rfl
  | .ix a b, N, own, sc, T, KF, XT, hot, hi, m, x => by
    unfold ckE
    simp only [ckE_g G G0 a, ckE_g G G0 b]
    try rfl
  | .sl a b d, N, own, sc, T, KF, XT, hot, hi, m, x => by
    unfold ckE
    simp only [ckE_g G G0 a, ckE_g G G0 b, ckE_g G G0 d]
    try rfl
  | .slL a b, N, own, sc, T, KF, XT, hot, hi, m, x => by
    unfold ckE
    simp only [ckE_g G G0 a, ckE_g G G0 b]
    try rfl
  | .slH a b, N, own, sc, T, KF, XT, hot, hi, m, x => by
    unfold ckE
    simp only [ckE_g G G0 a, ckE_g G G0 b]
    try rfl
  | .call f as ks dfl, N, own, sc, T, KF, XT, hot, hi, m, x => by
    unfold ckE
    simp only [ckEs_g G G0 as, ckEs_g G G0 ks, ckKs_g G G0 as, ckKs_g G G0 ks]
    try rfl
  | .f1 f a, N, own, sc, T, KF, XT, hot, hi, m, x => by
    unfold ckE
    simp only [ckE_g G G0 a]
    try rfl
  | .mx2 a b, N, own, sc, T, KF, XT, hot, hi, m, x => by
    unfold ckE
    simp only [ckE_g G G0 a, ckE_g G G0 b]
    try rfl
  | .mn2 a b, N, own, sc, T, KF, XT, hot, hi, m, x => by
    unfold ckE
    simp only [ckE_g G G0 a, ckE_g G G0 b]
    try rfl
  | .isa t a, N, own, sc, T, KF, XT, hot, hi, m, x => by
    unfold ckE
    simp only [ckE_g G G0 a]
    try rfl
  | .lenset a, N, own, sc, T, KF, XT, hot, hi, m, x => by
    unfold ckE
    simp only [ckE_g G G0 a]
    try rfl
  | .sortk f a, N, own, sc, T, KF, XT, hot, hi, m, x => by
    unfold ckE
    simp only [ckE_g G G0 a]
    try rfl
  | .get2 a b d, N, own, sc, T, KF, XT, hot, hi, m, x => by
    unfold ckE
    simp only [ckE_g G G0 a, ckE_g G G0 b, ckE_g G G0 d]
    try rfl
  | .index a b, N, own, sc, T, KF, XT, hot, hi, m, x => by
    unfold ckE
    simp only [ckE_g G G0 a, ckE_g G G0 b]
    try rfl
  | .comp a i b, N, own, sc, T, KF, XT, hot, hi, m, x => by
    unfold ckE
    simp only [ckE_g G G0 a, ckE_g G G0 b]
    try rfl
  | .compIf a i b d, N, own, sc, T, KF, XT, hot, hi, m, x => by
    unfold ckE
    simp only [ckE_g G G0 a, ckE_g G G0 b, ckE_g G G0 d]
    try rfl
  | .compD a i j, N, own, sc, T, KF, XT, hot, hi, m, x => by
    unfold ckE
    simp only [ckE_g G G0 a]
    try rfl
  | .compIfD a i j d, N, own, sc, T, KF, XT, hot, hi, m, x => by
    unfold ckE
    simp only [ckE_g G G0 a, ckE_g G G0 d]
    try rfl
  | .rng1 a, N, own, sc, T, KF, XT, hot, hi, m, x => by
    unfold ckE
    simp only [ckE_g G G0 a]
    try rfl
  | .rng2 a b, N, own, sc, T, KF, XT, hot, hi, m, x => by
    unfold ckE
    simp only [ckE_g G G0 a, ckE_g G G0 b]
    try rfl
  | .rng3 a b d, N, own, sc, T, KF, XT, hot, hi, m, x => by
    unfold ckE
    simp only [ckE_g G G0 a, ckE_g G G0 b, ckE_g G G0 d]
    try rfl
  | .fld k f, N, own, sc, T, KF, XT, hot, hi, m, x => by
    unfold ckE
    rfl
  | .isaC k z, N, own, sc, T, KF, XT, hot, hi, m, x => by
    unfold ckE
    rfl
theorem ckEs_g (G G0 : Gls) : ∀ (es : Es) (N : List Str) (own : List Nat) (sc : Scope) (T : Nat → Option FnD) (KF : List Str) (XT : Nat → Option Xc) (hot : Bool) (hi : Nat) (l : List Expr), ckEs ⟨N, own, sc, T, G, KF, XT, hot, hi⟩ es l = ckEs ⟨N, own, sc, T, G0, KF, XT, hot, hi⟩ es l
  | .nil, N, own, sc, T, KF, XT, hot, hi, l => by cases l <;> (unfold ckEs; rfl)
  | .cons e r, N, own, sc, T, KF, XT, hot, hi, l => by
    cases l with
    | nil => unfold ckEs; rfl
    | cons x xs =>
      unfold ckEs
      simp only [ckE_g G G0 e, ckEs_g G G0 r]
theorem ckKs_g (G G0 : Gls) : ∀ (es : Es) (N : List Str) (own : List Nat) (sc : Scope) (T : Nat → Option FnD) (KF : List Str) (XT : Nat → Option Xc) (hot : Bool) (hi : Nat) (l : List Keyword), ckKs ⟨N, own, sc, T, G, KF, XT, hot, hi⟩ es l = ckKs ⟨N, own, sc, T, G0, KF, XT, hot, hi⟩ es l
  | .nil, N, own, sc, T, KF, XT, hot, hi, l => by cases l <;> (unfold ckKs; rfl)
  | .cons e r, N, own, sc, T, KF, XT, hot, hi, l => by
    cases l with
    | nil => unfold ckKs; rfl
    | cons x xs =>
      obtain ⟨x1, x2, x3⟩ := x
      unfold ckKs
      simp only [ckE_g G G0 e, ckKs_g G G0 r]
end
theorem ckSu_g (G G0 : Gls) (N : List Str) (own : List Nat) (sc : Scope) (T : Nat → Option FnD) (KF : List Str) (XT : Nat → Option Xc) (hot : Bool) (hi : Nat) : ∀ (su : Su) (l : List Stmt), ckSu ⟨N, own, sc, T, G, KF, XT, hot, hi⟩ su l = ckSu ⟨N, own, sc, T, G0, KF, XT, hot, hi⟩ su l
  | .ret e, l => by
    unfold ckSu
    simp only [ckE_g G G0 e]
    try rfl
  | .iff t e r, l => by
    unfold ckSu
    simp only [ckE_g G G0 t, ckE_g G G0 e, ckSu_g G G0 N own sc T KF XT hot hi r]
    try rfl
  | .fall, l => by unfold ckSu; rfl
end PV
end
section
set_option Elab.async false
set_option linter.all false
set_option maxRecDepth 100000
set_option maxHeartbeats 8000000
/-! PVY: raise, try. -/
namespace PV
open PySem PySem.Spec PyProof.Rows L2
theorem look_nodup {α : Type} {f : Str} {v : α} : ∀ {l : List (Str × α)}, (f, v) ∈ l → (l.map (·.1)).Nodup → l.lookup f = some v
  | (g, u) :: l, h, n => by
    have n' := List.nodup_cons.mp n
    rcases List.mem_cons.mp h with e | h
    · cases e
      simp [List.lookup]
    · have hne : f ≠ g := fun e => n'.1 (by rw [← e]; exact List.mem_map.mpr ⟨(f, v), h, rfl⟩)
      rw [List.lookup_cons, beq_eq_false_iff_ne.mpr hne]
      exact look_nodup h n'.2
theorem zip_at {α β : Type} {a : α} {b : β} : ∀ {l : List α} {m : List β}, (a, b) ∈ l.zip m → ∃ i : Nat, l[i]? = some a ∧ m[i]? = some b
  | x :: l, y :: m, h => by
    rw [List.zip_cons_cons] at h
    rcases List.mem_cons.mp h with e | h
    · cases e; exact ⟨0, rfl, rfl⟩
    · obtain ⟨i, h1, h2⟩ := zip_at h
      exact ⟨i + 1, h1, h2⟩
  | [], _, h => nomatch h
  | _ :: _, [], h => nomatch h
theorem zip_mem {α β : Type} {a : α} {b : β} : ∀ {l : List α} {m : List β} {i : Nat}, l[i]? = some a → m[i]? = some b → (a, b) ∈ l.zip m
  | x :: l, y :: m, 0, h1, h2 => by
    simp at h1 h2
    subst h1 h2
    exact List.mem_cons_self
  | x :: l, y :: m, i + 1, h1, h2 => List.mem_cons_of_mem _ (zip_mem (by simpa using h1) (by simpa using h2))
  | [], _, i, h, _ => by simp at h
  | _ :: _, [], i, _, h => by simp at h
section
variable {fa : Nat → Addr} {fd : Nat → FuncData} {n : Nat} {ev : Nat → List PyData → R PyData} {WN : Nat}
theorem end_ctA {D : Ends} {W : WX} {mg : Str → Option Value} {B0 : Addr → Prop} {H0 : Hp} {own : List Nat} {oa : Nat → Option Addr} {ρ : Env} {σ : L2.St} {H : Hp} {rr : R (List PyData)} {f : List PyData → R PyData} {g : PyData → Out} (r : RelS B0 H0 own oa ρ σ H)
    (h : EndOk D W mg B0 H0 own (BB B0 oa) H ((rr.bind f).out ρ g)) : Ct mg W σ H (BB B0 oa) rr (fun a => EndOk D W mg B0 H0 own (BB B0 oa) H ((f a).out ρ g)) := by
  cases rr with
  | ok a => exact h
  | ex x => exact fun c dd H' s x => h oa σ H' c dd (r.grow s) (.same s) x
  | bad => exact h
theorem st_raise (k : Nat) (as : Es) : GoodSt fa fd n ev WN (.raise k as) := fun st X c W B0 H0 oa σ ρ H D ok tk r h q => by
  unfold ckS at h
  split at h
  · rename_i x p1 a args p2 p3
    simp only [Bool.and_eq_true] at h
    obtain ⟨⟨h1, h2⟩, h3⟩ := h
    split at h1
    · rename_i xc hxc
      simp only [Bool.and_eq_true] at h1
      obtain ⟨⟨⟨h4, h5⟩, h6⟩, h7⟩ := h1
      obtain rfl := eq_of_beq h4
      have nd := of_decide_eq_true h6
      obtain ⟨hlen, hsm⟩ := of_decide_eq_true h7
      obtain ⟨C, hmC, mk⟩ := ok.x.wd.xw.mkk k xc hxc h5
      obtain ⟨fI, fdI, ps, iC, tI, F1, bI⟩ := mk.ini
      obtain ⟨g1, g2, g3⟩ := ok.x.gl h2
      have q0 : EndOk D W X.mg B0 H0 c.own (BB B0 oa) H (match c.XT k with
        | some x => ((evEs c.G ev as ρ).bind (mkX x)).out ρ fun d => .ex d ρ
        | none => .bad) := q
      rw [hxc] at q0
      have hst := ckEs_stars h3
      rw [List.all_cons, Bool.and_eq_true] at hst
      refine PS.best (ps_raise (ok.x.calm ok.hh) tk (pmk_oex (es := args) mk.cls iC tI F1 ((ok.x.room ok.hh).mono (by omega)) bI .nil L2.passL g1 hmC pa_best g2 (star1 hst.1 args X.env) (anyStar hst.2))) ?_
      refine (sndEs fa fd n ev as).arg (a :: args) X c W σ ρ H _ ok.x tk (r.relE.cold ok.hh) h3 _ (Ct.imp (end_ctA r q0) fun ds _ q1 vs H1 s1 rd l1 => ?_)
      have l2 : vs.length = args.length + 1 := l1
      refine ⟨by omega, fun a0 ha => ⟨a0, vs, by rw [List.append_nil], by rw [l2, ← hlen], upd_same, fun d hd hda => ?_⟩⟩
      have hd1 : H1 d = none := by rw [upd_ne hda] at hd; exact hd
      refine ⟨rfl, d, _, upd_same, by rw [upd_ne hda, upd_same], hd1, ?_⟩
      have q2 : EndOk D W X.mg B0 H0 c.own (BB B0 oa) H ((mkX xc ds).out ρ fun d => .ex d ρ) := q1
      unfold mkX at q2
      split at q2
      · rename_i hdl
        generalize hH3 : upd (L2.del (upd (upd (upd H1 a0 (L2.exo a0 C none)) d (L2.exd d (xc.fields.zip vs).reverse)) a0 (L2.exo a0 C (some d))) a0) d (.xd (xc.fields.zip vs).reverse) = H3
        have sm : Same H1 H3 := fun b o e => by
          rw [← hH3, upd_ne (ne_of_none e hd1), del_ne (ne_of_none e ha), upd_ne (ne_of_none e ha), upd_ne (ne_of_none e hd1), upd_ne (ne_of_none e ha)]
          exact e
        refine q2 oa σ H3 (.ref C) (some d) (r.grow (s1.trans sm)) (.same (s1.trans sm)) ⟨xc.name, C, d, (xc.fields.zip vs).reverse, (xc.fields.map PyData.str).zip ds, rfl, rfl, hmC, rfl, by rw [← hH3]; exact upd_same, fun f e hm => ?_⟩
        obtain ⟨i, e1, e2⟩ := zip_at hm
        rw [List.getElem?_map] at e1
        cases hf : xc.fields[i]? with
        | none => rw [hf] at e1; cases e1
        | some f' =>
          rw [hf] at e1
          cases e1
          obtain ⟨v, e3, e4⟩ := rd.get e2
          refine ⟨v, look_nodup (List.mem_reverse.mpr (zip_mem hf e3)) ?_, e4.mv (.same sm)⟩
          rw [List.map_reverse, List.map_fst_zip (by omega)]
          exact (List.reverse_perm _).nodup_iff.mpr nd
      · exact q2.elim
    · cases h1
  · cases h
/-! ### try -/
theorem RelS.unset {B0 : Addr → Prop} {H0 : Hp} {own : List Nat} {oa : Nat → Option Addr} {ρ : Env} {σ : L2.St} {H : Hp} (r : RelS B0 H0 own oa ρ σ H) (i : Nat) (u : Option V) : RelS B0 H0 own oa (ρ.set i none) (σ.set i u) H := by
  have at' : ∀ {j x}, (ρ.set i none)[j]? = some (some x) → j ≠ i ∧ ρ[j]? = some (some x) ∧ (σ.set i u)[j]? = σ[j]? := by
    intro j x e
    by_cases hj : i = j
    · subst hj
      rw [List.getElem?_set, if_pos rfl] at e
      split at e <;> cases e
    · rw [List.getElem?_set_ne hj] at e
      exact ⟨Ne.symm hj, e, by rw [List.getElem?_set_ne hj]⟩
  refine ⟨r.same, fun j x h1 h2 => ?_, fun j x h1 h2 => ?_, r.fr, r.inj, r.non0, by simp [r.len]⟩
  · obtain ⟨hj, e1, e2⟩ := at' h2
    rw [e2]; exact r.im j x h1 e1
  · obtain ⟨hj, e1, e2⟩ := at' h2
    rw [e2]; exact r.pk j x h1 e1
/-- a suite -/
theorem su_ok {X : Cx} {c : SC} {D : Ends} {B0 : Addr → Prop} {H0 : Hp} {oa : Nat → Option Addr} {ρ : Env} (ok : XOk fa fd n ev X c) (tk : Takes X (fun _ _ _ _ => False)) :
    ∀ (su : Su) (sts : List Stmt) (σ : L2.St) (H : Hp), RelX X c (BB B0 oa) ρ σ H → Same H0 H → ckSu c su sts = true →
      (match evSu c.G ev su ρ with
        | .rt d _ => ∀ v H', Same H H' → RD (BB B0 oa) H' v d → D.rt v H'
        | .nx _ => ∀ H', Same H H' → D.nx σ H'
        | _ => False) → bestSs X sts D σ H
  | .ret e, sts, σ, H, rel, s0, h, q => by
    unfold ckSu at h
    split at h
    · rename_i v p
      refine PSs.best (pss_one (ps_ret pe_best)) ?_
      refine ((sndE fa fd n ev e).val 0 (by omega)).run v X c (fun _ _ _ _ => False) σ ρ H _ ok tk rel h _ ?_
      have q' : (match (evE c.G ev e ρ).noEx.out ρ fun d => Out.rt d ρ with
        | .rt d _ => ∀ v H', Same H H' → RD (BB B0 oa) H' v d → D.rt v H'
        | .nx _ => ∀ H', Same H H' → D.nx σ H'
        | _ => False) := q
      cases he : evE c.G ev e ρ with
      | ok d => rw [he] at q'; exact fun v H' s r => q' v H' s (r.rd rfl)
      | ex x => rw [he] at q'; exact q'.elim
      | bad => rw [he] at q'; exact q'.elim
    · cases h
  | .iff t e r, sts, σ, H, rel, s0, h, q => by
    have ih := su_ok (D := D) (B0 := B0) (H0 := H0) (oa := oa) (ρ := ρ) ok tk r
    unfold ckSu at h
    split at h
    · rename_i tx v p1 p2 rest
      rw [Bool.and_eq_true, Bool.and_eq_true] at h
      obtain ⟨⟨h1, h2⟩, h3⟩ := h
      refine PSs.best (pss_cons (ps_if pt_best (pss_one (ps_ret pe_best)) pss_nil) pss_best) ?_
      have q' : (match (((evE c.G ev t ρ).bind asBool).noEx.out ρ fun k => if k = true then (evE c.G ev e ρ).noEx.out ρ fun d => Out.rt d ρ else evSu c.G ev r ρ) with
        | .rt d _ => ∀ v H', Same H H' → RD (BB B0 oa) H' v d → D.rt v H'
        | .nx _ => ∀ H', Same H H' → D.nx σ H'
        | _ => False) := q
      refine (sndE fa fd n ev t).tst tx X c (fun _ _ _ _ => False) σ ρ H _ ok tk rel h1 _ ?_
      cases ht : (evE c.G ev t ρ).bind asBool with
      | ex x => rw [ht] at q'; exact q'.elim
      | bad => rw [ht] at q'; exact q'.elim
      | ok k =>
        rw [ht] at q'
        intro H1 s1
        cases k with
        | true =>
          have q2 : (match (evE c.G ev e ρ).noEx.out ρ fun d => Out.rt d ρ with
            | .rt d _ => ∀ v H', Same H H' → RD (BB B0 oa) H' v d → D.rt v H'
            | .nx _ => ∀ H', Same H H' → D.nx σ H'
            | _ => False) := q'
          refine ((sndE fa fd n ev e).val 0 (by omega)).run v X c (fun _ _ _ _ => False) σ ρ H1 _ ok tk (rel.same s1) h2 _ ?_
          cases he : evE c.G ev e ρ with
          | ok d => rw [he] at q2; exact fun v H' s r => q2 v H' (s1.trans s) (r.rd rfl)
          | ex x => rw [he] at q2; exact q2.elim
          | bad => rw [he] at q2; exact q2.elim
        | false =>
          have q2 : (match evSu c.G ev r ρ with
            | .rt d _ => ∀ v H', Same H H' → RD (BB B0 oa) H' v d → D.rt v H'
            | .nx _ => ∀ H', Same H H' → D.nx σ H'
            | _ => False) := q'
          refine ih rest σ H1 (rel.same s1) (s0.trans s1) h3 ?_
          cases hr : evSu c.G ev r ρ with
          | rt d ρ' => rw [hr] at q2; exact fun v H' s r => q2 v H' (s1.trans s) r
          | nx ρ' => rw [hr] at q2; exact fun H' s => q2 H' (s1.trans s)
          | bk ρ' => rw [hr] at q2; exact q2.elim
          | ct ρ' => rw [hr] at q2; exact q2.elim
          | ex x ρ' => rw [hr] at q2; exact q2.elim
          | bad => rw [hr] at q2; exact q2.elim
    · cases h
  | .fall, sts, σ, H, rel, s0, h, q => by
    unfold ckSu at h
    split at h
    · exact PSs.best pss_nil (q H (L2.Same.refl H))
    · cases h
theorem out_cases {α : Type} {r : R α} {ρ : Env} {f : α → Out} : (∃ a, r = .ok a ∧ r.noEx.out ρ f = f a) ∨ r.noEx.out ρ f = .bad := by
  cases r with
  | ok a => exact .inl ⟨a, rfl, rfl⟩
  | ex x => exact .inr rfl
  | bad => exact .inr rfl
theorem su_form (G : Gls) (C : Nat → List PyData → R PyData) (ρ : Env) : ∀ su : Su, (∃ d, evSu G C su ρ = .rt d ρ) ∨ evSu G C su ρ = .nx ρ ∨ evSu G C su ρ = .bad
  | .ret e => by
    rcases out_cases (r := evE G C e ρ) (ρ := ρ) (f := fun d => .rt d ρ) with ⟨a, _, h⟩ | h
    · exact .inl ⟨a, h⟩
    · exact .inr (.inr h)
  | .iff t e r => by
    rcases out_cases (r := (evE G C t ρ).bind asBool) (ρ := ρ) (f := fun k => if k = true then (evE G C e ρ).noEx.out ρ fun d => .rt d ρ else evSu G C r ρ) with ⟨k, _, h⟩ | h
    · cases k with
      | true =>
        rcases out_cases (r := evE G C e ρ) (ρ := ρ) (f := fun d => .rt d ρ) with ⟨a, _, h2⟩ | h2
        · exact .inl ⟨a, h.trans h2⟩
        · exact .inr (.inr (h.trans h2))
      | false =>
        rcases su_form G C ρ r with ⟨d, h2⟩ | h2 | h2
        · exact .inl ⟨d, h.trans h2⟩
        · exact .inr (.inl (h.trans h2))
        · exact .inr (.inr (h.trans h2))
    · exact .inr (.inr h)
  | .fall => .inr (.inl rfl)
theorem su_env {G : Gls} {C : Nat → List PyData → R PyData} {ρ ρ2 : Env} {su : Su} (h : evSu G C su ρ = .nx ρ2) : ρ2 = ρ := by
  rcases su_form G C ρ su with ⟨d, e⟩ | e | e <;> rw [e] at h <;> cases h
  rfl
def okOut : Out → Prop
  | .rt _ _ => True
  | .nx _ => True
  | .bad => True
  | _ => False
theorem su_no {G : Gls} {C : Nat → List PyData → R PyData} {ρ : Env} {su : Su} {o : Out} (h : evSu G C su ρ = o) : okOut o := by
  subst h
  rcases su_form G C ρ su with ⟨d, e⟩ | e | e <;> (rw [e]; trivial)
theorem st_try {body : Ss} (k i : Nat) (su : Su) (gb : GoodSts fa fd n ev WN body) : GoodSt fa fd n ev WN (.try_ body k i su) := fun st X c W B0 H0 oa σ ρ H D ok tk r h q => by
  unfold ckS at h
  split at h
  · rename_i bd x px nv b0 suite p1 p2
    simp only [Bool.and_eq_true, Bool.not_eq_true'] at h
    obtain ⟨⟨⟨⟨⟨⟨h1, h2⟩, h3⟩, h4⟩, h5⟩, h6⟩, h7⟩ := h
    split at h1
    · rename_i xc hxc
      obtain rfl := eq_of_beq h1
      have hN : X.N[i]? = some nv := by rw [ok.x.N]; exact of_decide_eq_true h3
      have hln : X.env.kindOf nv = some .local := by
        show X.env.scope.names.lookup nv = some .local
        rw [ok.x.sc]
        split at h4
        · assumption
        · cases h4
      obtain ⟨g1, g2, g3⟩ := ok.x.gl h2
      obtain ⟨cvv, u, rv, hu, cl⟩ := ok.x.wd.xw.cv k xc hxc
      have hc : Names X xc.name u := ⟨g1, g2, cl.imp id fun z => ⟨z.1, z.2, g3⟩⟩
      let tb : WX → TS := fun W' D σ H => ∀ pn xe, Takes (X.tr pn xe) W' → PassesOwn (model X.prog X.w) X.A X.env xe → bestSs (X.tr pn xe) bd D σ H
      let ts : Addr → Value → Option Addr → TS := fun a cls d D σ H => ∀ oe pn, Zc cls d oe → (∃ vs, oe.data = .fields vs) → bestSs (X.suite a ((a, oe) :: pn)) (b0 :: suite) D σ H
      refine PS.best (ps_try_as (tb := tb) (ts := ts) ok.stk ok.frm ok.x.nd hN hln hc tk (fun W' pn xe t p => ⟨fun pins s σ H D I hh => hh pn xe t p pins s I⟩) (fun a oe cls d pn hz hf => ⟨fun pins s σ H D I hh => hh oe pn hz hf pins s I⟩)) ?_
      intro pn xe tk' pw
      have okx : XOk fa fd n ev (X.tr pn xe) c := ⟨ok.x.N, ok.x.sc, ok.x.nd, ok.x.kind, ok.x.cold, ok.x.hu, ok.x.wd⟩
      refine gb bd (X.tr pn xe) c (wAs X.K u i ts W D) B0 H0 oa σ ρ H D ⟨okx, ok.hh, ok.fn, ok.stk, ok.frm, pw⟩ tk' r h6 ?_
      have q' : EndOk D W X.mg B0 H0 c.own (BB B0 oa) H (match evSs c.G c.XT WN ev body ρ with
        | .ex x ρ' => (match c.G.id (clsX x) with
          | none => .bad
          | some j => match c.XT j with
            | none => .bad
            | some xj => if xj.name = clsX x then (if c.G.sub xj.name k = true then evSu { c.G with x := some x } ev su (ρ'.set i none) else .ex x ρ') else .bad)
        | o => o) := q
      cases ho : evSs c.G c.XT WN ev body ρ with
      | nx ρ' => rw [ho] at q'; exact q'
      | rt d ρ' => rw [ho] at q'; exact q'
      | bk ρ' => rw [ho] at q'; exact q'
      | ct ρ' => rw [ho] at q'; exact q'
      | bad => rw [ho] at q'; exact q'
      | ex x ρ' =>
        rw [ho] at q'
        intro oa' σ' H' cls dd r' m' rx
        obtain ⟨nm, C, d, fs, kvs, rfl, rfl, hmC, rfl, hxd, hfs⟩ := rx
        have q2 : EndOk D W X.mg B0 H0 c.own (BB B0 oa) H (match c.G.id nm with
          | none => .bad
          | some j => match c.XT j with
            | none => .bad
            | some xj => if xj.name = nm then (if c.G.sub xj.name k = true then evSu { c.G with x := some (.dict ((.none, .str nm) :: kvs)) } ev su (ρ'.set i none) else .ex (.dict ((.none, .str nm) :: kvs)) ρ') else .bad) := q'
        split at q2
        · exact q2.elim
        · rename_i j hj
          split at q2
          · exact q2.elim
          · rename_i xj hxj
            split at q2
            · rename_i hnm
              subst hnm
              have hex := (ok.x.wd.xw.is j xj C k xc u hxj hmC hxc cl).2
              refine ⟨c.G.sub xj.name k, hex, fun hb a ha => ?_, fun hb => ?_⟩
              · rw [if_pos hb] at q2
                intro oe pn2 hz hf pins s I
                have hlen : i < σ'.length := by
                  have := I.len
                  rw [List.length_set] at this
                  rw [this]
                  exact (List.getElem?_eq_some_iff.mp hN).1
                have r2 := r'.unset i (some (.ref a))
                let c2 : SC := { c with hot := true, hi := i, G := { c.G with x := some (.dict ((.none, .str xj.name) :: kvs)) } }
                have ok2 : XOk fa fd n ev (X.suite a ((a, oe) :: pn2)) c2 := ⟨ok.x.N, ok.x.sc, ok.x.nd, ok.x.kind, (fun z => nomatch z), ok.x.hu, ⟨ok.x.wd.fn, ok.x.wd.gl, ok.x.wd.blt, ok.x.wd.key, ok.x.wd.xw⟩⟩
                have rel2 : RelX (X.suite a ((a, oe) :: pn2)) c2 (BB B0 oa') (ρ'.set i none) (σ'.set i (some (.ref a))) H' := ⟨r2.relE, fun _ => ⟨X, a, C, d, oe, fs, pn2, xj.name, kvs, j, xj, rfl, by show (σ'.set i (some (.ref a)))[i]? = _; rw [List.getElem?_set, if_pos rfl, if_pos hlen], hz, hf, hxd, rfl, hxj, rfl, hmC, hfs⟩⟩
                have ck2 : ckSu c2 su (b0 :: suite) = true := (ckSu_g _ c.G c.N c.own c.sc c.T c.KF c.XT true i su (b0 :: suite)).trans h7
                have mono : ∀ {H2 : Hp}, Same H' H2 → RelS B0 H0 c.own oa' (ρ'.set i none) ((σ'.set i (some (.ref a))).set i none) H2 := fun s2 => by
                  have := (r'.grow s2).unset i none
                  rw [List.set_set]
                  exact this
                refine su_ok (D := { nx := fun σ' H' => D.nx (σ'.set i none) H', rt := D.rt, bk := fun σ' H' => D.bk (σ'.set i none) H', ct := fun σ' H' => D.ct (σ'.set i none) H' }) (H0 := H0) ok2 takes0 su (b0 :: suite) _ H' rel2 r'.same ck2 ?_ pins s I
                have q3 : EndOk D W X.mg B0 H0 c.own (BB B0 oa) H (evSu c2.G ev su (ρ'.set i none)) := q2
                cases hs : evSu c2.G ev su (ρ'.set i none) with
                | rt d2 ρ2 => rw [hs] at q3; exact fun v H2 s2 rd => q3 v H2 (r'.same.trans s2) (rd.mv (.less fun b hb _ => .inl hb))
                | nx ρ2 =>
                  rw [hs] at q3
                  have e2 : ρ2 = ρ'.set i none := su_env hs
                  subst e2
                  exact fun H2 s2 => q3 oa' _ H2 (mono s2) (m'.trans (.same s2))
                | bk ρ2 => exact (su_no hs).elim
                | ct ρ2 => exact (su_no hs).elim
                | ex x2 ρ2 => exact (su_no hs).elim
                | bad => rw [hs] at q3; exact q3.elim
              · rw [if_neg (by rw [hb]; exact Bool.false_ne_true)] at q2
                exact q2 oa' σ' H' _ _ r' m' ⟨xj.name, C, d, fs, kvs, rfl, rfl, hmC, rfl, hxd, hfs⟩
            · exact q2.elim
    · cases h1
  · cases h
end
end PV
end
section
set_option Elab.async false
set_option linter.all false
set_option maxRecDepth 100000
set_option maxHeartbeats 8000000
/-! PV21: every statement; every def. -/
namespace PV
open PySem PySem.Spec PyProof.Rows L2
section
variable {fa : Nat → Addr} {fd : Nat → FuncData} {n : Nat} {ev : Nat → List PyData → R PyData} {WN : Nat}
theorem st_no {s : S} (h : ∀ c st, ckS c s st = false) : GoodSt fa fd n ev WN s := fun st X c W B0 H0 oa σ ρ H D ok tk r q _ => by
  rw [h] at q; cases q
variable (fa fd n ev WN) in
mutual
theorem sndS : ∀ s : S, GoodSt fa fd n ev WN s
  | .set ks i e => st_set ks i e
  | .unp _ _ _ => st_no (fun c st => by unfold ckS; rfl)
  | .app ks i e => st_app ks i e
  | .put ks i k e => st_put ks i k e
  | .ex _ => st_no (fun c st => by unfold ckS; rfl)
  | .ret ks e => st_ret ks e
  | .ite c a b => st_ite c (sndSs a) (sndSs b)
  | .for_ i it body clr => st_for i it clr (sndSs body)
  | .while_ _ _ _ => st_no (fun c st => by unfold ckS; rfl)
  | .brk => st_brk
  | .cont => st_cont
  | .pass => st_pass
  | .raise k as => st_raise k as
  | .try_ body k i su => st_try k i su (sndSs body)
theorem sndSs : ∀ s : Ss, GoodSts fa fd n ev WN s
  | .nil => sts_nil
  | .cons s r => sts_cons (sndS s) (sndSs r)
end
end
/-! ### defs -/
def locS (sc : Scope) (x : Str) : Bool := match sc.names.lookup x with
  | some .local => true
  | some .cell => true
  | _ => false
/-- the whole look at a def -/
def ckF (T : Nat → Option FnD) (G : Gls) (KF : List Str) (XT : Nat → Option Xc) (i : FnD) : Bool :=
  ckSs { N := i.N, own := i.own, sc := defScope i.st, T := T, G := G, KF := KF, XT := XT } i.fd.body (defBody i.st) && (i.fd.np == i.ps.length) && (i.fd.ns == i.N.length) && decide i.N.Nodup &&
  (match (defScope i.st).kind with
    | .function => true
    | _ => false) && !(defScope i.st).isCoroutine && !(defScope i.st).isGenerator && (i.N.take i.ps.length == i.ps) && i.ps.all (locS (defScope i.st)) && ((defScope i.st).names.all fun y => match y.2 with
    | .free => false
    | _ => true) && (List.range i.ps.length).all fun j => !i.own.contains j
structure FnHead (K : W.Frag) (mg : Str → Option Value) (f : Addr) (fdt : FuncData) (i : FnD) : Prop where
  gm : mg i.name = some (.ref f)
  fn : ∃ qual dvs kws, FunD K i.name qual (defArgs i.st) (defBody i.st) (defScope i.st) dvs kws f fdt
  sh : ∀ sh ∈ i.shapes, BindOk K fdt i.ps sh
section
variable {P : Program} {w : World} {K : W.Frag} {mg : Str → Option Value} {base : Heap} {fa : Nat → Addr} {fd : Nat → FuncData} {T : Nat → Option FnD} {G : Gls} {KF : List Str} {XT : Nat → Option Xc} {WN : Nat}
theorem ckF_scope {i : FnD} (h : ckF T G KF XT i = true) : FnScope i.N i.ps (defScope i.st) ∧ ckSs { N := i.N, own := i.own, sc := defScope i.st, T := T, G := G, KF := KF, XT := XT } i.fd.body (defBody i.st) = true ∧ i.fd.np = i.ps.length ∧ i.fd.ns = i.N.length ∧ ∀ j, j < i.ps.length → i.own.contains j = false := by
  unfold ckF at h
  simp only [Bool.and_eq_true, Bool.not_eq_true'] at h
  obtain ⟨⟨⟨⟨⟨⟨⟨⟨⟨⟨h1, h2⟩, h3⟩, h4⟩, h5⟩, h6⟩, h7⟩, h8⟩, h9⟩, h10⟩, h11⟩ := h
  refine ⟨⟨?_, h6, h7, of_decide_eq_true h4, eq_of_beq h8, fun x hx => ?_, fun y hy => ?_⟩, h1, eq_of_beq h2, eq_of_beq h3, fun j hj => ?_⟩
  · split at h5
    · assumption
    · cases h5
  · have := List.all_eq_true.mp h9 x hx
    unfold locS at this
    split at this
    · exact .inl (by assumption)
    · exact .inr (by assumption)
    · cases this
  · have := List.all_eq_true.mp h10 y hy
    intro e
    rw [e] at this; cases this
  · have := List.all_eq_true.mp h11 j (List.mem_range.mpr hj)
    simpa using this
/-- at the entry -/
theorem start_rel {B : Addr → Prop} {H : Hp} {N ps : List Str} {own : List Nat} {vs : List V} {ds : List PyData} (nB : NoN B H) (rd : RDs B H vs ds) (hl : ds.length = ps.length) (hN : ps.length ≤ N.length) (ho : ∀ j, j < ps.length → own.contains j = false) :
    RelS B H own (fun _ => none) (ds.map some ++ List.replicate (N.length - ps.length) none) (L2.start N vs) H := by
  have hlv := rd.length
  have mono : ∀ {v d}, RD B H v d → RD (BB B (fun _ => none)) H v d := fun h => h.mv (.less fun b hb _ => by
    rcases hb with hb | ⟨i, hi⟩
    · exact hb
    · cases hi)
  have at' : ∀ {i d}, (ds.map some ++ List.replicate (N.length - ps.length) none)[i]? = some (some d) → i < ps.length ∧ ds[i]? = some d := by
    intro i d h
    by_cases hi : i < ds.length
    · rw [List.getElem?_append_left (by simpa using hi), List.getElem?_map] at h
      cases hd : ds[i]? with
      | none => rw [hd] at h; cases h
      | some x => rw [hd] at h; cases h; exact ⟨by omega, rfl⟩
    · rw [List.getElem?_append_right (by simpa using hi), List.getElem?_replicate] at h
      split at h <;> cases h
  refine ⟨L2.Same.refl H, fun i d h1 h2 => ?_, fun i d h1 h2 => ?_, fun i a h => (nomatch h), fun i j a h => (nomatch h), nB, ?_⟩
  · obtain ⟨hi, hd⟩ := at' h2
    obtain ⟨v, e1, e2⟩ := rd.get hd
    refine ⟨v, ?_, mono e2⟩
    unfold L2.start
    rw [List.getElem?_append_left (by rw [List.length_map]; omega), List.getElem?_map, e1]
    rfl
  · obtain ⟨hi, hd⟩ := at' h2
    rw [ho i hi] at h1; cases h1
  · unfold L2.start
    rw [List.length_append, List.length_append, List.length_map, List.length_map, List.length_replicate, List.length_replicate, hlv, hl]
def FT (T : Nat → Option FnD) : Nat → Option Fd := fun f => (T f).map (·.fd)
theorem fn_fact (heads : ∀ f i, T f = some i → FnHead K mg (fa f) (fd f) i) (checks : ∀ f i, T f = some i → ckF T G KF XT i = true) (hgl : ∀ x d, G.g x = some d → flatKey d = true ∧ ∃ u, mg x = some u ∧ RelV (atomV d) u) (hblt : ∀ x ∈ bltNames, mg x = none)
    (hkey : ∀ x ∈ KF, KeyFact P w K mg base x) (hxw : XW XT G.sub P w K mg base) : ∀ k, Wd fa fd (4 * k) (callN G XT WN (FT T) k) T G KF XT P w K mg base
  | 0 => ⟨fun f i hT => by
      have hd := heads f i hT
      obtain ⟨qual, dvs, kws, F⟩ := hd.fn
      refine ⟨hd.gm, F.kp, ⟨fun vs H Q E h => ?_, fun A outer s H args us vs Q E _ _ _ _ h => ?_⟩, hd.sh⟩
      · obtain ⟨_, _, _, _, _, h⟩ := h; exact h.elim
      · obtain ⟨_, _, _, _, _, h⟩ := h; exact h.elim, hgl, hblt, hkey, hxw⟩
  | k + 1 => ⟨fun f i hT => by
      have ih := fn_fact heads checks hgl hblt hkey hxw k
      have hd := heads f i hT
      obtain ⟨qual, dvs, kws, F⟩ := hd.fn
      obtain ⟨S, hck, hnp, hns, hown⟩ := ckF_scope (checks f i hT)
      have hNl : i.ps.length ≤ i.N.length := by
        have := congrArg List.length S.pre
        rw [List.length_take] at this
        omega
      refine ⟨hd.gm, F.kp, F.ok (k := 4 * k + 3) S (fun vs H Q E h => ?_) fun cdv A outer s H vs Q E hr hsp => ?_, hd.sh⟩
      · obtain ⟨B, ds, rd, hl, _⟩ := h
        rw [rd.length, hl]
      · obtain ⟨B, ds, rd, hl, nB, ct⟩ := hsp
        refine ⟨_, pss_best, ?_⟩
        generalize hX : cxOf (L2.CX P w) P w K mg base i.N qual (defScope i.st) (fa f) cdv A outer s H E = X
        have ok : XOk fa fd (4 * k) (callN G XT WN (FT T) k) X { N := i.N, own := i.own, sc := defScope i.st, T := T, G := G, KF := KF, XT := XT } := by
          subst hX
          exact ⟨rfl, rfl, S.nd, S.kind, fun _ => ⟨rfl, hr⟩, by have := hr.un; show (A.deeper (envOfC qual (defScope i.st) s.heap.objs.size (fa f) cdv)).units + 66 < cLine; omega, ih⟩
        have sok : SOk fa fd (4 * k) (callN G XT WN (FT T) k) X { N := i.N, own := i.own, sc := defScope i.st, T := T, G := G, KF := KF, XT := XT } := by
          refine ⟨ok, rfl, fun y => by subst hX; rfl, by subst hX; rfl, by subst hX; rfl, ?_⟩
          subst hX
          exact L2.passes_of rfl
        have tk : Takes X (fun c dd _ H => E c dd H) := by
          subst hX
          exact L2.takes_of rfl rfl rfl rfl
        have r := start_rel (N := i.N) (ps := i.ps) (own := i.own) nB rd hl hNl hown
        have hmg : X.mg = mg := by subst hX; rfl
        refine sndSs fa fd (4 * k) (callN G XT WN (FT T) k) WN i.fd.body _ X { N := i.N, own := i.own, sc := defScope i.st, T := T, G := G, KF := KF, XT := XT } (fun c dd _ H => E c dd H) B H (fun _ => none) _ _ H { nx := fun _ H' => Q .non H', rt := Q } sok tk r hck ?_
        have hT2 : FT T f = some i.fd := by unfold FT; rw [hT]; rfl
        have e : callN G XT WN (FT T) (k + 1) f ds = (match evSs G XT WN (callN G XT WN (FT T) k) i.fd.body (ds.map some ++ List.replicate (i.N.length - i.ps.length) none) with
          | .rt d _ => .ok d
          | .nx _ => .ok .none
          | .ex x _ => .ex x
          | _ => .bad) := by
          show (match FT T f with
            | none => R.bad
            | some fd => if ds.length = fd.np then (match evSs G XT WN (callN G XT WN (FT T) k) fd.body (ds.map some ++ List.replicate (fd.ns - fd.np) none) with
              | .rt d _ => .ok d
              | .nx _ => .ok .none
              | .ex x _ => .ex x
              | _ => .bad) else .bad) = _
          rw [hT2]
          simp only
          rw [if_pos (by rw [hnp, hl]), hnp, hns]
        rw [e] at ct
        cases ho : evSs G XT WN (callN G XT WN (FT T) k) i.fd.body (ds.map some ++ List.replicate (i.N.length - i.ps.length) none) with
        | rt d ρ => rw [ho] at ct; exact fun v H' s' r' => ct v H' s' r'
        | nx ρ => rw [ho] at ct; exact fun oa σ H' r' m => ct .non H' r'.same .non
        | ex x ρ =>
          rw [ho] at ct
          exact fun oa σ H' c dd r' m x => ct c dd H' r'.same (by rw [hmg] at x; exact x.mv (.less fun b hb _ => .inl hb))
        | bk ρ => rw [ho] at ct; exact ct.elim
        | ct ρ => rw [ho] at ct; exact ct.elim
        | bad => rw [ho] at ct; exact ct.elim, hgl, hblt, hkey, hxw⟩
end
end PV
end
section
set_option Elab.async false
set_option linter.all false
set_option maxRecDepth 100000
set_option maxHeartbeats 4000000
/-! PV22: the head, the classes of errors, how defs are called. -/
namespace PV
open PySem PySem.Spec PyProof.Rows L2
/-! ### the hook: the library's facts, and a look of one's own -/
def obsX (xb : PySem.W.Frag → Bool) (n : Nat) (fa : List He.Fa) (fn : List He.DefD) (g : Addr → Option Obj) : Bool × He.AlD := (xb (He.frG g (He.asD g n)), He.obsD fa fn (He.frG g (He.asD g n)))
def hookX (xb : PySem.W.Frag → Bool) (n : Nat) (fa : List He.Fa) (fn : List He.DefD) : PySem.W.Hook where
  α := Bool × He.AlD
  obs := fun s => obsX xb n fa fn s.heap.get?
  val := fun _ => (true, He.valD fn)
  says := fun _ h => ∃ K : PySem.W.Frag, K.In h ∧ He.SaysD fa fn K ∧ xb K = true
  of := fun _ s e => ⟨He.frG s.heap.get? (He.asD s.heap.get? n), He.frG_in, congrArg (fun z : Bool × He.AlD => z.2) e, congrArg (fun z : Bool × He.AlD => z.1) e⟩
  keeps := fun _ _ _ ⟨K, hK, c⟩ k => ⟨K, PySem.W.Frag.In.keeps hK k, c⟩
theorem obsX_eq {xb : PySem.W.Frag → Bool} {n : Nat} {fa : List He.Fa} {fn : List He.DefD} {g : Addr → Option Obj} {s : Shared} (h : ∀ a, g a = s.heap.get? a) : obsX xb n fa fn g = (hookX xb n fa fn).obs s := by
  have e : g = s.heap.get? := funext h
  rw [e] <;> rfl
/-! ### the classes of errors -/
def bltX : List Str := ["ValueError", "Exception", "LookupError", "KeyError", "ArithmeticError", "TypeError"]
def bltT (x : Str) : String := if x = "ValueError" then "ValueError" else if x = "Exception" then "Exception" else if x = "LookupError" then "LookupError" else if x = "KeyError" then "KeyError" else if x = "ArithmeticError" then "ArithmeticError" else "TypeError"
def clsV (K : PySem.W.Frag) (x : Str) : Value := if bltX.contains x = true then .type (bltT x) else .ref (He.ga K x)
def ecB (K : PySem.W.Frag) (D : Addr) : Bool := decide (PySem.W.findIn K (.ref D) "__getattribute__" = some (some (.builtin "BaseException.__getattribute__"))) && decide (PySem.W.findIn K (.ref D) "__getattr__" = some none) && decide (PySem.W.subIn K (.ref D) (.type "BaseException") = some true) &&
  PySem.W.hasDictIn K D && decide (PySem.W.findIn K (.ref D) "__class__" = some (some (.builtin "object.__class__"))) && decide (PySem.W.specialIn K (.builtin "object.__class__") "__get__" = some (some (.builtin "getset_descriptor.__get__"))) && decide (PySem.W.takesIn K (.builtin "object.__class__") = some true) && decide (PySem.W.mroIn K D (.type "object") = some true)
theorem ecB_ok {K : PySem.W.Frag} {D : Addr} (h : ecB K D = true) : ExcC K D := by
  unfold ecB at h
  simp only [Bool.and_eq_true, decide_eq_true_eq] at h
  obtain ⟨⟨⟨⟨⟨⟨⟨h1, h2⟩, h3⟩, h4⟩, h5⟩, h6⟩, h7⟩, h8⟩ := h
  exact ⟨h1, h2, h3, h4, h5, h6, h7, h8⟩
def oexB (K : PySem.W.Frag) (C : Addr) : Bool := (match K.lookup C with
  | some ⟨.type "type", _, .cls cd, sl⟩ => (match cd.mro, sl.toList with
    | .ref C' :: bm, [_, _, _, _, some (.builtin n), _] => C' == C && n == "ValueError.__new__" && !cd.hasDel && cd.hasDict && PySem.HandSPX.refsVE bm
    | _, _ => false)
  | _ => false) && decide (PySem.W.findIn K (.ref C) "__setattr__" = some (some (.builtin "object.__setattr__"))) && decide (PySem.W.subIn K (.ref C) (.type "BaseException") = some true) && decide (PySem.W.typeIn K (.ref C) = some (.type "type")) && PySem.W.keepIn K (.ref C)
theorem oexB_ok {K : PySem.W.Frag} {C : Addr} (h : oexB K C = true) : OexC K C := by
  unfold oexB at h
  simp only [Bool.and_eq_true, decide_eq_true_eq] at h
  obtain ⟨⟨⟨⟨q, h2⟩, h3⟩, h4⟩, h5⟩ := h
  refine ⟨?_, h2, h3, h4, h5⟩
  split at q
  · rename_i dd cd sl ho
    split at q
    · rename_i C' bm k0 k1 k2 k3 n k5 hm hs
      simp only [Bool.and_eq_true, beq_iff_eq, Bool.not_eq_true'] at q
      obtain ⟨⟨⟨⟨rfl, rfl⟩, hdel⟩, hdct⟩, ht⟩ := q
      obtain ⟨nm, bs, mro, ns, qn, hd, sn, sub, ab, col, del⟩ := cd
      dsimp only at hm hdel hdct
      subst hm hdel hdct
      have hsl : sl = #[k0, k1, k2, k3, some (.builtin "ValueError.__new__"), k5] := by
        obtain ⟨l⟩ := sl
        simp only at hs
        rw [hs]
      subst hsl
      exact ⟨nm, qn, ns, bs, bm, sn, sub, ab, col, dd, k0, k1, k2, k3, k5, ho, ht⟩
    · cases q
  · cases q
/-- the whole look at the classes XL -/
def xB (XL : List Xc) (sub : Str → Nat → Bool) (K : PySem.W.Frag) : Bool := XL.all fun x => bltX.contains x.name || (xfB K (He.ga K x.name) && ecB K (He.ga K x.name) && (XL.all fun y => y.fields.all fun f => decide (PySem.W.findIn K (.ref (He.ga K x.name)) f = some none)) &&
  (XL.zipIdx.all fun y => decide (PySem.W.kitOne K (.ref (He.ga K x.name)) (clsV K y.1.name) = some (sub x.name y.2)) && decide (PySem.W.exmOne K (.ref (He.ga K x.name)) (clsV K y.1.name) = some (sub x.name y.2))) &&
  (!x.own || (oexB K (He.ga K x.name) && decide (PySem.W.findIn K (.ref (He.ga K x.name)) "__init__" = some (some (.ref (He.ma K (He.ga K x.name) "__init__")))) && decide (PySem.W.typeIn K (.ref (He.ma K (He.ga K x.name) "__init__")) = some (.type "function")))))
/-! ### how defs are called -/
section
variable {K : PySem.W.Frag} {x qual : Str} {params : Arguments} {body : List Stmt} {scope : Scope} {dvs : List V} {kws : List (Str × V)} {f : Addr} {fd : FuncData} {ps : List Str}
/-- every parameter is given -/
theorem bind_all (F : FunD K x qual params body scope [] kws f fd) (n : Nat) (ks : List Str)
    (h : ∀ (kV doc pm : Value) (an : Option Addr) (cdv ct : Value) (us ws : List Value), us.length = n → ws.length = ks.length → bindArgs (PySem.W.fnOf x qual params body scope .none kV doc pm an cdv ct) ⟨us, ks.zip ws⟩ = pure (ps.zip (us ++ ws))) : BindOk K fd ps (n, ks, []) := by
  obtain ⟨oc, od, dV, kV, doc, pm, an, cdv, ct, osl, rfl, lk, hcd, hD, hK⟩ := F.ex
  rcases hD with ⟨_, rfl⟩ | ⟨e, _⟩
  · exact ⟨[], .nil, fun s us ws _ l1 l2 => by rw [List.append_nil]; exact .of_eq (h kV doc pm an cdv ct us ws l1 l2)⟩
  · exact absurd rfl e
/-- the keyword-only parameters are left to their defaults -/
theorem bind_kwd (F : FunD K x qual params body scope [] kws f fd) (n : Nat) (dfl : List PyData) (hk : kws ≠ []) (hn : n + kws.length = ps.length) (hd : kws.map (·.2) = dfl.map atomV)
    (h : ∀ (D : Addr) (doc pm : Value) (an : Option Addr) (cdv ct : Value) (us ks : List Value), us.length = n → ks.length = kws.length →
      KwChain D ((kws.map (·.1)).zip ks) (bindArgs (PySem.W.fnOf x qual params body scope .none (.ref D) doc pm an cdv ct) ⟨us, []⟩) (ps.zip (us ++ ks))) : BindOk K fd ps (n, [], dfl) := by
  obtain ⟨ds, hv, hb⟩ := F.binds0 n hk hn h
  rw [hd] at hv
  refine ⟨ds, hv, fun s us ws kin l1 l2 => ?_⟩
  have : ws = [] := List.eq_nil_of_length_eq_zero l2
  subst this
  have hl : ds.length = kws.length := by rw [← hv.length, ← hd, List.length_map]
  have := hb s us kin (by rw [List.length_append, l1, hl, hn])
  rw [List.append_nil]
  exact this
end
end PV
end
section
set_option Elab.async false
set_option linter.all false
set_option maxRecDepth 100000
set_option maxHeartbeats 4000000
/-! PV23: a class's own __init__. -/
namespace PV
open PySem PySem.Spec PyProof.Rows L2
def nmI (sc : Scope) (N : List Str) (k : Nat) (y : Str) : Bool := decide (N[k]? = some y) && visB sc y
theorem nmI_ok {X : Cx} {N : List Str} {sc : Scope} {k : Nat} {y : Str} {pos : Pos} (hN : X.N = N) (hsc : X.env.scope = sc) (h : nmI sc N k y = true) : PE X (.Name y pos) (tVar k) := by
  unfold nmI at h
  rw [Bool.and_eq_true] at h
  have h1 : N[k]? = some y := of_decide_eq_true h.1
  have h2 := h.2
  unfold visB at h2
  rw [Bool.and_eq_true] at h2
  obtain ⟨d1, d2, d3⟩ := okName_of h2.2
  refine pe_var (by rw [hN]; exact h1) ?_ d1 d2
  unfold Vis
  rw [hsc]
  have a := h2.1
  split at a
  · exact .inl (by assumption)
  · exact .inr (.inl (by assumption))
  · exact .inr (.inr (by assumption))
  · cases a
def ckI (sc : Scope) (N : List Str) : Nat → List Str → List Stmt → Bool
  | k, f :: fs, st :: r => (match st with
    | .Assign [.Attribute (.Name s _) g _] (.Name y _) _ => nmI sc N 0 s && nmI sc N k y && g == f
    | _ => false) && ckI sc N (k + 1) fs r
  | _, [], [] => true
  | _, _, _ => false
theorem upd_swap {H : Hp} {a d : Addr} {x e1 e2 : HO} (h : d ≠ a) : upd (upd (upd H d e1) a x) d e2 = upd (upd H d e2) a x := by
  funext b
  unfold upd
  by_cases h1 : b = d
  · subst h1; simp [h]
  · rw [if_neg h1]
    by_cases h2 : b = a
    · rw [if_pos h2, if_pos h2]
    · rw [if_neg h2, if_neg h2, if_neg h1, if_neg h1]
section
variable {X : Cx} {N : List Str} {sc : Scope} {C a : Addr} {D : Ends}
theorem init_rest (hN : X.N = N) (hsc : X.env.scope = sc) (T : OexC X.K C) {d : Addr} (hda : d ≠ a) {H : Hp} {σ : L2.St} (h0 : σ[0]? = some (some (.ref a))) : ∀ (fs : List Str) (sts : List Stmt) (k : Nat) (ws : List V) (L : List (Str × V)), ckI sc N k fs sts = true → ws.length = fs.length →
    (∀ j w, ws[j]? = some w → σ[k + j]? = some (some w)) → L.length + fs.length ≤ 900 → (∀ f ∈ fs, PySem.W.findIn X.K (.ref C) f = some none) → D.nx σ (upd (upd H d (exd d ((fs.zip ws).reverse ++ L))) a (exo a C (some d))) →
    bestSs X sts D σ (upd (upd H d (exd d L)) a (exo a C (some d)))
  | [], sts, k, ws, L, hc, hw, hσ, hl, hf, q => by
    cases sts with
    | nil =>
      refine PSs.best pss_nil ?_
      have : ([] : List Str).zip ws = [] := by cases ws <;> rfl
      rw [this] at q
      exact q
    | cons st r => unfold ckI at hc; cases hc
  | f :: fs, sts, k, ws, L, hc, hw, hσ, hl, hf, q => by
    cases sts with
    | nil => unfold ckI at hc; cases hc
    | cons st r =>
      unfold ckI at hc
      rw [Bool.and_eq_true] at hc
      obtain ⟨hc1, hc2⟩ := hc
      split at hc1
      · rename_i s p1 g p2 y p3 p4
        rw [Bool.and_eq_true, Bool.and_eq_true] at hc1
        obtain ⟨⟨n1, n2⟩, n3⟩ := hc1
        obtain rfl := eq_of_beq n3
        cases ws with
        | nil => cases hw
        | cons w ws =>
          refine PSs.best (pss_cons (ps_ost (nmI_ok hN hsc n1) (nmI_ok hN hsc n2) rfl) pss_best) ?_
          refine ⟨w, hσ 0 w rfl, .ref a, h0, a, C, rfl, T, hf _ List.mem_cons_self, .inr ⟨d, L, upd_same, by rw [upd_ne hda, upd_same], by rw [List.length_cons] at hl; omega, ?_⟩⟩
          show bestSs X r D σ (upd (upd (upd H d (exd d L)) a (exo a C (some d))) d (exd d ((g, w) :: L)))
          rw [upd_swap hda]
          refine init_rest hN hsc T hda h0 fs r (k + 1) ws ((g, w) :: L) hc2 (by simpa using hw) (fun j x hx => ?_) (by rw [List.length_cons] at hl ⊢; omega) (fun x hx => hf x (List.mem_cons_of_mem _ hx)) ?_
          · have := hσ (j + 1) x (by simpa using hx)
            rw [← this]
            congr 1; omega
          · rw [List.zip_cons_cons, List.reverse_cons, List.append_assoc] at q
            exact q
      · cases hc1
theorem init_first (hN : X.N = N) (hsc : X.env.scope = sc) (T : OexC X.K C) {H : Hp} {σ : L2.St} (h0 : σ[0]? = some (some (.ref a))) (fs : List Str) (sts : List Stmt) (k : Nat) (ws : List V) (hne : fs ≠ []) (hc : ckI sc N k fs sts = true) (hw : ws.length = fs.length)
    (hσ : ∀ j w, ws[j]? = some w → σ[k + j]? = some (some w)) (hl : fs.length ≤ 900) (hf : ∀ f ∈ fs, PySem.W.findIn X.K (.ref C) f = some none) (ha : H a = some (exo a C none)) (q : ∀ d, H d = none → d ≠ a → D.nx σ (upd (upd H d (exd d (fs.zip ws).reverse)) a (exo a C (some d)))) :
    bestSs X sts D σ H := by
  cases fs with
  | nil => exact absurd rfl hne
  | cons f fs =>
    cases sts with
    | nil => unfold ckI at hc; cases hc
    | cons st r =>
      unfold ckI at hc
      rw [Bool.and_eq_true] at hc
      obtain ⟨hc1, hc2⟩ := hc
      split at hc1
      · rename_i s p1 g p2 y p3 p4
        rw [Bool.and_eq_true, Bool.and_eq_true] at hc1
        obtain ⟨⟨n1, n2⟩, n3⟩ := hc1
        obtain rfl := eq_of_beq n3
        cases ws with
        | nil => cases hw
        | cons w ws =>
          refine PSs.best (pss_cons (ps_ost (nmI_ok hN hsc n1) (nmI_ok hN hsc n2) rfl) pss_best) ?_
          refine ⟨w, hσ 0 w rfl, .ref a, h0, a, C, rfl, T, hf _ List.mem_cons_self, .inl ⟨ha, fun d hd hda => ?_⟩⟩
          refine init_rest hN hsc T hda h0 fs r (k + 1) ws [(g, w)] hc2 (by simpa using hw) (fun j x hx => ?_) (by rw [List.length_cons] at hl ⊢; simp; omega) (fun x hx => hf x (List.mem_cons_of_mem _ hx)) ?_
          · have := hσ (j + 1) x (by simpa using hx)
            rw [← this]
            congr 1; omega
          · have := q d hd hda
            rw [List.zip_cons_cons, List.reverse_cons] at this
            exact this
      · cases hc1
end
/-- the look at an __init__ -/
def ckInit (params : Arguments) (body : List Stmt) (scope : Scope) (ps N fs : List Str) : Bool := ckI scope N 1 fs body && (ps.length == fs.length + 1) && decide (0 < fs.length ∧ fs.length ≤ 100) && decide N.Nodup && (match scope.kind with
    | .function => true
    | _ => false) && !scope.isCoroutine && !scope.isGenerator && (N.take ps.length == ps) && ps.all (locS scope) && (scope.names.all fun y => match y.2 with
    | .free => false
    | _ => true)
theorem init_ok {P : Program} {w : World} {K : W.Frag} {mg : Str → Option Value} {base : Heap} {x qual : Str} {params : Arguments} {body : List Stmt} {scope : Scope} {dvs : List V} {kws : List (Str × V)} {f C : Addr} {fd : FuncData} {ps N fs : List Str}
    (F : FunD K x qual params body scope dvs kws f fd) (hc : ckInit params body scope ps N fs = true) (T : OexC K C) (hf : ∀ f ∈ fs, PySem.W.findIn K (.ref C) f = some none) : FnOk P w K mg base (L2.CX P w) 1 f fd ps (spInit C fs) := by
  unfold ckInit at hc
  simp only [Bool.and_eq_true, Bool.not_eq_true'] at hc
  obtain ⟨⟨⟨⟨⟨⟨⟨⟨⟨h1, h2⟩, h3⟩, h4⟩, h5⟩, h6⟩, h7⟩, h8⟩, h9⟩, h10⟩ := hc
  have hlen := eq_of_beq h2
  obtain ⟨h31, h32⟩ := of_decide_eq_true h3
  have S : FnScope N ps scope := by
    refine ⟨?_, h6, h7, of_decide_eq_true h4, eq_of_beq h8, fun x hx => ?_, fun y hy => ?_⟩
    · split at h5
      · assumption
      · cases h5
    · have := List.all_eq_true.mp h9 x hx
      unfold locS at this
      split at this
      · exact .inl (by assumption)
      · exact .inr (by assumption)
      · cases this
    · have := List.all_eq_true.mp h10 y hy
      intro e
      rw [e] at this; cases this
  refine F.ok (k := 0) S (fun vs H Q E h => ?_) fun cdv A outer s H vs Q E hr hsp => ?_
  · obtain ⟨a, ws, rfl, hl, _⟩ := h
    rw [List.length_cons, hl, hlen]
  · obtain ⟨a, ws, rfl, hl, ha, q⟩ := hsp
    refine ⟨_, pss_best, ?_⟩
    refine init_first (N := N) (sc := scope) (C := C) (a := a) rfl rfl T ?_ fs body 1 ws (fun z => by rw [z] at h31; cases h31) h1 hl (fun j w hw => ?_) (by omega) hf ha (fun d hd hda => q d hd hda)
    · rfl
    · unfold L2.start
      have hj : j < ws.length := (List.getElem?_eq_some_iff.mp hw).1
      rw [List.getElem?_append_left (by rw [List.length_map, List.length_cons]; omega), List.getElem?_map, Nat.add_comm, List.getElem?_cons_succ, hw]
      rfl
end PV
end
section
set_option Elab.async false
set_option linter.all false
set_option maxRecDepth 100000
set_option maxHeartbeats 4000000
/-! PV24: the key function x ↦ (len(x), x). -/
namespace PV
open PySem PySem.Spec PyProof.Rows L2
theorem key_fact {P : Program} {w : World} {K : W.Frag} {mg : Str → Option Value} {base : Heap} {x qual r : Str} {params : Arguments} {body : List Stmt} {scope : Scope} {dvs : List V} {kws : List (Str × V)} {f : Addr} {fd : FuncData} {p1 p2 p3 p4 p5 p6 : Pos} {k : Nat}
    (F : FunD K x qual params body scope [] kws f fd) (gm : mg x = some (.ref f)) (hlen : mg "len" = none) (hbody : body = [.Return (some (.Tuple [.Call (.Name "len" p1) [.Name r p2] [] p3, .Name r p4] k p5)) p6])
    (hb : ∀ (kV doc pm : Value) (an : Option Addr) (cdv ct : Value) (us : List Value), us.length = 1 → bindArgs (PySem.W.fnOf x qual params body scope .none kV doc pm an cdv ct) ⟨us, []⟩ = pure ([r].zip us))
    (S : FnScope [r] [r] scope) (hr : scope.names.lookup r = some .local) (hl : scope.names.lookup ("len" : Str) = some .globalImplicit) (hd : (r == ("__debug__" : Str)) = false) : KeyFact P w K mg base x := by
  refine ⟨f, gm, fun A s u xs rm md hz bk rd => ?_⟩
  have B : Binds K fd [r] [] := F.bindsN (ps := [r]) hb
  obtain ⟨oc, od, dV, kV, doc, pm, an, cdv, ct, osl, rfl, lk, hcd, hD, hK⟩ := F.ex
  have KX : K.In s.heap := md.kin.keeps bk
  have lim : s.heap.NoLimit := md.nolimit.keeps bk
  have hkind : ∀ y ∈ [r].zip [u], scope.names.lookup y.1 = some .local ∨ (scope.names.lookup y.1 = some .cell ∧ ((cellsFrom (s.heap.objs.size + 1) scope.names []).lookup y.1).isSome = true) := fun y hy => by
    have : y = (r, u) := by simpa using hy
    rw [this]; exact .inl hr
  have hbd := B s [u] KX (by rfl)
  rw [List.append_nil] at hbd
  refine wpAny_call (codeAny_call_function rm.depth (KX _ _ lk) rfl S.co S.gen rfl (PySem.W.codeRec_of KX hcd) (hbd _ _ _ _ ?_))
  refine wpAny_newFunctionEnv_cells S.kind hkind fun env he s1 xx => ?_
  subst he
  refine ⟨lim.keeps xx.toInCall.keep, codeAny_func ?_⟩
  obtain ⟨h1, tk, rfl, hk⟩ := xx.done
  have hns := xx.toInCall.ns
  subst hbody
  have rd1 : Reads h1 u (.tuple xs) [] := PyProof.Rows.Reads.keeps hk rd
  have getr : ∀ {h2 : Heap} {tk2 : Nat} {A2 : Around} {E2 : Value → Shared → Prop} {Q : Value → Shared → Prop} {pp : Pos}, h2 = h1 → Q u { s with heap := h2, toks := tk2 } → wpAny (model P w) A2 (eval (.Name r pp) (envOfC qual scope s.heap.objs.size f cdv)) Q E2 { s with heap := h2, toks := tk2 } := by
    intro h2 tk2 A2 E2 Q pp e q
    subst e
    refine wpAny_Name (wpAny_loadName_local (m := bindL (envOfC qual scope s.heap.objs.size f cdv).kindOf ([r].zip [u]) fun _ => none) S.kind hr hns ?_ q) hd
    show bindL _ [(r, u)] _ r = some u
    have e1 : (envOfC qual scope s.heap.objs.size f cdv).kindOf r = some .local := hr
    simp [bindL, e1]
  refine wpAny_execs_cons (wpAny_Return_some (wpAny_Tuple_spliced ?_))
  refine Calls.spliced_cons ?_
  obtain ⟨mb, hmb1, hmb2⟩ := md.blt
  have bk1 : ∀ b o, base.get? b = some o → h1.get? b = some o := fun b o z => hk b o (bk b o z)
  refine wpAny_Call_Name_kw (Calls.Name_function_global S.kind hl (Calls.loadGlobal_builtin (md.glob.keeps bk1) hlen (hmb1.keeps bk1) ((hmb2 "len" (by decide)).trans bb_len) ?_))
  refine PyProof.Rows.callWith_builtin1 (Calls.spliced_cons (getr rfl (Calls.spliced_nil ?_)))
  cases rd1 with
  | tuple g1 g2 g3 g4 =>
    rename_i a0 o0 vs0 n0
    have hvl : vs0.size = xs.length := by
      have : ∀ {h : Heap} (ds : List PyData) {us : List Value} {as : List Addr}, ReadsAll h us ds as → us.length = ds.length := by
        intro h ds
        induction ds with
        | nil => intro us as z; cases z; rfl
        | cons d ds ih => intro us as z; cases z with | cons z1 z2 => rw [List.length_cons, List.length_cons, ih z2]
      have e := this xs g4
      rw [← e]; simp
    have hsl : (sizeLine : Nat) < 2 ^ 63 := by rw [sizeLine_eq]; decide
    refine PyProof.Rows.len_tuple (items := vs0) ⟨_, g1, g2, _, g3⟩ (by omega) ?_
    refine Calls.spliced_cons (getr rfl (Calls.spliced_nil ⟨?_, ?_⟩))
    · show (2 : Nat) ≤ sizeLine
      rw [sizeLine_eq]; decide
    · have gk : ∀ b o, h1.get? b = some o → (h1.push ({ cls := .type "tuple", data := .seq #[Value.int vs0.size (tk + 1), Value.ref a0] } : Obj)).get? b = some o := fun b o z => Heap.get?_push_of_some _ z
      refine ⟨_, _, rfl, fun b o z => gk b o (hk b o z), ?_⟩
      refine .tuple (Heap.get?_push_size _ rfl) rfl rfl ?_
      rw [← hvl]
      exact .cons (as := []) (bs := []) (.int _ _) (.cons (as := []) (bs := []) (PyProof.Rows.Reads.keeps gk (.tuple g1 g2 g3 g4)) .nil)
end PV
end
section
set_option Elab.async false
set_option linter.all false
set_option maxRecDepth 100000
set_option maxHeartbeats 4000000
/-! PV25: the classes of errors, from the head's look. -/
namespace PV
open PySem PySem.Spec PyProof.Rows L2
theorem xw_of {P : Program} {w : World} {K : W.Frag} {mg : Str → Option Value} {base : Heap} {XL : List Xc} {sub : Str → Nat → Bool} (hb : xB XL sub K = true)
    (gl : ∀ x ∈ XL, bltX.contains x.name = false → mg x.name = some (.ref (He.ga K x.name))) (fr : ∀ x ∈ XL, bltX.contains x.name = true → mg x.name = none ∧ bootBuiltins x.name = some (.type (bltT x.name)))
    (ini : ∀ x ∈ XL, x.own = true → bltX.contains x.name = false ∧ ∃ (nm qual : Str) (params : Arguments) (body : List Stmt) (scope : Scope) (dvs : List V) (kws : List (Str × V)) (fdI : FuncData) (ps N : List Str),
      FunD K nm qual params body scope dvs kws (He.ma K (He.ga K x.name) "__init__") fdI ∧ ckInit params body scope ps N x.fields = true ∧ Binds K fdI ps []) : XW (fun k => XL[k]?) sub P w K mg base := by
  have each : ∀ x ∈ XL, bltX.contains x.name = false → xfB K (He.ga K x.name) = true ∧ ecB K (He.ga K x.name) = true ∧ (∀ y ∈ XL, ∀ f ∈ y.fields, PySem.W.findIn K (.ref (He.ga K x.name)) f = some none) ∧
      (∀ k y, XL[k]? = some y → PySem.W.kitOne K (.ref (He.ga K x.name)) (clsV K y.name) = some (sub x.name k) ∧ PySem.W.exmOne K (.ref (He.ga K x.name)) (clsV K y.name) = some (sub x.name k)) ∧
      (x.own = true → oexB K (He.ga K x.name) = true ∧ PySem.W.findIn K (.ref (He.ga K x.name)) "__init__" = some (some (.ref (He.ma K (He.ga K x.name) "__init__"))) ∧ PySem.W.typeIn K (.ref (He.ma K (He.ga K x.name) "__init__")) = some (.type "function")) := fun x hx hn => by
    have h := List.all_eq_true.mp hb x hx
    rw [hn, Bool.false_or] at h
    simp only [Bool.and_eq_true] at h
    obtain ⟨⟨⟨⟨h1, h2⟩, h3⟩, h4⟩, h5⟩ := h
    refine ⟨h1, h2, fun y hy f hf => of_decide_eq_true (List.all_eq_true.mp (List.all_eq_true.mp h3 y hy) f hf), fun k y hk => ?_, fun ho => ?_⟩
    · have := List.all_eq_true.mp h4 (y, k) (List.mk_mem_zipIdx_iff_getElem?.mpr hk)
      simp only [Bool.and_eq_true, decide_eq_true_eq] at this
      exact this
    · rw [ho, Bool.not_true, Bool.false_or] at h5
      simp only [Bool.and_eq_true, decide_eq_true_eq] at h5
      exact ⟨h5.1.1, h5.1.2, h5.2⟩
  have mem : ∀ {k : Nat} {x : Xc}, XL[k]? = some x → x ∈ XL := fun h => List.mem_of_getElem? h
  have ref : ∀ {x : Xc} {C : Addr}, x ∈ XL → mg x.name = some (.ref C) → bltX.contains x.name = false ∧ C = He.ga K x.name := fun {x C} hx hm => by
    cases hc : bltX.contains x.name with
    | true => rw [(fr x hx hc).1] at hm; cases hm
    | false => rw [gl x hx hc] at hm; cases hm; exact ⟨rfl, rfl⟩
  refine ⟨fun k x hk => ?_, fun k x C hk hm => ?_, fun k x hk ho => ?_, fun k x C hk hm k' x' f hk' hf => ?_, fun j xj C k xk u hj hm hk hc => ?_⟩
  · cases hc : bltX.contains x.name with
    | true => exact ⟨.ty (bltT x.name), .type (bltT x.name), rfl, fun u' h => h, .inr (fr x (mem hk) hc)⟩
    | false => exact ⟨.ref (He.ga K x.name), .ref (He.ga K x.name), rfl, fun u' h => h, .inl (gl x (mem hk) hc)⟩
  · obtain ⟨hn, rfl⟩ := ref (mem hk) hm
    obtain ⟨h1, h2, _⟩ := each x (mem hk) hn
    exact ⟨xfB_ok h1, ecB_ok h2⟩
  · obtain ⟨hn, nm, qual, params, body, scope, dvs, kws, fdI, ps, N, F, hc, hB⟩ := ini x (mem hk) ho
    obtain ⟨_, _, h3, _, h5⟩ := each x (mem hk) hn
    obtain ⟨q1, q2, q3⟩ := h5 ho
    have T := oexB_ok q1
    exact ⟨He.ga K x.name, gl x (mem hk) hn, ⟨T, _, fdI, ps, q2, q3, init_ok F hc T fun f hf => h3 x (mem hk) f hf, hB⟩⟩
  · obtain ⟨hn, rfl⟩ := ref (mem hk) hm
    obtain ⟨_, _, h3, _⟩ := each x (mem hk) hn
    exact h3 x' (mem hk') f hf
  · obtain ⟨hn, rfl⟩ := ref (mem hj) hm
    obtain ⟨_, _, _, h4, _⟩ := each xj (mem hj) hn
    have hu : u = clsV K xk.name := by
      unfold clsV
      cases hb2 : bltX.contains xk.name with
      | true =>
        rw [if_pos rfl]
        obtain ⟨e1, e2⟩ := fr xk (mem hk) hb2
        rcases hc with hc | ⟨_, hc⟩
        · rw [e1] at hc; cases hc
        · rw [e2] at hc; cases hc; rfl
      | false =>
        rw [if_neg Bool.false_ne_true]
        rcases hc with hc | ⟨hc, _⟩
        · rw [gl xk (mem hk) hb2] at hc; cases hc; rfl
        · rw [gl xk (mem hk) hb2] at hc; cases hc
    rw [hu]
    exact h4 k xk hk
end PV
end
section
set_option Elab.async false
set_option linter.all false
set_option maxRecDepth 100000
set_option maxHeartbeats 8000000
namespace PV.G77
open PySem PV
-- written by gen.py
def top (i : Nat) : Stmt := PySem.Challenge.pw_oneturn_k77_whole_soonest.main.body.getD i (.Pass ⟨0, 0, 0, 0⟩)
/-- turned -/
def fd0 : Fd := ⟨2, 2, (.cons (.ret [] (.bin .add (.slL (.v 0) (.v 1)) (.slH (.v 0) (.v 1))))
      .nil)⟩
def d0 : FnD := ⟨"turned", ["ring", "house"], ["ring", "house"], [], fd0, top 1, [(2, [], [])], [], []⟩
/-- turns -/
def fd1 : Fd := ⟨1, 3, (.cons (.set [] 1 .dT)
      (.cons (.for_ 2 (.rng1 (.f1 .len (.v 0)))
      (.cons (.put [] 1 (.call 0 (.cons (.v 0) (.cons (.v 2) .nil)) .nil []) (.bool true))
      .nil) [])
      (.cons (.ret [] (.f1 .tuple (.f1 .sorted (.f1 .list (.pk 1)))))
      .nil)))⟩
def d1 : FnD := ⟨"turns", ["ring"], ["ring", "known", "house"], [1], fd1, top 2, [(1, [], [])], [], []⟩
/-- least_turn -/
def fd2 : Fd := ⟨1, 1, (.cons (.ret [] (.ix (.call 1 (.cons (.v 0) .nil) .nil []) (.int 0)))
      .nil)⟩
def d2 : FnD := ⟨"least_turn", ["ring"], ["ring"], [], fd2, top 3, [(1, [], [])], [], []⟩
/-- row_at -/
def fd3 : Fd := ⟨3, 6, (.cons (.set [] 3 (.f1 .len (.v 0)))
      (.cons (.set [] 4 (.bin .add (.bin .sub (.v 1) (.v 2)) (.int 1)))
      (.cons (.ret [] (.f1 .tuple (.comp (.ix (.v 0) (.bin .mod (.bin .add (.v 4) (.v 5)) (.v 3))) 5 (.rng1 (.v 2)))))
      .nil)))⟩
def d3 : FnD := ⟨"row_at", ["ring", "house", "length"], ["ring", "house", "length", "many", "start", "step"], [], fd3, top 4, [(3, [], [])], [], []⟩
/-- rows_at -/
def fd4 : Fd := ⟨2, 3, (.cons (.ret [] (.f1 .tuple (.comp (.call 3 (.cons (.v 0) (.cons (.v 2) (.cons (.v 1) .nil))) .nil []) 2 (.rng1 (.f1 .len (.v 0))))))
      .nil)⟩
def d4 : FnD := ⟨"rows_at", ["ring", "length"], ["ring", "length", "house"], [], fd4, top 5, [(2, [], [])], [], []⟩
/-- within_limit -/
def fd5 : Fd := ⟨1, 1, (.cons (.ret [] (.mx2 (.neg (.glob "LIMIT")) (.mn2 (.glob "LIMIT") (.v 0))))
      .nil)⟩
def d5 : FnD := ⟨"within_limit", ["value"], ["value"], [], fd5, top 8, [(1, [], [])], [], []⟩
/-- remainder -/
def fd6 : Fd := ⟨2, 2, (.cons (.ite (.cmp .gt (.v 1) (.int 0))
      (.cons (.ret [] (.bin .mod (.v 0) (.v 1)))
      .nil)
      .nil)
      (.cons (.ret [] (.int 0))
      .nil))⟩
def d6 : FnD := ⟨"remainder", ["one", "two"], ["one", "two"], [], fd6, top 9, [(2, [], [])], [], []⟩
/-- part_of -/
def fd7 : Fd := ⟨3, 4, (.cons (.ite (.cmp .eq (.ix (.v 0) (.int 0)) (.str "number"))
      (.cons (.ret [] (.ix (.v 0) (.int 1)))
      .nil)
      .nil)
      (.cons (.set [] 3 (.f1 .len (.v 1)))
      (.cons (.ite (.cmp .eq (.ix (.v 0) (.int 0)) (.str "next"))
      (.cons (.ret [] (.ix (.v 1) (.bin .mod (.bin .add (.v 2) (.int 1)) (.v 3))))
      .nil)
      .nil)
      (.cons (.ite (.cmp .eq (.ix (.v 0) (.int 0)) (.str "ahead"))
      (.cons (.ret [] (.ix (.v 1) (.bin .mod (.bin .sub (.v 2) (.int 1)) (.v 3))))
      .nil)
      .nil)
      (.cons (.ret [] (.ix (.v 1) (.v 2)))
      .nil)))))⟩
def d7 : FnD := ⟨"part_of", ["part", "ring", "house"], ["part", "ring", "house", "many"], [], fd7, top 10, [(3, [], [])], [], []⟩
/-- test_holds -/
def fd8 : Fd := ⟨3, 5, (.cons (.set [] 3 (.call 7 (.cons (.ix (.v 0) (.int 1)) (.cons (.v 1) (.cons (.v 2) .nil))) .nil []))
      (.cons (.ite (.cmp .eq (.ix (.v 0) (.int 0)) (.str "odd"))
      (.cons (.ret [] (.cmp .eq (.bin .mod (.v 3) (.int 2)) (.int 1)))
      .nil)
      .nil)
      (.cons (.set [] 4 (.call 7 (.cons (.ix (.v 0) (.int 2)) (.cons (.v 1) (.cons (.v 2) .nil))) .nil []))
      (.cons (.ite (.cmp .eq (.ix (.v 0) (.int 0)) (.str "below"))
      (.cons (.ret [] (.cmp .lt (.v 3) (.v 4)))
      .nil)
      .nil)
      (.cons (.ret [] (.cmp .eq (.v 3) (.v 4)))
      .nil)))))⟩
def d8 : FnD := ⟨"test_holds", ["test", "ring", "house"], ["test", "ring", "house", "first", "second"], [], fd8, top 11, [(3, [], [])], [], []⟩
/-- plain_answer -/
def fd9 : Fd := ⟨2, 2, (.cons (.ite (.cmp .eq (.v 0) (.str "greatest"))
      (.cons (.ret [] (.f1 .max (.v 1)))
      .nil)
      .nil)
      (.cons (.ite (.cmp .eq (.v 0) (.str "least"))
      (.cons (.ret [] (.f1 .min (.v 1)))
      .nil)
      .nil)
      (.cons (.ite (.cmp .eq (.v 0) (.str "houses"))
      (.cons (.ret [] (.f1 .len (.v 1)))
      .nil)
      .nil)
      (.cons (.ite (.cmp .eq (.v 0) (.str "kinds"))
      (.cons (.ret [] (.lenset (.v 1)))
      .nil)
      .nil)
      (.cons (.ret [] (.f1 .sum (.v 1)))
      .nil)))))⟩
def d9 : FnD := ⟨"plain_answer", ["word", "ring"], ["word", "ring"], [], fd9, top 12, [(2, [], [])], [], []⟩
/-- paired_answer -/
def fd10 : Fd := ⟨3, 3, (.cons (.ite (.cmp .eq (.v 0) (.str "plus"))
      (.cons (.ret [] (.call 5 (.cons (.bin .add (.v 1) (.v 2)) .nil) .nil []))
      .nil)
      .nil)
      (.cons (.ite (.cmp .eq (.v 0) (.str "minus"))
      (.cons (.ret [] (.call 5 (.cons (.bin .sub (.v 1) (.v 2)) .nil) .nil []))
      .nil)
      .nil)
      (.cons (.ite (.cmp .eq (.v 0) (.str "times"))
      (.cons (.ret [] (.call 5 (.cons (.bin .mul (.v 1) (.v 2)) .nil) .nil []))
      .nil)
      .nil)
      (.cons (.ite (.cmp .eq (.v 0) (.str "rest"))
      (.cons (.ret [] (.call 6 (.cons (.v 1) (.cons (.v 2) .nil)) .nil []))
      .nil)
      .nil)
      (.cons (.ite (.cmp .eq (.v 0) (.str "less"))
      (.cons (.ret [] (.ite (.cmp .lt (.v 1) (.v 2)) (.int 1) (.int 0)))
      .nil)
      .nil)
      (.cons (.ret [] (.ite (.cmp .eq (.v 1) (.v 2)) (.int 1) (.int 0)))
      .nil))))))⟩
def d10 : FnD := ⟨"paired_answer", ["word", "one", "two"], ["word", "one", "two"], [], fd10, top 13, [(3, [], [])], [], []⟩
/-- answer_of -/
def fd11 : Fd := ⟨2, 4, (.cons (.set [] 2 (.ix (.v 0) (.int 0)))
      (.cons (.ite (.cmp .eq (.v 2) (.str "number"))
      (.cons (.ret [] (.ix (.v 0) (.int 1)))
      .nil)
      .nil)
      (.cons (.ite (.cmp .eq (.v 2) (.str "count"))
      (.cons (.ret [] (.f1 .len (.compIf (.v 3) 3 (.rng1 (.f1 .len (.v 1))) (.call 8 (.cons (.ix (.v 0) (.int 1)) (.cons (.v 1) (.cons (.v 3) .nil))) .nil []))))
      .nil)
      .nil)
      (.cons (.ite (.cmp .eq (.v 2) (.str "choose"))
      (.cons (.ite (.cmp .eq (.call 11 (.cons (.ix (.v 0) (.int 1)) (.cons (.v 1) .nil)) .nil []) (.int 0))
      (.cons (.ret [] (.call 11 (.cons (.ix (.v 0) (.int 3)) (.cons (.v 1) .nil)) .nil []))
      .nil)
      .nil)
      (.cons (.ret [] (.call 11 (.cons (.ix (.v 0) (.int 2)) (.cons (.v 1) .nil)) .nil []))
      .nil))
      .nil)
      (.cons (.ite (.cmp .eq (.f1 .len (.v 0)) (.int 1))
      (.cons (.ret [] (.call 9 (.cons (.v 2) (.cons (.v 1) .nil)) .nil []))
      .nil)
      .nil)
      (.cons (.ret [] (.call 10 (.cons (.v 2) (.cons (.call 11 (.cons (.ix (.v 0) (.int 1)) (.cons (.v 1) .nil)) .nil []) (.cons (.call 11 (.cons (.ix (.v 0) (.int 2)) (.cons (.v 1) .nil)) .nil []) .nil))) .nil []))
      .nil))))))⟩
def d11 : FnD := ⟨"answer_of", ["question", "ring"], ["question", "ring", "word", "house"], [], fd11, top 14, [(2, [], [])], [], []⟩
/-- settle_table -/
def fd12 : Fd := ⟨3, 8, (.cons (.set [] 3 .dT)
      (.cons (.for_ 4 (.v 0)
      (.cons (.set [] 5 (.call 11 (.cons (.v 1) (.cons (.v 4) .nil)) .nil []))
      (.cons (.for_ 6 (.rng2 (.int 1) (.bin .add (.v 2) (.int 1)))
      (.cons (.for_ 7 (.call 4 (.cons (.v 4) (.cons (.v 6) .nil)) .nil [])
      (.cons (.ite (.cmp .nin (.v 7) (.pk 3))
      (.cons (.put [] 3 (.v 7) (.v 5))
      .nil)
      (.cons (.ite (.cmp .ne (.ix (.pk 3) (.v 7)) (.v 5))
      (.cons (.put [] 3 (.v 7) .none)
      .nil)
      .nil)
      .nil))
      .nil) [])
      .nil) [])
      .nil)) [])
      (.cons (.ret [3] (.v 3))
      .nil)))⟩
def d12 : FnD := ⟨"settle_table", ["rings", "question", "longest"], ["rings", "question", "longest", "table", "ring", "answer", "length", "row"], [3], fd12, top 18, [(3, [], [])], [], []⟩
/-- is_settled -/
def fd13 : Fd := ⟨2, 2, (.cons (.ret [] (.notN (.get2 (.v 0) (.v 1) .none)))
      .nil)⟩
def d13 : FnD := ⟨"is_settled", ["table", "row"], ["table", "row"], [], fd13, top 19, [(2, [], [])], [], []⟩
/-- row_from -/
def fd14 : Fd := ⟨3, 3, (.cons (.ret [] (.call 3 (.cons (.v 0) (.cons (.bin .mod (.bin .sub (.bin .add (.v 1) (.v 2)) (.int 1)) (.f1 .len (.v 0))) (.cons (.v 2) .nil))) .nil []))
      .nil)⟩
def d14 : FnD := ⟨"row_from", ["ring", "start", "length"], ["ring", "start", "length"], [], fd14, top 21, [(3, [], [])], [], []⟩
/-- first_length -/
def fd15 : Fd := ⟨3, 4, (.cons (.for_ 3 (.rng2 (.int 1) (.bin .add (.glob "MOST_FIRST") (.int 1)))
      (.cons (.ite (.call 13 (.cons (.v 2) (.cons (.call 14 (.cons (.v 0) (.cons (.v 1) (.cons (.v 3) .nil))) .nil []) .nil)) .nil [])
      (.cons (.ret [] (.v 3))
      .nil)
      .nil)
      .nil) [])
      (.cons (.ret [] .none)
      .nil))⟩
def d15 : FnD := ⟨"first_length", ["ring", "start", "table"], ["ring", "start", "table", "length"], [], fd15, top 22, [(3, [], [])], [], []⟩
/-- first_length_at -/
def fd16 : Fd := ⟨4, 7, (.cons (.set [] 4 (.f1 .len (.v 0)))
      (.cons (.set [] 5 (.bin .add (.bin .mod (.bin .sub (.v 2) (.v 1)) (.v 4)) (.int 1)))
      (.cons (.for_ 6 (.rng3 (.v 5) (.bin .add (.glob "MOST_FIRST_AT") (.int 1)) (.v 4))
      (.cons (.ite (.call 13 (.cons (.v 3) (.cons (.call 14 (.cons (.v 0) (.cons (.v 1) (.cons (.v 6) .nil))) .nil []) .nil)) .nil [])
      (.cons (.ret [] (.v 6))
      .nil)
      .nil)
      .nil) [])
      (.cons (.ret [] .none)
      .nil))))⟩
def d16 : FnD := ⟨"first_length_at", ["ring", "start", "house", "table"], ["ring", "start", "house", "table", "many", "near", "length"], [], fd16, top 23, [(4, [], [])], [], []⟩
/-- root -/
def fd17 : Fd := ⟨1, 3, (.cons (.set [] 1 (.f1 .len (.v 0)))
      (.cons (.for_ 2 (.rng2 (.int 1) (.v 1))
      (.cons (.ite (.and (.cons (.cmp .eq (.bin .mod (.v 1) (.v 2)) (.int 0)) (.cons (.cmp .eq (.bin .mul (.slH (.v 0) (.v 2)) (.bin .fdiv (.v 1) (.v 2))) (.v 0)) .nil)))
      (.cons (.ret [] (.slH (.v 0) (.v 2)))
      .nil)
      .nil)
      .nil) [])
      (.cons (.ret [] (.v 0))
      .nil)))⟩
def d17 : FnD := ⟨"root", ["ring"], ["ring", "many", "size"], [], fd17, top 31, [(1, [], [])], [], []⟩
/-- clear_pair -/
def fd18 : Fd := ⟨2, 7, (.cons (.set [] 2 (.comp (.call 2 (.cons (.call 17 (.cons (.v 6) .nil) .nil []) .nil) .nil []) 6 (.v 0)))
      (.cons (.set [] 3 (.comp (.call 11 (.cons (.v 1) (.cons (.v 6) .nil)) .nil []) 6 (.v 0)))
      (.cons (.for_ 4 (.rng1 (.f1 .len (.v 0)))
      (.cons (.for_ 5 (.rng1 (.f1 .len (.v 0)))
      (.cons (.ite (.and (.cons (.cmp .eq (.ix (.v 2) (.v 4)) (.ix (.v 2) (.v 5))) (.cons (.cmp .ne (.ix (.v 3) (.v 4)) (.ix (.v 3) (.v 5))) .nil)))
      (.cons (.ret [] (.tup (.cons (.ix (.v 0) (.v 4)) (.cons (.ix (.v 0) (.v 5)) .nil))))
      .nil)
      .nil)
      .nil) [])
      .nil) [])
      (.cons (.ret [] .none)
      .nil))))⟩
def d18 : FnD := ⟨"clear_pair", ["rings", "question"], ["rings", "question", "windings", "answers", "one", "two", "ring"], [], fd18, top 33, [(2, [], [])], [], []⟩
/-- least_of -/
def fd19 : Fd := ⟨1, 3, (.cons (.set [] 1 (.compIf (.v 2) 2 (.v 0) (.notN (.v 2))))
      (.cons (.ret [] (.ite (.cmp .gt (.f1 .len (.v 1)) (.int 0)) (.f1 .min (.v 1)) .none))
      .nil))⟩
def d19 : FnD := ⟨"least_of", ["lengths"], ["lengths", "known", "length"], [], fd19, top 35, [(1, [], [])], [], []⟩
/-- soonest_by -/
def fd20 : Fd := ⟨3, 7, (.cons (.set [] 3 (.f1 .len (.v 0)))
      (.cons (.ite (.cmp .eq (.v 2) (.str "some"))
      (.cons (.ret [] (.call 19 (.cons (.comp (.call 15 (.cons (.v 0) (.cons (.v 6) (.cons (.v 1) .nil))) .nil []) 6 (.rng1 (.v 3))) .nil) .nil []))
      .nil)
      .nil)
      (.cons (.set [] 4 (.lst .nil))
      (.cons (.for_ 5 (.rng1 (.v 3))
      (.cons (.app [] 4 (.call 19 (.cons (.comp (.call 16 (.cons (.v 0) (.cons (.v 6) (.cons (.v 5) (.cons (.v 1) .nil)))) .nil []) 6 (.rng1 (.v 3))) .nil) .nil []))
      .nil) [])
      (.cons (.ret [] (.ite (.cmp .isin .none (.pk 4)) .none (.f1 .max (.pk 4))))
      .nil)))))⟩
def d20 : FnD := ⟨"soonest_by", ["ring", "table", "told"], ["ring", "table", "told", "many", "found", "house", "start"], [4], fd20, top 36, [(3, [], [])], [], []⟩
/-- soonest -/
def fd21 : Fd := ⟨4, 4, (.cons (.ret [] (.call 20 (.cons (.v 0) (.cons (.call 12 (.cons (.v 1) (.cons (.v 2) (.cons (.glob "MOST_FIRST_AT") .nil))) .nil []) (.cons (.v 3) .nil))) .nil []))
      .nil)⟩
def d21 : FnD := ⟨"soonest", ["ring", "rings", "question", "told"], ["ring", "rings", "question", "told"], [], fd21, top 37, [(3, ["told"], []), (3, [], [(PyData.str "some")])], [], [("told", (.str "some"))]⟩
/-- fewest_rounds -/
def fd22 : Fd := ⟨3, 6, (.cons (.set [] 3 (.call 18 (.cons (.v 0) (.cons (.v 1) .nil)) .nil []))
      (.cons (.ite (.notN (.v 3))
      (.cons (.raise 2 (.cons (.ix (.v 3) (.int 0)) (.cons (.ix (.v 3) (.int 1)) .nil)))
      .nil)
      .nil)
      (.cons (.set [] 4 (.call 12 (.cons (.v 0) (.cons (.v 1) (.cons (.glob "MOST_FIRST_AT") .nil))) .nil []))
      (.cons (.ret [] (.f1 .max (.comp (.call 20 (.cons (.v 5) (.cons (.v 4) (.cons (.v 2) .nil))) .nil []) 5 (.v 0))))
      .nil))))⟩
def d22 : FnD := ⟨"fewest_rounds", ["rings", "question", "told"], ["rings", "question", "told", "pair", "table", "ring"], [], fd22, top 38, [(2, ["told"], []), (2, [], [(PyData.str "some")])], [], [("told", (.str "some"))]⟩
/-- _law_whole -/
def fd23 : Fd := ⟨1, 1, (.cons (.ret [] (.and (.cons (.isa .int (.v 0)) (.cons (.not (.isa .bool (.v 0))) .nil))))
      .nil)⟩
def d23 : FnD := ⟨"_law_whole", ["value"], ["value"], [], fd23, top 40, [(1, [], [])], [], []⟩
/-- _law_cell -/
def fd24 : Fd := ⟨2, 4, (.cons (.ite (.cmp .lt (.v 1) (.f1 .len (.v 0)))
      (.cons (.ret [] (.ix (.v 0) (.v 1)))
      .nil)
      .nil)
      (.cons (.set [] 2 (.int 17))
      (.cons (.for_ 3 (.v 0)
      (.cons (.set [] 2 (.bin .mod (.f1 .int (.bin .add (.bin .mul (.v 2) (.int 31)) (.bin .mod (.f1 .int (.v 3)) (.int 1000003)))) (.int 1000003)))
      .nil) [])
      (.cons (.ret [] (.bin .mod (.f1 .int (.bin .mul (.bin .mul (.bin .add (.v 2) (.int 7)) (.bin .add (.v 1) (.int 3))) (.int 69621))) (.int 2147483647)))
      .nil))))⟩
def d24 : FnD := ⟨"_law_cell", ["script", "k"], ["script", "k", "seed", "cell"], [], fd24, top 41, [(2, [], [])], [], []⟩
/-- _law_digits -/
def fd25 : Fd := ⟨2, 8, (.cons (.set [] 2 (.lst .nil))
      (.cons (.set [] 3 (.f1 .int (.v 0)))
      (.cons (.ite (.cmp .ge (.v 3) (.bin .pow (.int 10) (.int 18)))
      (.cons (.set [] 3 (.bin .sub (.v 3) (.bin .pow (.int 10) (.int 18))))
      (.cons (.for_ 6 (.v 1)
      (.cons (.app [] 2 (.bin .mod (.f1 .int (.v 3)) (.v 6)))
      (.cons (.set [] 3 (.bin .fdiv (.f1 .int (.v 3)) (.v 6)))
      .nil)) [])
      (.cons (.ret [2] (.v 2))
      .nil)))
      .nil)
      (.cons (.set [] 4 (.bin .mod (.f1 .int (.v 3)) (.int 2147483629)))
      (.cons (.for_ 5 (.rng1 (.f1 .len (.v 1)))
      (.cons (.set [] 4 (.bin .mod (.f1 .int (.bin .add (.bin .add (.bin .mul (.v 4) (.int 48271)) (.bin .mul (.int 974711) (.v 5))) (.int 12345))) (.int 2147483647)))
      (.cons (.set [] 7 (.bin .mod (.f1 .int (.bin .mul (.v 4) (.bin .add (.bin .fdiv (.v 4) (.int 65537)) (.int 3)))) (.int 2147483629)))
      (.cons (.app [] 2 (.bin .mod (.bin .fdiv (.v 7) (.int 19)) (.ix (.v 1) (.v 5))))
      .nil))) [])
      (.cons (.ret [2] (.v 2))
      .nil))))))⟩
def d25 : FnD := ⟨"_law_digits", ["cell", "sizes"], ["cell", "sizes", "row", "rest", "seed", "k", "size", "twice"], [2], fd25, top 42, [(2, [], [])], [], []⟩
/-- _law_key -/
def fd26 : Fd := ⟨1, 1, (.cons (.ret [] (.tup (.cons (.f1 .len (.v 0)) (.cons (.v 0) .nil))))
      .nil)⟩
def d26 : FnD := ⟨"_law_key", ["row"], ["row"], [], fd26, top 43, [], [], []⟩
/-- _law_least -/
def fd27 : Fd := ⟨1, 4, (.cons (.set [] 1 (.v 0))
      (.cons (.for_ 2 (.rng1 (.f1 .len (.v 0)))
      (.cons (.set [] 3 (.bin .add (.slL (.v 0) (.v 2)) (.slH (.v 0) (.v 2))))
      (.cons (.ite (.cmp .lt (.v 3) (.v 1))
      (.cons (.set [] 1 (.v 3))
      .nil)
      .nil)
      .nil)) [])
      (.cons (.ret [] (.v 1))
      .nil)))⟩
def d27 : FnD := ⟨"_law_least", ["ring"], ["ring", "best", "house", "other"], [], fd27, top 44, [(1, [], [])], [], []⟩
/-- _law_row -/
def fd28 : Fd := ⟨3, 5, (.cons (.set [] 3 (.f1 .len (.v 0)))
      (.cons (.ret [] (.f1 .tuple (.comp (.ix (.v 0) (.bin .mod (.f1 .int (.bin .add (.bin .add (.bin .sub (.v 1) (.v 2)) (.int 1)) (.v 4))) (.v 3))) 4 (.rng1 (.v 2)))))
      .nil))⟩
def d28 : FnD := ⟨"_law_row", ["ring", "house", "length"], ["ring", "house", "length", "many", "k"], [], fd28, top 45, [(3, [], [])], [], []⟩
/-- _law_ring_list -/
def fd29 : Fd := ⟨1, 3, (.cons (.set [] 1 .dT)
      (.cons (.for_ 2 (.v 0)
      (.cons (.put [] 1 (.call 27 (.cons (.v 2) .nil) .nil []) (.bool true))
      .nil) [])
      (.cons (.ret [] (.f1 .tuple (.sortk "_law_key" (.compD (.v 2) 2 1))))
      .nil)))⟩
def d29 : FnD := ⟨"_law_ring_list", ["rings"], ["rings", "kept", "ring"], [1], fd29, top 46, [(1, [], [])], [], []⟩
/-- _law_all_wheels -/
def fd30 : Fd := ⟨1, 7, (.cons (.set [] 1 (.lst (.cons (.tup .nil) .nil)))
      (.cons (.set [] 2 (.lst .nil))
      (.cons (.for_ 3 (.rng1 (.f1 .len (.v 0)))
      (.cons (.set [] 4 (.lst .nil))
      (.cons (.for_ 5 (.v 1)
      (.cons (.for_ 6 (.v 0)
      (.cons (.ite (.cmp .nin (.v 6) (.v 5))
      (.cons (.app [] 4 (.bin .add (.v 5) (.tup (.cons (.v 6) .nil))))
      .nil)
      .nil)
      .nil) [])
      .nil) [])
      (.cons (.set [] 1 (.f1 .list (.pk 4)))
      (.cons (.set [] 2 (.bin .add (.v 2) (.compIf (.v 5) 5 (.v 1) (.cmp .eq (.ix (.v 5) (.int 0)) (.f1 .min (.v 5))))))
      .nil)))) [])
      (.cons (.ret [] (.v 2))
      .nil))))⟩
def d30 : FnD := ⟨"_law_all_wheels", ["lot"], ["lot", "rows", "found", "step", "grown", "row", "name"], [4], fd30, top 47, [(1, [], [])], [], []⟩
/-- _law_any_rings -/
def fd31 : Fd := ⟨2, 7, (.cons (.set [] 2 (.lst (.cons (.tup .nil) .nil)))
      (.cons (.for_ 3 (.rng1 (.v 1))
      (.cons (.set [] 4 (.lst .nil))
      (.cons (.for_ 5 (.v 2)
      (.cons (.for_ 6 (.v 0)
      (.cons (.app [] 4 (.bin .add (.v 5) (.tup (.cons (.v 6) .nil))))
      .nil) [])
      .nil) [])
      (.cons (.set [] 2 (.f1 .list (.pk 4)))
      .nil))) [])
      (.cons (.ret [] (.v 2))
      .nil)))⟩
def d31 : FnD := ⟨"_law_any_rings", ["lot", "size"], ["lot", "size", "rows", "step", "grown", "row", "name"], [4], fd31, top 48, [(2, [], [])], [], []⟩
/-- _law_lot -/
def fd32 : Fd := ⟨1, 4, (.cons (.set [] 1 (.int 0))
      (.cons (.set [] 2 (.lst .nil))
      (.cons (.for_ 3 (.v 0)
      (.cons (.set [] 1 (.bin .add (.bin .add (.v 1) (.int 1)) (.bin .mod (.f1 .int (.v 3)) (.int 8))))
      (.cons (.app [] 2 (.v 1))
      .nil)) [])
      (.cons (.ite (.cmp .eq (.bin .mod (.f1 .int (.ix (.v 0) (.int 0))) (.int 8)) (.int 7))
      (.cons (.ret [] (.f1 .tuple (.comp (.bin .add (.bin .sub (.int 999) (.ix (.pk 2) (.bin .sub (.f1 .len (.pk 2)) (.int 1)))) (.v 1)) 1 (.pk 2))))
      .nil)
      .nil)
      (.cons (.ret [] (.f1 .tuple (.pk 2)))
      .nil)))))⟩
def d32 : FnD := ⟨"_law_lot", ["row"], ["row", "name", "lot", "gap"], [2], fd32, top 49, [(1, [], [])], [], []⟩
/-- _law_near -/
def fd33 : Fd := ⟨4, 7, (.cons (.set [] 4 (.f1 .len (.v 0)))
      (.cons (.set [] 5 (.bin .mod (.f1 .int (.v 2)) (.v 4)))
      (.cons (.ite (.and (.cons (.cmp .eq (.v 1) (.int 1)) (.cons (.cmp .gt (.v 4) (.int 1)) .nil)))
      (.cons (.ret [] (.bin .add (.slH (.v 0) (.v 5)) (.slL (.v 0) (.bin .add (.v 5) (.int 1)))))
      .nil)
      .nil)
      (.cons (.ite (.and (.cons (.cmp .eq (.v 1) (.int 2)) (.cons (.cmp .lt (.v 4) (.int 8)) .nil)))
      (.cons (.ret [] (.bin .add (.bin .add (.slH (.v 0) (.v 5)) (.tup (.cons (.v 3) .nil))) (.slL (.v 0) (.v 5))))
      .nil)
      .nil)
      (.cons (.ite (.and (.cons (.cmp .eq (.v 1) (.int 3)) (.cons (.cmp .le (.v 4) (.int 4)) .nil)))
      (.cons (.ret [] (.bin .add (.v 0) (.v 0)))
      .nil)
      .nil)
      (.cons (.ite (.cmp .eq (.v 1) (.int 4))
      (.cons (.ret [] (.f1 .tuple (.comp (.ix (.v 0) (.bin .sub (.bin .sub (.v 4) (.int 1)) (.v 6))) 6 (.rng1 (.v 4)))))
      .nil)
      .nil)
      (.cons (.ret [] (.bin .add (.bin .add (.slH (.v 0) (.v 5)) (.tup (.cons (.v 3) .nil))) (.slL (.v 0) (.bin .add (.v 5) (.int 1)))))
      .nil)))))))⟩
def d33 : FnD := ⟨"_law_near", ["ring", "kind", "place", "name"], ["ring", "kind", "place", "name", "many", "at", "k"], [], fd33, top 50, [(4, [], [])], [], []⟩
/-- _law_list -/
def fd34 : Fd := ⟨1, 13, (.cons (.set [] 1 (.call 25 (.cons (.call 24 (.cons (.v 0) (.cons (.int 0) .nil)) .nil []) (.cons (.bin .add (.bin .add (.bin .add (.bin .add (.lst (.cons (.int 12) .nil)) (.bin .mul (.lst (.cons (.int 8) .nil)) (.int 4))) (.lst (.cons (.int 7) .nil))) (.bin .mul (.lst (.cons (.int 3) .nil)) (.int 8))) (.bin .mul (.lst (.cons (.int 5) (.cons (.int 8) (.cons (.int 4) .nil)))) (.int 4))) .nil)) .nil []))
      (.cons (.set [] 2 (.f1 .int (.ix (.v 1) (.int 0))))
      (.cons (.set [] 3 (.call 32 (.cons (.sl (.v 1) (.int 1) (.int 5)) .nil) .nil []))
      (.cons (.ite (.and (.cons (.cmp .eq (.v 2) (.int 3)) (.cons (.cmp .eq (.ix (.v 1) (.int 5)) (.int 0)) .nil)))
      (.cons (.set [] 5 (.lst .nil))
      (.cons (.for_ 7 (.rng2 (.int 1) (.int 5))
      (.cons (.set [] 5 (.bin .add (.pk 5) (.call 31 (.cons (.slH (.v 3) (.int 3)) (.cons (.v 7) .nil)) .nil [])))
      .nil) [])
      (.cons (.ret [5] (.call 29 (.cons (.v 5) .nil) .nil []))
      .nil)))
      .nil)
      (.cons (.ite (.cmp .le (.v 2) (.int 3))
      (.cons (.ret [] (.call 29 (.cons (.call 30 (.cons (.slH (.v 3) (.ix (.lst (.cons (.int 2) (.cons (.int 3) (.cons (.int 3) (.cons (.int 4) .nil))))) (.v 2))) .nil) .nil []) .nil) .nil []))
      .nil)
      .nil)
      (.cons (.ite (.cmp .eq (.v 2) (.int 4))
      (.cons (.ret [] (.call 29 (.cons (.bin .add (.bin .add (.call 31 (.cons (.slH (.v 3) (.int 2)) (.cons (.int 1) .nil)) .nil []) (.call 31 (.cons (.slH (.v 3) (.int 2)) (.cons (.int 2) .nil)) .nil [])) (.call 31 (.cons (.slH (.v 3) (.int 2)) (.cons (.int 3) .nil)) .nil [])) .nil) .nil []))
      .nil)
      .nil)
      (.cons (.set [] 4 (.f1 .tuple (.comp (.ix (.v 3) (.v 11)) 11 (.sl (.v 1) (.int 6) (.bin .add (.int 8) (.f1 .int (.ix (.v 1) (.int 5))))))))
      (.cons (.ite (.cmp .le (.v 2) (.int 6))
      (.cons (.set [] 8 (.slH (.v 4) (.bin .add (.int 2) (.bin .mod (.f1 .int (.ix (.v 1) (.int 5))) (.int 3)))))
      (.cons (.set [] 5 (.lst (.cons (.v 8) .nil)))
      (.cons (.for_ 9 (.rng1 (.f1 .len (.v 8)))
      (.cons (.app [] 5 (.call 28 (.cons (.v 8) (.cons (.v 9) (.cons (.bin .add (.int 5) (.bin .mod (.f1 .int (.ix (.v 1) (.int 14))) (.int 4))) .nil))) .nil []))
      (.cons (.app [] 5 (.call 28 (.cons (.v 8) (.cons (.v 9) (.cons (.bin .add (.int 3) (.bin .mod (.f1 .int (.ix (.v 1) (.int 15))) (.int 6))) .nil))) .nil []))
      .nil)) [])
      (.cons (.ret [5] (.call 29 (.cons (.v 5) .nil) .nil []))
      .nil))))
      .nil)
      (.cons (.ite (.cmp .eq (.v 2) (.int 7))
      (.cons (.set [] 10 (.comp (.bin .add (.bin .mul (.tup (.cons (.ix (.v 3) (.int 0)) .nil)) (.f1 .int (.v 12))) (.tup (.cons (.ix (.v 3) (.int 1)) .nil))) 12 (.lst (.cons (.ix (.v 1) (.int 15)) (.cons (.bin .mod (.f1 .int (.bin .add (.ix (.v 1) (.int 15)) (.int 1))) (.int 8)) (.cons (.ix (.v 1) (.int 18)) .nil))))))
      (.cons (.ite (.cmp .gt (.ix (.v 1) (.int 14)) (.int 2))
      (.cons (.set [] 10 (.comp (.bin .add (.bin .add (.bin .mul (.tup (.cons (.ix (.v 3) (.int 0)) .nil)) (.bin .add (.int 2) (.bin .mod (.f1 .int (.ix (.v 1) (.int 15))) (.int 2)))) (.tup (.cons (.ix (.v 3) (.int 1)) .nil))) (.bin .mul (.tup (.cons (.ix (.v 3) (.int 0)) (.cons (.ix (.v 3) (.int 1)) .nil))) (.v 6))) 6 (.rng1 (.int 3))))
      .nil)
      .nil)
      (.cons (.ret [] (.call 29 (.cons (.v 10) .nil) .nil []))
      .nil)))
      .nil)
      (.cons (.set [] 5 (.lst (.cons (.v 4) .nil)))
      (.cons (.for_ 6 (.rng1 (.int 3))
      (.cons (.app [] 5 (.call 33 (.cons (.v 4) (.cons (.ix (.v 1) (.bin .add (.int 14) (.bin .mul (.int 3) (.v 6)))) (.cons (.ix (.v 1) (.bin .add (.int 15) (.bin .mul (.int 3) (.v 6)))) (.cons (.ix (.v 3) (.ix (.v 1) (.bin .add (.int 16) (.bin .mul (.int 3) (.v 6))))) .nil)))) .nil []))
      .nil) [])
      (.cons (.ite (.cmp .ge (.v 2) (.int 10))
      (.cons (.app [] 5 (.call 33 (.cons (.ix (.pk 5) (.int 1)) (.cons (.ix (.v 1) (.int 23)) (.cons (.ix (.v 1) (.int 24)) (.cons (.ix (.v 3) (.ix (.v 1) (.int 25))) .nil)))) .nil []))
      .nil)
      .nil)
      (.cons (.ret [5] (.call 29 (.cons (.v 5) .nil) .nil []))
      .nil)))))))))))))⟩
def d34 : FnD := ⟨"_law_list", ["script"], ["script", "row", "kind", "lot", "base", "rings", "k", "size", "root_v", "house", "few", "name", "many"], [5], fd34, top 51, [(1, [], [])], [], []⟩
/-- _law_cut -/
def fd35 : Fd := ⟨1, 1, (.cons (.ret [] (.mx2 (.neg (.int 999999)) (.mn2 (.int 999999) (.v 0))))
      .nil)⟩
def d35 : FnD := ⟨"_law_cut", ["value"], ["value"], [], fd35, top 52, [(1, [], [])], [], []⟩
/-- _law_part -/
def fd36 : Fd := ⟨3, 3, (.cons (.ite (.cmp .eq (.ix (.v 0) (.int 0)) (.str "number"))
      (.cons (.ret [] (.ix (.v 0) (.int 1)))
      .nil)
      .nil)
      (.cons (.ite (.cmp .eq (.ix (.v 0) (.int 0)) (.str "next"))
      (.cons (.ret [] (.ix (.v 1) (.bin .mod (.f1 .int (.bin .add (.v 2) (.int 1))) (.f1 .len (.v 1)))))
      .nil)
      .nil)
      (.cons (.ite (.cmp .eq (.ix (.v 0) (.int 0)) (.str "ahead"))
      (.cons (.ret [] (.ix (.v 1) (.bin .mod (.f1 .int (.bin .sub (.v 2) (.int 1))) (.f1 .len (.v 1)))))
      .nil)
      .nil)
      (.cons (.ret [] (.ix (.v 1) (.v 2)))
      .nil))))⟩
def d36 : FnD := ⟨"_law_part", ["part", "ring", "house"], ["part", "ring", "house"], [], fd36, top 53, [(3, [], [])], [], []⟩
/-- _law_test -/
def fd37 : Fd := ⟨3, 5, (.cons (.set [] 3 (.call 36 (.cons (.ix (.v 0) (.int 1)) (.cons (.v 1) (.cons (.v 2) .nil))) .nil []))
      (.cons (.ite (.cmp .eq (.ix (.v 0) (.int 0)) (.str "odd"))
      (.cons (.ret [] (.cmp .eq (.bin .mod (.f1 .int (.v 3)) (.int 2)) (.int 1)))
      .nil)
      .nil)
      (.cons (.set [] 4 (.call 36 (.cons (.ix (.v 0) (.int 2)) (.cons (.v 1) (.cons (.v 2) .nil))) .nil []))
      (.cons (.ite (.cmp .eq (.ix (.v 0) (.int 0)) (.str "below"))
      (.cons (.ret [] (.cmp .lt (.v 3) (.v 4)))
      .nil)
      .nil)
      (.cons (.ret [] (.cmp .eq (.v 3) (.v 4)))
      .nil)))))⟩
def d37 : FnD := ⟨"_law_test", ["test", "ring", "house"], ["test", "ring", "house", "one", "two"], [], fd37, top 54, [(3, [], [])], [], []⟩
/-- _law_answer -/
def fd38 : Fd := ⟨2, 7, (.cons (.set [] 2 (.ix (.v 0) (.int 0)))
      (.cons (.ite (.cmp .eq (.v 2) (.str "number"))
      (.cons (.ret [] (.ix (.v 0) (.int 1)))
      .nil)
      .nil)
      (.cons (.ite (.cmp .eq (.v 2) (.str "greatest"))
      (.cons (.ret [] (.f1 .max (.v 1)))
      .nil)
      .nil)
      (.cons (.ite (.cmp .eq (.v 2) (.str "least"))
      (.cons (.ret [] (.f1 .min (.v 1)))
      .nil)
      .nil)
      (.cons (.ite (.cmp .eq (.v 2) (.str "houses"))
      (.cons (.ret [] (.f1 .len (.v 1)))
      .nil)
      .nil)
      (.cons (.ite (.cmp .eq (.v 2) (.str "kinds"))
      (.cons (.ret [] (.f1 .len (.compIf (.v 5) 5 (.rng1 (.f1 .len (.v 1))) (.cmp .nin (.ix (.v 1) (.v 5)) (.slH (.v 1) (.v 5))))))
      .nil)
      .nil)
      (.cons (.ite (.cmp .eq (.v 2) (.str "total"))
      (.cons (.ret [] (.f1 .sum (.v 1)))
      .nil)
      .nil)
      (.cons (.ite (.cmp .eq (.v 2) (.str "count"))
      (.cons (.ret [] (.f1 .len (.compIf (.v 6) 6 (.rng1 (.f1 .len (.v 1))) (.call 37 (.cons (.ix (.v 0) (.int 1)) (.cons (.v 1) (.cons (.v 6) .nil))) .nil []))))
      .nil)
      .nil)
      (.cons (.set [] 3 (.call 38 (.cons (.ix (.v 0) (.int 1)) (.cons (.v 1) .nil)) .nil []))
      (.cons (.set [] 4 (.call 38 (.cons (.ix (.v 0) (.int 2)) (.cons (.v 1) .nil)) .nil []))
      (.cons (.ite (.cmp .eq (.v 2) (.str "choose"))
      (.cons (.ite (.cmp .ne (.v 3) (.int 0))
      (.cons (.ret [] (.v 4))
      .nil)
      .nil)
      (.cons (.ret [] (.call 38 (.cons (.ix (.v 0) (.int 3)) (.cons (.v 1) .nil)) .nil []))
      .nil))
      .nil)
      (.cons (.ite (.cmp .eq (.v 2) (.str "plus"))
      (.cons (.ret [] (.call 35 (.cons (.bin .add (.v 3) (.v 4)) .nil) .nil []))
      .nil)
      .nil)
      (.cons (.ite (.cmp .eq (.v 2) (.str "minus"))
      (.cons (.ret [] (.call 35 (.cons (.bin .sub (.v 3) (.v 4)) .nil) .nil []))
      .nil)
      .nil)
      (.cons (.ite (.cmp .eq (.v 2) (.str "times"))
      (.cons (.ret [] (.call 35 (.cons (.bin .mul (.v 3) (.v 4)) .nil) .nil []))
      .nil)
      .nil)
      (.cons (.ite (.cmp .eq (.v 2) (.str "rest"))
      (.cons (.ite (.cmp .gt (.v 4) (.int 0))
      (.cons (.ret [] (.bin .mod (.f1 .int (.v 3)) (.v 4)))
      .nil)
      .nil)
      (.cons (.ret [] (.int 0))
      .nil))
      .nil)
      (.cons (.ite (.cmp .eq (.v 2) (.str "less"))
      (.cons (.ret [] (.f1 .int (.cmp .lt (.v 3) (.v 4))))
      .nil)
      .nil)
      (.cons (.ret [] (.f1 .int (.cmp .eq (.v 3) (.v 4))))
      .nil)))))))))))))))))⟩
def d38 : FnD := ⟨"_law_answer", ["question", "ring"], ["question", "ring", "word", "one", "two", "k", "house"], [], fd38, top 55, [(2, [], [])], [], []⟩
/-- _law_question -/
def fd39 : Fd := ⟨1, 3, (.cons (.set [] 1 (.bin .mod (.f1 .int (.ix (.v 0) (.int 0))) (.int 18)))
      (.cons (.set [] 2 (.tup (.cons (.str "number") (.cons (.bin .add (.int 1) (.bin .mod (.f1 .int (.ix (.v 0) (.int 1))) (.int 6))) .nil))))
      (.cons (.ite (.cmp .le (.v 1) (.int 3))
      (.cons (.ret [] (.tup (.cons (.str "greatest") .nil)))
      .nil)
      .nil)
      (.cons (.ite (.cmp .eq (.v 1) (.int 4))
      (.cons (.ret [] (.tup (.cons (.str "least") .nil)))
      .nil)
      .nil)
      (.cons (.ite (.cmp .le (.v 1) (.int 6))
      (.cons (.ret [] (.tup (.cons (.str "houses") .nil)))
      .nil)
      .nil)
      (.cons (.ite (.cmp .eq (.v 1) (.int 7))
      (.cons (.ret [] (.tup (.cons (.str "total") .nil)))
      .nil)
      .nil)
      (.cons (.ite (.cmp .eq (.v 1) (.int 8))
      (.cons (.ret [] (.tup (.cons (.str "less") (.cons (.v 2) (.cons (.tup (.cons (.str "greatest") .nil)) .nil)))))
      .nil)
      .nil)
      (.cons (.ite (.cmp .eq (.v 1) (.int 9))
      (.cons (.ret [] (.tup (.cons (.str "count") (.cons (.tup (.cons (.str "odd") (.cons (.tup (.cons (.str "me") .nil)) .nil))) .nil))))
      .nil)
      .nil)
      (.cons (.ite (.cmp .eq (.v 1) (.int 10))
      (.cons (.ret [] (.tup (.cons (.str "count") (.cons (.tup (.cons (.str "below") (.cons (.tup (.cons (.str "me") .nil)) (.cons (.tup (.cons (.str "next") .nil)) .nil)))) .nil))))
      .nil)
      .nil)
      (.cons (.ite (.cmp .eq (.v 1) (.int 11))
      (.cons (.ret [] (.tup (.cons (.str "rest") (.cons (.tup (.cons (.str "total") .nil)) (.cons (.tup (.cons (.str "number") (.cons (.bin .add (.int 2) (.bin .mod (.f1 .int (.ix (.v 0) (.int 1))) (.int 3))) .nil))) .nil)))))
      .nil)
      .nil)
      (.cons (.ite (.cmp .eq (.v 1) (.int 12))
      (.cons (.ret [] (.tup (.cons (.str "plus") (.cons (.tup (.cons (.str "times") (.cons (.tup (.cons (.str "greatest") .nil)) (.cons (.tup (.cons (.str "number") (.cons (.int 3) .nil))) .nil)))) (.cons (.tup (.cons (.str "houses") .nil)) .nil)))))
      .nil)
      .nil)
      (.cons (.ite (.cmp .eq (.v 1) (.int 13))
      (.cons (.ret [] (.tup (.cons (.str "kinds") .nil)))
      .nil)
      .nil)
      (.cons (.ite (.cmp .eq (.v 1) (.int 14))
      (.cons (.ret [] (.tup (.cons (.str "choose") (.cons (.tup (.cons (.str "less") (.cons (.tup (.cons (.str "houses") .nil)) (.cons (.tup (.cons (.str "number") (.cons (.bin .add (.int 2) (.bin .mod (.f1 .int (.ix (.v 0) (.int 2))) (.int 3))) .nil))) .nil)))) (.cons (.tup (.cons (.str "least") .nil)) (.cons (.tup (.cons (.str "greatest") .nil)) .nil))))))
      .nil)
      .nil)
      (.cons (.ite (.cmp .eq (.v 1) (.int 15))
      (.cons (.ret [] (.tup (.cons (.str "same") (.cons (.tup (.cons (.str "count") (.cons (.tup (.cons (.str "alike") (.cons (.tup (.cons (.str "ahead") .nil)) (.cons (.tup (.cons (.str "next") .nil)) .nil)))) .nil))) (.cons (.tup (.cons (.str "minus") (.cons (.tup (.cons (.str "houses") .nil)) (.cons (.tup (.cons (.str "kinds") .nil)) .nil)))) .nil)))))
      .nil)
      .nil)
      (.cons (.ite (.cmp .eq (.v 1) (.int 16))
      (.cons (.ret [] (.tup (.cons (.str "minus") (.cons (.tup (.cons (.str "greatest") .nil)) (.cons (.tup (.cons (.str "least") .nil)) .nil)))))
      .nil)
      .nil)
      (.cons (.ret [] (.v 2))
      .nil))))))))))))))))⟩
def d39 : FnD := ⟨"_law_question", ["row"], ["row", "kind", "low"], [], fd39, top 56, [(1, [], [])], [], []⟩
/-- _law_settle -/
def fd40 : Fd := ⟨3, 10, (.cons (.set [] 3 .dT)
      (.cons (.for_ 4 (.v 0)
      (.cons (.set [] 5 (.call 38 (.cons (.v 1) (.cons (.v 4) .nil)) .nil []))
      (.cons (.for_ 6 (.rng1 (.f1 .len (.v 4)))
      (.cons (.set [] 7 (.call 28 (.cons (.v 4) (.cons (.v 6) (.cons (.v 2) .nil))) .nil []))
      (.cons (.for_ 8 (.rng2 (.int 1) (.bin .add (.v 2) (.int 1)))
      (.cons (.set [] 9 (.slL (.v 7) (.bin .sub (.v 2) (.v 8))))
      (.cons (.ite (.cmp .nin (.v 9) (.pk 3))
      (.cons (.put [] 3 (.v 9) (.tup (.cons (.bool true) (.cons (.v 5) .nil))))
      .nil)
      (.cons (.ite (.cmp .ne (.ix (.ix (.pk 3) (.v 9)) (.int 1)) (.v 5))
      (.cons (.put [] 3 (.v 9) (.tup (.cons (.bool false) (.cons (.ix (.ix (.pk 3) (.v 9)) (.int 1)) .nil))))
      .nil)
      .nil)
      .nil))
      .nil)) [])
      .nil)) [])
      .nil)) [])
      (.cons (.ret [3] (.v 3))
      .nil)))⟩
def d40 : FnD := ⟨"_law_settle", ["rings", "question", "longest"], ["rings", "question", "longest", "known", "ring", "due", "house", "whole", "length", "row"], [3], fd40, top 57, [(3, [], [])], [], []⟩
/-- _law_firsts -/
def fd41 : Fd := ⟨2, 6, (.cons (.set [] 2 (.lst .nil))
      (.cons (.for_ 3 (.rng1 (.f1 .len (.v 0)))
      (.cons (.set [] 4 .none)
      (.cons (.for_ 5 (.rng2 (.int 1) (.int 17))
      (.cons (.ite (.ix (.ix (.v 1) (.call 28 (.cons (.v 0) (.cons (.v 3) (.cons (.v 5) .nil))) .nil [])) (.int 0))
      (.cons (.set [] 4 (.v 5))
      (.cons .brk
      .nil))
      .nil)
      .nil) [])
      (.cons (.app [] 2 (.v 4))
      .nil))) [])
      (.cons (.ret [2] (.v 2))
      .nil)))⟩
def d41 : FnD := ⟨"_law_firsts", ["ring", "known"], ["ring", "known", "found", "house", "best", "length"], [2], fd41, top 58, [(2, [], [])], [], []⟩
/-- _law_dues -/
def fd42 : Fd := ⟨3, 8, (.cons (.set [] 3 (.lst .nil))
      (.cons (.for_ 4 (.v 0)
      (.cons (.set [] 5 (.call 41 (.cons (.v 4) (.cons (.v 1) .nil)) .nil []))
      (.cons (.set [] 6 (.compIf (.v 7) 7 (.v 5) (.notN (.v 7))))
      (.cons (.ite (.or (.cons (.cmp .eq (.f1 .len (.v 6)) (.int 0)) (.cons (.and (.cons (.cmp .eq (.v 2) (.str "all")) (.cons (.cmp .isin .none (.v 5)) .nil))) .nil)))
      (.cons (.app [] 3 .none)
      .nil)
      (.cons (.ite (.cmp .eq (.v 2) (.str "all"))
      (.cons (.app [] 3 (.f1 .max (.v 6)))
      .nil)
      (.cons (.app [] 3 (.f1 .min (.v 6)))
      .nil))
      .nil))
      .nil))) [])
      (.cons (.ret [3] (.v 3))
      .nil)))⟩
def d42 : FnD := ⟨"_law_dues", ["rings", "known", "word"], ["rings", "known", "word", "dues", "ring", "found", "lengths", "length"], [3], fd42, top 59, [(3, [], [])], [], []⟩
/-- _law_pair -/
def fd43 : Fd := ⟨2, 8, (.cons (.set [] 2 (.comp (.f1 .min (.comp (.call 28 (.cons (.v 6) (.cons (.v 7) (.cons (.int 24) .nil))) .nil []) 7 (.rng1 (.f1 .len (.v 6))))) 6 (.v 0)))
      (.cons (.set [] 3 (.comp (.call 38 (.cons (.v 1) (.cons (.v 6) .nil)) .nil []) 6 (.v 0)))
      (.cons (.for_ 4 (.rng1 (.f1 .len (.v 0)))
      (.cons (.for_ 5 (.rng1 (.f1 .len (.v 0)))
      (.cons (.ite (.and (.cons (.cmp .eq (.ix (.v 2) (.v 4)) (.ix (.v 2) (.v 5))) (.cons (.cmp .ne (.ix (.v 3) (.v 4)) (.ix (.v 3) (.v 5))) .nil)))
      (.cons (.ret [] (.tup (.cons (.ix (.v 0) (.v 4)) (.cons (.ix (.v 0) (.v 5)) .nil))))
      .nil)
      .nil)
      .nil) [])
      .nil) [])
      (.cons (.ret [] .none)
      .nil))))⟩
def d43 : FnD := ⟨"_law_pair", ["rings", "question"], ["rings", "question", "windings", "answers", "one", "two", "ring", "house"], [], fd43, top 60, [(2, [], [])], [], []⟩
/-- _law_is -/
def fd44 : Fd := ⟨2, 2, (.cons (.ite (.isN (.v 1))
      (.cons (.ret [] (.isN (.v 0)))
      .nil)
      .nil)
      (.cons (.ret [] (.and (.cons (.call 23 (.cons (.v 0) .nil) .nil []) (.cons (.cmp .eq (.v 0) (.v 1)) .nil))))
      .nil))⟩
def d44 : FnD := ⟨"_law_is", ["value", "due"], ["value", "due"], [], fd44, top 61, [(2, [], [])], [], []⟩
/-- _law_rounds_hold -/
def fd45 : Fd := ⟨5, 7, (.cons (.try_ (.cons (.set [] 6 (.call 22 (.cons (.v 0) (.cons (.v 1) .nil)) (.cons (.v 2) .nil) []))
      .nil)
      2 5 (.iff (.or (.cons (.not (.isaC 0 "RingError")) (.cons (.isaC 3 "TooSoon") .nil))) (.bool false) (.iff (.or (.cons (.isaC 4 "GoesRound") (.cons (.isaC 1 "TooManyCases") (.cons (.not (.isaC 5 "ValueError")) .nil)))) (.bool false) (.ret (.and (.cons (.notN (.v 3)) (.cons (.isa .tuple (.fld 2 "one")) (.cons (.cmp .eq (.tup (.cons (.fld 2 "one") (.cons (.fld 2 "two") .nil))) (.v 3)) .nil))))))))
      (.cons (.ret [] (.and (.cons (.isN (.v 3)) (.cons (.call 44 (.cons (.v 6) (.cons (.f1 .max (.v 4)) .nil)) .nil []) .nil))))
      .nil))⟩
def d45 : FnD := ⟨"_law_rounds_hold", ["rings", "question", "word", "pair", "dues"], ["rings", "question", "word", "pair", "dues", "e", "rounds"], [], fd45, top 62, [(5, [], [])], [], []⟩
/-- _law_list_holds -/
def fd46 : Fd := ⟨3, 9, (.cons (.set [] 3 (.call 40 (.cons (.v 0) (.cons (.v 1) (.cons (.int 16) .nil))) .nil []))
      (.cons (.set [] 4 (.call 43 (.cons (.v 0) (.cons (.v 1) .nil)) .nil []))
      (.cons (.for_ 5 (.lst (.cons (.str "some") (.cons (.str "all") .nil)))
      (.cons (.set [] 6 (.call 42 (.cons (.v 0) (.cons (.v 3) (.cons (.v 5) .nil))) .nil []))
      (.cons (.for_ 7 (.v 2)
      (.cons (.set [] 8 (.bin .mod (.f1 .int (.v 7)) (.f1 .len (.v 0))))
      (.cons (.ite (.not (.call 44 (.cons (.call 21 (.cons (.ix (.v 0) (.v 8)) (.cons (.v 0) (.cons (.v 1) .nil))) (.cons (.v 5) .nil) []) (.cons (.ix (.v 6) (.v 8)) .nil)) .nil []))
      (.cons (.ret [] (.bool false))
      .nil)
      .nil)
      (.cons (.ite (.and (.cons (.cmp .eq (.v 5) (.str "some")) (.cons (.not (.call 44 (.cons (.call 21 (.cons (.ix (.v 0) (.v 8)) (.cons (.v 0) (.cons (.v 1) .nil))) .nil [(PyData.str "some")]) (.cons (.ix (.v 6) (.v 8)) .nil)) .nil [])) .nil)))
      (.cons (.ret [] (.bool false))
      .nil)
      .nil)
      .nil))) [])
      (.cons (.ite (.not (.call 45 (.cons (.v 0) (.cons (.v 1) (.cons (.v 5) (.cons (.v 4) (.cons (.v 6) .nil))))) .nil []))
      (.cons (.ret [] (.bool false))
      .nil)
      .nil)
      .nil))) [])
      (.cons (.ite (.notN (.v 4))
      (.cons (.ret [] (.bool true))
      .nil)
      .nil)
      (.cons (.ret [] (.call 44 (.cons (.call 22 (.cons (.v 0) (.cons (.v 1) .nil)) .nil [(PyData.str "some")]) (.cons (.f1 .max (.call 42 (.cons (.v 0) (.cons (.v 3) (.cons (.str "some") .nil))) .nil [])) .nil)) .nil []))
      .nil)))))⟩
def d46 : FnD := ⟨"_law_list_holds", ["rings", "question", "places"], ["rings", "question", "places", "known", "pair", "word", "dues", "place", "at"], [], fd46, top 63, [(3, [], [])], [], []⟩
/-- law -/
def fd47 : Fd := ⟨1, 12, (.cons (.set [] 1 (.call 34 (.cons (.v 0) .nil) .nil []))
      (.cons (.set [] 2 (.call 39 (.cons (.call 25 (.cons (.call 24 (.cons (.v 0) (.cons (.int 1) .nil)) .nil []) (.cons (.lst (.cons (.int 18) (.cons (.int 6) (.cons (.int 6) .nil)))) .nil)) .nil []) .nil) .nil []))
      (.cons (.set [] 3 (.call 25 (.cons (.call 24 (.cons (.v 0) (.cons (.int 2) .nil)) .nil []) (.cons (.lst (.cons (.int 24) (.cons (.int 24) (.cons (.int 24) (.cons (.int 4) (.cons (.int 4) (.cons (.int 24) (.cons (.int 4) .nil)))))))) .nil)) .nil []))
      (.cons (.set [] 4 (.ix (.lst (.cons (.tup (.cons (.str "houses") .nil)) (.cons (.tup (.cons (.str "total") .nil)) (.cons (.tup (.cons (.str "plus") (.cons (.tup (.cons (.str "total") .nil)) (.cons (.tup (.cons (.str "houses") .nil)) .nil)))) (.cons (.tup (.cons (.str "minus") (.cons (.tup (.cons (.str "houses") .nil)) (.cons (.tup (.cons (.str "least") .nil)) .nil)))) .nil))))) (.ix (.v 3) (.int 4))))
      (.cons (.ite (.and (.cons (.chain .le .le (.int 5) (.ix (.call 25 (.cons (.call 24 (.cons (.v 0) (.cons (.int 0) .nil)) .nil []) (.cons (.lst (.cons (.int 12) .nil)) .nil)) .nil []) (.int 0)) (.int 7)) (.cons (.cmp .gt (.ix (.v 3) (.int 6)) (.int 0)) .nil)))
      (.cons (.set [] 2 (.v 4))
      .nil)
      .nil)
      (.cons (.set [] 5 (.call 21 (.cons (.ix (.v 1) (.bin .mod (.f1 .int (.ix (.v 3) (.int 0))) (.f1 .len (.v 1)))) (.cons (.v 1) (.cons (.v 2) .nil))) (.cons (.str "all") .nil) []))
      (.cons (.ite (.not (.call 46 (.cons (.v 1) (.cons (.v 2) (.cons (.slH (.v 3) (.int 2)) .nil))) .nil []))
      (.cons (.ret [] (.bool false))
      .nil)
      .nil)
      (.cons (.set [] 6 (.slH (.ix (.v 1) (.bin .mod (.f1 .int (.ix (.v 3) (.int 5))) (.f1 .len (.v 1)))) (.bin .add (.int 1) (.f1 .int (.ix (.v 3) (.int 3))))))
      (.cons (.set [] 7 (.bin .add (.f1 .max (.v 6)) (.int 1)))
      (.cons (.set [] 8 (.tup (.cons (.str "greatest") .nil)))
      (.cons (.ite (.cmp .gt (.v 7) (.int 999))
      (.cons (.set [] 7 (.bin .sub (.f1 .min (.v 6)) (.int 1)))
      (.cons (.set [] 8 (.tup (.cons (.str "least") .nil)))
      .nil))
      .nil)
      (.cons (.set [] 9 (.comp (.ix (.v 1) (.bin .mod (.f1 .int (.v 11)) (.f1 .len (.v 1)))) 11 (.slH (.v 3) (.int 3))))
      (.cons (.set [] 9 (.call 29 (.cons (.bin .add (.v 9) (.lst (.cons (.v 6) (.cons (.bin .add (.v 6) (.v 6)) (.cons (.bin .add (.v 6) (.tup (.cons (.v 7) .nil))) .nil))))) .nil) .nil []))
      (.cons (.set [] 10 (.index (.v 9) (.call 27 (.cons (.v 6) .nil) .nil [])))
      (.cons (.ite (.or (.cons (.not (.call 46 (.cons (.v 9) (.cons (.v 4) (.cons (.lst (.cons (.v 10) (.cons (.ix (.v 3) (.int 1)) .nil))) .nil))) .nil [])) (.cons (.not (.call 46 (.cons (.v 9) (.cons (.v 8) (.cons (.lst (.cons (.v 10) .nil)) .nil))) .nil [])) .nil)))
      (.cons (.ret [] (.bool false))
      .nil)
      .nil)
      (.cons (.ret [] (.call 44 (.cons (.call 21 (.cons (.ix (.v 1) (.bin .mod (.f1 .int (.ix (.v 3) (.int 0))) (.f1 .len (.v 1)))) (.cons (.v 1) (.cons (.v 2) .nil))) (.cons (.str "all") .nil) []) (.cons (.v 5) .nil)) .nil []))
      .nil))))))))))))))))⟩
def d47 : FnD := ⟨"law", ["script"], ["script", "rings", "question", "head", "parted", "first", "stem", "more", "changed", "few", "at", "place"], [], fd47, top 64, [], [], []⟩
def defs : List FnD := [d0, d1, d2, d3, d4, d5, d6, d7, d8, d9, d10, d11, d12, d13, d14, d15, d16, d17, d18, d19, d20, d21, d22, d23, d24, d25, d26, d27, d28, d29, d30, d31, d32, d33, d34, d35, d36, d37, d38, d39, d40, d41, d42, d43, d44, d45, d46, d47]
def T (f : Nat) : Option FnD := defs[f]?
def XT (k : Nat) : Option Xc := ([⟨"RingError", [], false⟩, ⟨"TooManyCases", ["count"], false⟩, ⟨"NotClear", ["one", "two"], true⟩, ⟨"TooSoon", ["ring", "house"], false⟩, ⟨"GoesRound", ["ring"], false⟩, ⟨"ValueError", [], false⟩] : List Xc)[k]?
def G : Gls where
  g := fun x => ([("LIMIT", (PyData.int 999999)), ("MOST_FIRST", (PyData.int 14)), ("MOST_FIRST_AT", (PyData.int 21))] : List (Str × PyData)).lookup x
  sub := fun x k => match ([("RingError", [0, 5]), ("TooManyCases", [1, 0, 5]), ("NotClear", [2, 0, 5]), ("TooSoon", [3, 0, 5]), ("GoesRound", [4, 0, 5]), ("ValueError", [5])] : List (Str × List Nat)).lookup x with
    | some l => l.contains k
    | none => false
  id := fun x => ([("RingError", 0), ("TooManyCases", 1), ("NotClear", 2), ("TooSoon", 3), ("GoesRound", 4), ("ValueError", 5)] : List (Str × Nat)).lookup x
def KF : List Str := ["_law_key"]
-- bad: {}
theorem cks : (List.range 48).all (fun k => (T k).all fun i => ckF T G KF XT i) = true := by decide +kernel
end PV.G77
end
section
set_option Elab.async false
set_option linter.all false
set_option maxRecDepth 100000
set_option maxHeartbeats 0
namespace PV.G77
open PySem PySem.Spec PyProof.Rows L2 PV
def mkD (i : FnD) : He.DefD := ⟨(i.name, none), i.name, i.name, defArgs i.st, defBody i.st, defScope i.st, i.dfl, i.kwd⟩
theorem sh0 {K : W.Frag} {f : Addr} {fd : FuncData} (F : FunD K d0.name d0.name (defArgs d0.st) (defBody d0.st) (defScope d0.st) ((mkD d0).dvs K) ((mkD d0).kws K) f fd) : ∀ sh ∈ d0.shapes, BindOk K fd d0.ps sh :=
  List.forall_mem_cons.mpr ⟨bind_all F 2 [] (fun kV doc pm an cdv ct us ws h1 h2 => match us, ws, h1, h2 with | [_, _], [], _, _ => rfl), List.forall_mem_nil _⟩
theorem sh1 {K : W.Frag} {f : Addr} {fd : FuncData} (F : FunD K d1.name d1.name (defArgs d1.st) (defBody d1.st) (defScope d1.st) ((mkD d1).dvs K) ((mkD d1).kws K) f fd) : ∀ sh ∈ d1.shapes, BindOk K fd d1.ps sh :=
  List.forall_mem_cons.mpr ⟨bind_all F 1 [] (fun kV doc pm an cdv ct us ws h1 h2 => match us, ws, h1, h2 with | [_], [], _, _ => rfl), List.forall_mem_nil _⟩
theorem sh2 {K : W.Frag} {f : Addr} {fd : FuncData} (F : FunD K d2.name d2.name (defArgs d2.st) (defBody d2.st) (defScope d2.st) ((mkD d2).dvs K) ((mkD d2).kws K) f fd) : ∀ sh ∈ d2.shapes, BindOk K fd d2.ps sh :=
  List.forall_mem_cons.mpr ⟨bind_all F 1 [] (fun kV doc pm an cdv ct us ws h1 h2 => match us, ws, h1, h2 with | [_], [], _, _ => rfl), List.forall_mem_nil _⟩
theorem sh3 {K : W.Frag} {f : Addr} {fd : FuncData} (F : FunD K d3.name d3.name (defArgs d3.st) (defBody d3.st) (defScope d3.st) ((mkD d3).dvs K) ((mkD d3).kws K) f fd) : ∀ sh ∈ d3.shapes, BindOk K fd d3.ps sh :=
  List.forall_mem_cons.mpr ⟨bind_all F 3 [] (fun kV doc pm an cdv ct us ws h1 h2 => match us, ws, h1, h2 with | [_, _, _], [], _, _ => rfl), List.forall_mem_nil _⟩
theorem sh4 {K : W.Frag} {f : Addr} {fd : FuncData} (F : FunD K d4.name d4.name (defArgs d4.st) (defBody d4.st) (defScope d4.st) ((mkD d4).dvs K) ((mkD d4).kws K) f fd) : ∀ sh ∈ d4.shapes, BindOk K fd d4.ps sh :=
  List.forall_mem_cons.mpr ⟨bind_all F 2 [] (fun kV doc pm an cdv ct us ws h1 h2 => match us, ws, h1, h2 with | [_, _], [], _, _ => rfl), List.forall_mem_nil _⟩
theorem sh5 {K : W.Frag} {f : Addr} {fd : FuncData} (F : FunD K d5.name d5.name (defArgs d5.st) (defBody d5.st) (defScope d5.st) ((mkD d5).dvs K) ((mkD d5).kws K) f fd) : ∀ sh ∈ d5.shapes, BindOk K fd d5.ps sh :=
  List.forall_mem_cons.mpr ⟨bind_all F 1 [] (fun kV doc pm an cdv ct us ws h1 h2 => match us, ws, h1, h2 with | [_], [], _, _ => rfl), List.forall_mem_nil _⟩
theorem sh6 {K : W.Frag} {f : Addr} {fd : FuncData} (F : FunD K d6.name d6.name (defArgs d6.st) (defBody d6.st) (defScope d6.st) ((mkD d6).dvs K) ((mkD d6).kws K) f fd) : ∀ sh ∈ d6.shapes, BindOk K fd d6.ps sh :=
  List.forall_mem_cons.mpr ⟨bind_all F 2 [] (fun kV doc pm an cdv ct us ws h1 h2 => match us, ws, h1, h2 with | [_, _], [], _, _ => rfl), List.forall_mem_nil _⟩
theorem sh7 {K : W.Frag} {f : Addr} {fd : FuncData} (F : FunD K d7.name d7.name (defArgs d7.st) (defBody d7.st) (defScope d7.st) ((mkD d7).dvs K) ((mkD d7).kws K) f fd) : ∀ sh ∈ d7.shapes, BindOk K fd d7.ps sh :=
  List.forall_mem_cons.mpr ⟨bind_all F 3 [] (fun kV doc pm an cdv ct us ws h1 h2 => match us, ws, h1, h2 with | [_, _, _], [], _, _ => rfl), List.forall_mem_nil _⟩
theorem sh8 {K : W.Frag} {f : Addr} {fd : FuncData} (F : FunD K d8.name d8.name (defArgs d8.st) (defBody d8.st) (defScope d8.st) ((mkD d8).dvs K) ((mkD d8).kws K) f fd) : ∀ sh ∈ d8.shapes, BindOk K fd d8.ps sh :=
  List.forall_mem_cons.mpr ⟨bind_all F 3 [] (fun kV doc pm an cdv ct us ws h1 h2 => match us, ws, h1, h2 with | [_, _, _], [], _, _ => rfl), List.forall_mem_nil _⟩
theorem sh9 {K : W.Frag} {f : Addr} {fd : FuncData} (F : FunD K d9.name d9.name (defArgs d9.st) (defBody d9.st) (defScope d9.st) ((mkD d9).dvs K) ((mkD d9).kws K) f fd) : ∀ sh ∈ d9.shapes, BindOk K fd d9.ps sh :=
  List.forall_mem_cons.mpr ⟨bind_all F 2 [] (fun kV doc pm an cdv ct us ws h1 h2 => match us, ws, h1, h2 with | [_, _], [], _, _ => rfl), List.forall_mem_nil _⟩
theorem sh10 {K : W.Frag} {f : Addr} {fd : FuncData} (F : FunD K d10.name d10.name (defArgs d10.st) (defBody d10.st) (defScope d10.st) ((mkD d10).dvs K) ((mkD d10).kws K) f fd) : ∀ sh ∈ d10.shapes, BindOk K fd d10.ps sh :=
  List.forall_mem_cons.mpr ⟨bind_all F 3 [] (fun kV doc pm an cdv ct us ws h1 h2 => match us, ws, h1, h2 with | [_, _, _], [], _, _ => rfl), List.forall_mem_nil _⟩
theorem sh11 {K : W.Frag} {f : Addr} {fd : FuncData} (F : FunD K d11.name d11.name (defArgs d11.st) (defBody d11.st) (defScope d11.st) ((mkD d11).dvs K) ((mkD d11).kws K) f fd) : ∀ sh ∈ d11.shapes, BindOk K fd d11.ps sh :=
  List.forall_mem_cons.mpr ⟨bind_all F 2 [] (fun kV doc pm an cdv ct us ws h1 h2 => match us, ws, h1, h2 with | [_, _], [], _, _ => rfl), List.forall_mem_nil _⟩
theorem sh12 {K : W.Frag} {f : Addr} {fd : FuncData} (F : FunD K d12.name d12.name (defArgs d12.st) (defBody d12.st) (defScope d12.st) ((mkD d12).dvs K) ((mkD d12).kws K) f fd) : ∀ sh ∈ d12.shapes, BindOk K fd d12.ps sh :=
  List.forall_mem_cons.mpr ⟨bind_all F 3 [] (fun kV doc pm an cdv ct us ws h1 h2 => match us, ws, h1, h2 with | [_, _, _], [], _, _ => rfl), List.forall_mem_nil _⟩
theorem sh13 {K : W.Frag} {f : Addr} {fd : FuncData} (F : FunD K d13.name d13.name (defArgs d13.st) (defBody d13.st) (defScope d13.st) ((mkD d13).dvs K) ((mkD d13).kws K) f fd) : ∀ sh ∈ d13.shapes, BindOk K fd d13.ps sh :=
  List.forall_mem_cons.mpr ⟨bind_all F 2 [] (fun kV doc pm an cdv ct us ws h1 h2 => match us, ws, h1, h2 with | [_, _], [], _, _ => rfl), List.forall_mem_nil _⟩
theorem sh14 {K : W.Frag} {f : Addr} {fd : FuncData} (F : FunD K d14.name d14.name (defArgs d14.st) (defBody d14.st) (defScope d14.st) ((mkD d14).dvs K) ((mkD d14).kws K) f fd) : ∀ sh ∈ d14.shapes, BindOk K fd d14.ps sh :=
  List.forall_mem_cons.mpr ⟨bind_all F 3 [] (fun kV doc pm an cdv ct us ws h1 h2 => match us, ws, h1, h2 with | [_, _, _], [], _, _ => rfl), List.forall_mem_nil _⟩
theorem sh15 {K : W.Frag} {f : Addr} {fd : FuncData} (F : FunD K d15.name d15.name (defArgs d15.st) (defBody d15.st) (defScope d15.st) ((mkD d15).dvs K) ((mkD d15).kws K) f fd) : ∀ sh ∈ d15.shapes, BindOk K fd d15.ps sh :=
  List.forall_mem_cons.mpr ⟨bind_all F 3 [] (fun kV doc pm an cdv ct us ws h1 h2 => match us, ws, h1, h2 with | [_, _, _], [], _, _ => rfl), List.forall_mem_nil _⟩
theorem sh16 {K : W.Frag} {f : Addr} {fd : FuncData} (F : FunD K d16.name d16.name (defArgs d16.st) (defBody d16.st) (defScope d16.st) ((mkD d16).dvs K) ((mkD d16).kws K) f fd) : ∀ sh ∈ d16.shapes, BindOk K fd d16.ps sh :=
  List.forall_mem_cons.mpr ⟨bind_all F 4 [] (fun kV doc pm an cdv ct us ws h1 h2 => match us, ws, h1, h2 with | [_, _, _, _], [], _, _ => rfl), List.forall_mem_nil _⟩
theorem sh17 {K : W.Frag} {f : Addr} {fd : FuncData} (F : FunD K d17.name d17.name (defArgs d17.st) (defBody d17.st) (defScope d17.st) ((mkD d17).dvs K) ((mkD d17).kws K) f fd) : ∀ sh ∈ d17.shapes, BindOk K fd d17.ps sh :=
  List.forall_mem_cons.mpr ⟨bind_all F 1 [] (fun kV doc pm an cdv ct us ws h1 h2 => match us, ws, h1, h2 with | [_], [], _, _ => rfl), List.forall_mem_nil _⟩
theorem sh18 {K : W.Frag} {f : Addr} {fd : FuncData} (F : FunD K d18.name d18.name (defArgs d18.st) (defBody d18.st) (defScope d18.st) ((mkD d18).dvs K) ((mkD d18).kws K) f fd) : ∀ sh ∈ d18.shapes, BindOk K fd d18.ps sh :=
  List.forall_mem_cons.mpr ⟨bind_all F 2 [] (fun kV doc pm an cdv ct us ws h1 h2 => match us, ws, h1, h2 with | [_, _], [], _, _ => rfl), List.forall_mem_nil _⟩
theorem sh19 {K : W.Frag} {f : Addr} {fd : FuncData} (F : FunD K d19.name d19.name (defArgs d19.st) (defBody d19.st) (defScope d19.st) ((mkD d19).dvs K) ((mkD d19).kws K) f fd) : ∀ sh ∈ d19.shapes, BindOk K fd d19.ps sh :=
  List.forall_mem_cons.mpr ⟨bind_all F 1 [] (fun kV doc pm an cdv ct us ws h1 h2 => match us, ws, h1, h2 with | [_], [], _, _ => rfl), List.forall_mem_nil _⟩
theorem sh20 {K : W.Frag} {f : Addr} {fd : FuncData} (F : FunD K d20.name d20.name (defArgs d20.st) (defBody d20.st) (defScope d20.st) ((mkD d20).dvs K) ((mkD d20).kws K) f fd) : ∀ sh ∈ d20.shapes, BindOk K fd d20.ps sh :=
  List.forall_mem_cons.mpr ⟨bind_all F 3 [] (fun kV doc pm an cdv ct us ws h1 h2 => match us, ws, h1, h2 with | [_, _, _], [], _, _ => rfl), List.forall_mem_nil _⟩
theorem sh21 {K : W.Frag} {f : Addr} {fd : FuncData} (F : FunD K d21.name d21.name (defArgs d21.st) (defBody d21.st) (defScope d21.st) ((mkD d21).dvs K) ((mkD d21).kws K) f fd) : ∀ sh ∈ d21.shapes, BindOk K fd d21.ps sh :=
  List.forall_mem_cons.mpr ⟨bind_all F 3 ["told"] (fun kV doc pm an cdv ct us ws h1 h2 => match us, ws, h1, h2 with | [_, _, _], [_], _, _ => rfl), List.forall_mem_cons.mpr ⟨bind_kwd F 3 [(PyData.str "some")] (List.cons_ne_nil _ _) rfl rfl (fun D doc pm an cdv ct us ks h1 h2 => match us, ks, h1, h2 with | [_, _, _], [_], _, _ => ⟨_, _, _, _, _, _, rfl, rfl, rfl⟩), List.forall_mem_nil _⟩⟩
theorem sh22 {K : W.Frag} {f : Addr} {fd : FuncData} (F : FunD K d22.name d22.name (defArgs d22.st) (defBody d22.st) (defScope d22.st) ((mkD d22).dvs K) ((mkD d22).kws K) f fd) : ∀ sh ∈ d22.shapes, BindOk K fd d22.ps sh :=
  List.forall_mem_cons.mpr ⟨bind_all F 2 ["told"] (fun kV doc pm an cdv ct us ws h1 h2 => match us, ws, h1, h2 with | [_, _], [_], _, _ => rfl), List.forall_mem_cons.mpr ⟨bind_kwd F 2 [(PyData.str "some")] (List.cons_ne_nil _ _) rfl rfl (fun D doc pm an cdv ct us ks h1 h2 => match us, ks, h1, h2 with | [_, _], [_], _, _ => ⟨_, _, _, _, _, _, rfl, rfl, rfl⟩), List.forall_mem_nil _⟩⟩
theorem sh23 {K : W.Frag} {f : Addr} {fd : FuncData} (F : FunD K d23.name d23.name (defArgs d23.st) (defBody d23.st) (defScope d23.st) ((mkD d23).dvs K) ((mkD d23).kws K) f fd) : ∀ sh ∈ d23.shapes, BindOk K fd d23.ps sh :=
  List.forall_mem_cons.mpr ⟨bind_all F 1 [] (fun kV doc pm an cdv ct us ws h1 h2 => match us, ws, h1, h2 with | [_], [], _, _ => rfl), List.forall_mem_nil _⟩
theorem sh24 {K : W.Frag} {f : Addr} {fd : FuncData} (F : FunD K d24.name d24.name (defArgs d24.st) (defBody d24.st) (defScope d24.st) ((mkD d24).dvs K) ((mkD d24).kws K) f fd) : ∀ sh ∈ d24.shapes, BindOk K fd d24.ps sh :=
  List.forall_mem_cons.mpr ⟨bind_all F 2 [] (fun kV doc pm an cdv ct us ws h1 h2 => match us, ws, h1, h2 with | [_, _], [], _, _ => rfl), List.forall_mem_nil _⟩
theorem sh25 {K : W.Frag} {f : Addr} {fd : FuncData} (F : FunD K d25.name d25.name (defArgs d25.st) (defBody d25.st) (defScope d25.st) ((mkD d25).dvs K) ((mkD d25).kws K) f fd) : ∀ sh ∈ d25.shapes, BindOk K fd d25.ps sh :=
  List.forall_mem_cons.mpr ⟨bind_all F 2 [] (fun kV doc pm an cdv ct us ws h1 h2 => match us, ws, h1, h2 with | [_, _], [], _, _ => rfl), List.forall_mem_nil _⟩
theorem sh26 {K : W.Frag} {f : Addr} {fd : FuncData} (F : FunD K d26.name d26.name (defArgs d26.st) (defBody d26.st) (defScope d26.st) ((mkD d26).dvs K) ((mkD d26).kws K) f fd) : ∀ sh ∈ d26.shapes, BindOk K fd d26.ps sh :=
  List.forall_mem_nil _
theorem sh27 {K : W.Frag} {f : Addr} {fd : FuncData} (F : FunD K d27.name d27.name (defArgs d27.st) (defBody d27.st) (defScope d27.st) ((mkD d27).dvs K) ((mkD d27).kws K) f fd) : ∀ sh ∈ d27.shapes, BindOk K fd d27.ps sh :=
  List.forall_mem_cons.mpr ⟨bind_all F 1 [] (fun kV doc pm an cdv ct us ws h1 h2 => match us, ws, h1, h2 with | [_], [], _, _ => rfl), List.forall_mem_nil _⟩
theorem sh28 {K : W.Frag} {f : Addr} {fd : FuncData} (F : FunD K d28.name d28.name (defArgs d28.st) (defBody d28.st) (defScope d28.st) ((mkD d28).dvs K) ((mkD d28).kws K) f fd) : ∀ sh ∈ d28.shapes, BindOk K fd d28.ps sh :=
  List.forall_mem_cons.mpr ⟨bind_all F 3 [] (fun kV doc pm an cdv ct us ws h1 h2 => match us, ws, h1, h2 with | [_, _, _], [], _, _ => rfl), List.forall_mem_nil _⟩
theorem sh29 {K : W.Frag} {f : Addr} {fd : FuncData} (F : FunD K d29.name d29.name (defArgs d29.st) (defBody d29.st) (defScope d29.st) ((mkD d29).dvs K) ((mkD d29).kws K) f fd) : ∀ sh ∈ d29.shapes, BindOk K fd d29.ps sh :=
  List.forall_mem_cons.mpr ⟨bind_all F 1 [] (fun kV doc pm an cdv ct us ws h1 h2 => match us, ws, h1, h2 with | [_], [], _, _ => rfl), List.forall_mem_nil _⟩
theorem sh30 {K : W.Frag} {f : Addr} {fd : FuncData} (F : FunD K d30.name d30.name (defArgs d30.st) (defBody d30.st) (defScope d30.st) ((mkD d30).dvs K) ((mkD d30).kws K) f fd) : ∀ sh ∈ d30.shapes, BindOk K fd d30.ps sh :=
  List.forall_mem_cons.mpr ⟨bind_all F 1 [] (fun kV doc pm an cdv ct us ws h1 h2 => match us, ws, h1, h2 with | [_], [], _, _ => rfl), List.forall_mem_nil _⟩
theorem sh31 {K : W.Frag} {f : Addr} {fd : FuncData} (F : FunD K d31.name d31.name (defArgs d31.st) (defBody d31.st) (defScope d31.st) ((mkD d31).dvs K) ((mkD d31).kws K) f fd) : ∀ sh ∈ d31.shapes, BindOk K fd d31.ps sh :=
  List.forall_mem_cons.mpr ⟨bind_all F 2 [] (fun kV doc pm an cdv ct us ws h1 h2 => match us, ws, h1, h2 with | [_, _], [], _, _ => rfl), List.forall_mem_nil _⟩
theorem sh32 {K : W.Frag} {f : Addr} {fd : FuncData} (F : FunD K d32.name d32.name (defArgs d32.st) (defBody d32.st) (defScope d32.st) ((mkD d32).dvs K) ((mkD d32).kws K) f fd) : ∀ sh ∈ d32.shapes, BindOk K fd d32.ps sh :=
  List.forall_mem_cons.mpr ⟨bind_all F 1 [] (fun kV doc pm an cdv ct us ws h1 h2 => match us, ws, h1, h2 with | [_], [], _, _ => rfl), List.forall_mem_nil _⟩
theorem sh33 {K : W.Frag} {f : Addr} {fd : FuncData} (F : FunD K d33.name d33.name (defArgs d33.st) (defBody d33.st) (defScope d33.st) ((mkD d33).dvs K) ((mkD d33).kws K) f fd) : ∀ sh ∈ d33.shapes, BindOk K fd d33.ps sh :=
  List.forall_mem_cons.mpr ⟨bind_all F 4 [] (fun kV doc pm an cdv ct us ws h1 h2 => match us, ws, h1, h2 with | [_, _, _, _], [], _, _ => rfl), List.forall_mem_nil _⟩
theorem sh34 {K : W.Frag} {f : Addr} {fd : FuncData} (F : FunD K d34.name d34.name (defArgs d34.st) (defBody d34.st) (defScope d34.st) ((mkD d34).dvs K) ((mkD d34).kws K) f fd) : ∀ sh ∈ d34.shapes, BindOk K fd d34.ps sh :=
  List.forall_mem_cons.mpr ⟨bind_all F 1 [] (fun kV doc pm an cdv ct us ws h1 h2 => match us, ws, h1, h2 with | [_], [], _, _ => rfl), List.forall_mem_nil _⟩
theorem sh35 {K : W.Frag} {f : Addr} {fd : FuncData} (F : FunD K d35.name d35.name (defArgs d35.st) (defBody d35.st) (defScope d35.st) ((mkD d35).dvs K) ((mkD d35).kws K) f fd) : ∀ sh ∈ d35.shapes, BindOk K fd d35.ps sh :=
  List.forall_mem_cons.mpr ⟨bind_all F 1 [] (fun kV doc pm an cdv ct us ws h1 h2 => match us, ws, h1, h2 with | [_], [], _, _ => rfl), List.forall_mem_nil _⟩
theorem sh36 {K : W.Frag} {f : Addr} {fd : FuncData} (F : FunD K d36.name d36.name (defArgs d36.st) (defBody d36.st) (defScope d36.st) ((mkD d36).dvs K) ((mkD d36).kws K) f fd) : ∀ sh ∈ d36.shapes, BindOk K fd d36.ps sh :=
  List.forall_mem_cons.mpr ⟨bind_all F 3 [] (fun kV doc pm an cdv ct us ws h1 h2 => match us, ws, h1, h2 with | [_, _, _], [], _, _ => rfl), List.forall_mem_nil _⟩
theorem sh37 {K : W.Frag} {f : Addr} {fd : FuncData} (F : FunD K d37.name d37.name (defArgs d37.st) (defBody d37.st) (defScope d37.st) ((mkD d37).dvs K) ((mkD d37).kws K) f fd) : ∀ sh ∈ d37.shapes, BindOk K fd d37.ps sh :=
  List.forall_mem_cons.mpr ⟨bind_all F 3 [] (fun kV doc pm an cdv ct us ws h1 h2 => match us, ws, h1, h2 with | [_, _, _], [], _, _ => rfl), List.forall_mem_nil _⟩
theorem sh38 {K : W.Frag} {f : Addr} {fd : FuncData} (F : FunD K d38.name d38.name (defArgs d38.st) (defBody d38.st) (defScope d38.st) ((mkD d38).dvs K) ((mkD d38).kws K) f fd) : ∀ sh ∈ d38.shapes, BindOk K fd d38.ps sh :=
  List.forall_mem_cons.mpr ⟨bind_all F 2 [] (fun kV doc pm an cdv ct us ws h1 h2 => match us, ws, h1, h2 with | [_, _], [], _, _ => rfl), List.forall_mem_nil _⟩
theorem sh39 {K : W.Frag} {f : Addr} {fd : FuncData} (F : FunD K d39.name d39.name (defArgs d39.st) (defBody d39.st) (defScope d39.st) ((mkD d39).dvs K) ((mkD d39).kws K) f fd) : ∀ sh ∈ d39.shapes, BindOk K fd d39.ps sh :=
  List.forall_mem_cons.mpr ⟨bind_all F 1 [] (fun kV doc pm an cdv ct us ws h1 h2 => match us, ws, h1, h2 with | [_], [], _, _ => rfl), List.forall_mem_nil _⟩
theorem sh40 {K : W.Frag} {f : Addr} {fd : FuncData} (F : FunD K d40.name d40.name (defArgs d40.st) (defBody d40.st) (defScope d40.st) ((mkD d40).dvs K) ((mkD d40).kws K) f fd) : ∀ sh ∈ d40.shapes, BindOk K fd d40.ps sh :=
  List.forall_mem_cons.mpr ⟨bind_all F 3 [] (fun kV doc pm an cdv ct us ws h1 h2 => match us, ws, h1, h2 with | [_, _, _], [], _, _ => rfl), List.forall_mem_nil _⟩
theorem sh41 {K : W.Frag} {f : Addr} {fd : FuncData} (F : FunD K d41.name d41.name (defArgs d41.st) (defBody d41.st) (defScope d41.st) ((mkD d41).dvs K) ((mkD d41).kws K) f fd) : ∀ sh ∈ d41.shapes, BindOk K fd d41.ps sh :=
  List.forall_mem_cons.mpr ⟨bind_all F 2 [] (fun kV doc pm an cdv ct us ws h1 h2 => match us, ws, h1, h2 with | [_, _], [], _, _ => rfl), List.forall_mem_nil _⟩
theorem sh42 {K : W.Frag} {f : Addr} {fd : FuncData} (F : FunD K d42.name d42.name (defArgs d42.st) (defBody d42.st) (defScope d42.st) ((mkD d42).dvs K) ((mkD d42).kws K) f fd) : ∀ sh ∈ d42.shapes, BindOk K fd d42.ps sh :=
  List.forall_mem_cons.mpr ⟨bind_all F 3 [] (fun kV doc pm an cdv ct us ws h1 h2 => match us, ws, h1, h2 with | [_, _, _], [], _, _ => rfl), List.forall_mem_nil _⟩
theorem sh43 {K : W.Frag} {f : Addr} {fd : FuncData} (F : FunD K d43.name d43.name (defArgs d43.st) (defBody d43.st) (defScope d43.st) ((mkD d43).dvs K) ((mkD d43).kws K) f fd) : ∀ sh ∈ d43.shapes, BindOk K fd d43.ps sh :=
  List.forall_mem_cons.mpr ⟨bind_all F 2 [] (fun kV doc pm an cdv ct us ws h1 h2 => match us, ws, h1, h2 with | [_, _], [], _, _ => rfl), List.forall_mem_nil _⟩
theorem sh44 {K : W.Frag} {f : Addr} {fd : FuncData} (F : FunD K d44.name d44.name (defArgs d44.st) (defBody d44.st) (defScope d44.st) ((mkD d44).dvs K) ((mkD d44).kws K) f fd) : ∀ sh ∈ d44.shapes, BindOk K fd d44.ps sh :=
  List.forall_mem_cons.mpr ⟨bind_all F 2 [] (fun kV doc pm an cdv ct us ws h1 h2 => match us, ws, h1, h2 with | [_, _], [], _, _ => rfl), List.forall_mem_nil _⟩
theorem sh45 {K : W.Frag} {f : Addr} {fd : FuncData} (F : FunD K d45.name d45.name (defArgs d45.st) (defBody d45.st) (defScope d45.st) ((mkD d45).dvs K) ((mkD d45).kws K) f fd) : ∀ sh ∈ d45.shapes, BindOk K fd d45.ps sh :=
  List.forall_mem_cons.mpr ⟨bind_all F 5 [] (fun kV doc pm an cdv ct us ws h1 h2 => match us, ws, h1, h2 with | [_, _, _, _, _], [], _, _ => rfl), List.forall_mem_nil _⟩
theorem sh46 {K : W.Frag} {f : Addr} {fd : FuncData} (F : FunD K d46.name d46.name (defArgs d46.st) (defBody d46.st) (defScope d46.st) ((mkD d46).dvs K) ((mkD d46).kws K) f fd) : ∀ sh ∈ d46.shapes, BindOk K fd d46.ps sh :=
  List.forall_mem_cons.mpr ⟨bind_all F 3 [] (fun kV doc pm an cdv ct us ws h1 h2 => match us, ws, h1, h2 with | [_, _, _], [], _, _ => rfl), List.forall_mem_nil _⟩
theorem sh47 {K : W.Frag} {f : Addr} {fd : FuncData} (F : FunD K d47.name d47.name (defArgs d47.st) (defBody d47.st) (defScope d47.st) ((mkD d47).dvs K) ((mkD d47).kws K) f fd) : ∀ sh ∈ d47.shapes, BindOk K fd d47.ps sh :=
  List.forall_mem_nil _
end PV.G77
end
section
set_option Elab.async false
set_option linter.all false
set_option maxRecDepth 100000
set_option maxHeartbeats 0
namespace PV.G77
open PySem PySem.Spec PyProof.Rows L2 PV
def XL : List Xc := [⟨"RingError", [], false⟩, ⟨"TooManyCases", ["count"], false⟩, ⟨"NotClear", ["one", "two"], true⟩, ⟨"TooSoon", ["ring", "house"], false⟩, ⟨"GoesRound", ["ring"], false⟩, ⟨"ValueError", [], false⟩]
def initSt (s : Stmt) : Stmt := match s with
  | .ClassDef _ _ _ (st :: _) _ _ _ _ _ _ _ => st
  | _ => s
def fnL : List He.DefD := defs.map mkD ++ [⟨("NotClear", some "__init__"), "__init__", "NotClear.__init__", defArgs (initSt (top 27)), defBody (initSt (top 27)), defScope (initSt (top 27)), [], []⟩]
def faL : List He.Fa := (defs.map fun i => He.Fa.glo i.name) ++ (bltNames.map fun x => He.Fa.free x) ++ [.glo "RingError", .glo "TooManyCases", .glo "NotClear", .glo "TooSoon", .glo "GoesRound", .free "ValueError"] ++ [.int "LIMIT" 999999, .int "MOST_FIRST" 14, .int "MOST_FIRST_AT" 21]
abbrev Rr : PySem.W.OpenRow := PySem.W.OpenLaw.row PySem.Challenge.rw_oneturn_k77_whole_soonest
def noLst1 (p : Addr × Obj) : Bool := match p.2.cls with
  | .type x => !decide (x = ("list" : Str))
  | _ => true
def xL (K : PySem.W.Frag) : Bool := xB XL G.sub K && K.all noLst1
theorem xL_x {K : PySem.W.Frag} (h : xL K = true) : xB XL G.sub K = true := by
  unfold xL at h
  rw [Bool.and_eq_true] at h
  exact h.1
theorem lk_mem {a : Addr} {o : Obj} : ∀ (K : List (Addr × Obj)), List.lookup a K = some o → ∃ b, (b, o) ∈ K
  | [], h => by simp at h
  | (k, v) :: K, h => by
    rw [List.lookup_cons] at h
    split at h
    · cases h
      exact ⟨k, List.mem_cons_self ..⟩
    · obtain ⟨b, hb⟩ := lk_mem K h
      exact ⟨b, List.mem_cons_of_mem _ hb⟩
theorem xL_l {K : PySem.W.Frag} (h : xL K = true) {a : Addr} {o : Obj} (hl : K.lookup a = some o) : o.cls ≠ .type "list" := by
  unfold xL at h
  rw [Bool.and_eq_true, List.all_eq_true] at h
  obtain ⟨b, hb⟩ := lk_mem K hl
  have := h.2 _ hb
  intro e
  unfold noLst1 at this
  rw [e] at this
  simp at this
abbrev hk : PySem.W.Hook := hookX xL 5 faL fnL
def ob (s : PySem.W.SharedT) : Bool × He.AlD := obsX xL 5 faL fnL (HandSHeadRun.getT s)
theorem ob_eq (s : PySem.W.SharedT) : ob s = hk.obs s.abs := obsX_eq (HandSHeadRun.getT_eq s)
def loose : List Str := ([("turned" : Str), ("turns" : Str), ("least_turn" : Str), ("row_at" : Str), ("rows_at" : Str), ("LIMIT" : Str), ("within_limit" : Str), ("remainder" : Str), ("part_of" : Str), ("test_holds" : Str), ("plain_answer" : Str), ("paired_answer" : Str), ("answer_of" : Str), ("MOST_FIRST" : Str), ("MOST_FIRST_AT" : Str), ("settle_table" : Str), ("is_settled" : Str), ("row_from" : Str), ("first_length" : Str), ("first_length_at" : Str)] : List Str) ++ ([("RingError" : Str), ("TooManyCases" : Str), ("NotClear" : Str), ("TooSoon" : Str), ("GoesRound" : Str), ("root" : Str), ("clear_pair" : Str), ("least_of" : Str), ("soonest_by" : Str), ("soonest" : Str), ("fewest_rounds" : Str), ("_law_whole" : Str), ("_law_cell" : Str), ("_law_digits" : Str), ("_law_key" : Str), ("_law_least" : Str), ("_law_row" : Str), ("_law_ring_list" : Str), ("_law_all_wheels" : Str), ("_law_any_rings" : Str)] : List Str) ++ ([("_law_lot" : Str), ("_law_near" : Str), ("_law_list" : Str), ("_law_cut" : Str), ("_law_part" : Str), ("_law_test" : Str), ("_law_answer" : Str), ("_law_question" : Str), ("_law_settle" : Str), ("_law_firsts" : Str), ("_law_dues" : Str), ("_law_pair" : Str), ("_law_is" : Str), ("_law_rounds_hold" : Str), ("_law_list_holds" : Str)] : List Str)
theorem run (w : World) : HandSHeadRun.RunEq Rr (PySem.W.view Rr.prog [64]) hk ob 4000 loose w := by
  intro os
  kernel_rfl
end PV.G77
end
section
set_option Elab.async false
set_option linter.all false
set_option maxRecDepth 100000
set_option maxHeartbeats 0
namespace PV.G77
open PySem PySem.Spec PyProof.Rows L2 PV
theorem shAll {K : W.Frag} {g : Addr} {fdt : FuncData} : ∀ (f : Nat) (i : FnD), T f = some i → FunD K i.name i.name (defArgs i.st) (defBody i.st) (defScope i.st) ((mkD i).dvs K) ((mkD i).kws K) g fdt → ∀ sh ∈ i.shapes, BindOk K fdt i.ps sh
  | 0, _, h => by cases h; exact sh0
  | 1, _, h => by cases h; exact sh1
  | 2, _, h => by cases h; exact sh2
  | 3, _, h => by cases h; exact sh3
  | 4, _, h => by cases h; exact sh4
  | 5, _, h => by cases h; exact sh5
  | 6, _, h => by cases h; exact sh6
  | 7, _, h => by cases h; exact sh7
  | 8, _, h => by cases h; exact sh8
  | 9, _, h => by cases h; exact sh9
  | 10, _, h => by cases h; exact sh10
  | 11, _, h => by cases h; exact sh11
  | 12, _, h => by cases h; exact sh12
  | 13, _, h => by cases h; exact sh13
  | 14, _, h => by cases h; exact sh14
  | 15, _, h => by cases h; exact sh15
  | 16, _, h => by cases h; exact sh16
  | 17, _, h => by cases h; exact sh17
  | 18, _, h => by cases h; exact sh18
  | 19, _, h => by cases h; exact sh19
  | 20, _, h => by cases h; exact sh20
  | 21, _, h => by cases h; exact sh21
  | 22, _, h => by cases h; exact sh22
  | 23, _, h => by cases h; exact sh23
  | 24, _, h => by cases h; exact sh24
  | 25, _, h => by cases h; exact sh25
  | 26, _, h => by cases h; exact sh26
  | 27, _, h => by cases h; exact sh27
  | 28, _, h => by cases h; exact sh28
  | 29, _, h => by cases h; exact sh29
  | 30, _, h => by cases h; exact sh30
  | 31, _, h => by cases h; exact sh31
  | 32, _, h => by cases h; exact sh32
  | 33, _, h => by cases h; exact sh33
  | 34, _, h => by cases h; exact sh34
  | 35, _, h => by cases h; exact sh35
  | 36, _, h => by cases h; exact sh36
  | 37, _, h => by cases h; exact sh37
  | 38, _, h => by cases h; exact sh38
  | 39, _, h => by cases h; exact sh39
  | 40, _, h => by cases h; exact sh40
  | 41, _, h => by cases h; exact sh41
  | 42, _, h => by cases h; exact sh42
  | 43, _, h => by cases h; exact sh43
  | 44, _, h => by cases h; exact sh44
  | 45, _, h => by cases h; exact sh45
  | 46, _, h => by cases h; exact sh46
  | 47, _, h => by cases h; exact sh47
  | _ + 48, _, h => by cases h
end PV.G77
end
section
set_option Elab.async false
set_option linter.all false
set_option maxRecDepth 100000
set_option maxHeartbeats 0
namespace PV.G77
open PySem PySem.Spec PyProof.Rows L2 PV
theorem fn_at {f : Nat} {i : FnD} (h : T f = some i) : fnL[f]? = some (mkD i) := by
  have hlt : f < defs.length := (List.getElem?_eq_some_iff.mp h).1
  unfold fnL
  rw [List.getElem?_append_left (by rw [List.length_map]; exact hlt), List.getElem?_map]
  have h' : defs[f]? = some i := h
  rw [h']; rfl
theorem heads {K : W.Frag} {h : Heap} {mg : Str → Option Value} (X : K.In h) (Gn : h.Ns mainGlobals mg) (c : He.SaysD faL fnL K) :
    ∃ fd : Nat → FuncData, ∀ f i, T f = some i → FnHead K mg (He.fAd K (i.name, none)) (fd f) i ∧ FunD K i.name i.name (defArgs i.st) (defBody i.st) (defScope i.st) ((mkD i).dvs K) ((mkD i).kws K) (He.fAd K (i.name, none)) (fd f) := by
  have hx : ∀ f, ∃ fdt, ∀ i, T f = some i → FunD K i.name i.name (defArgs i.st) (defBody i.st) (defScope i.st) ((mkD i).dvs K) ((mkD i).kws K) (He.fAd K (i.name, none)) fdt := fun f => by
    cases h : T f with
    | none => exact ⟨default, fun i z => nomatch z⟩
    | some i =>
      obtain ⟨fdt, F⟩ := c.def_ f (fn_at h)
      exact ⟨fdt, fun j z => by cases z; exact F⟩
  obtain ⟨fd, hfd⟩ := Classical.skolem.mp hx
  refine ⟨fd, fun f i h => ⟨⟨?_, ⟨i.name, _, _, hfd f i h⟩, shAll f i h (hfd f i h)⟩, hfd f i h⟩⟩
  have hm : He.Fa.glo i.name ∈ faL := by
    have hi : i ∈ defs := List.mem_of_getElem? h
    unfold faL
    simp only [List.mem_append, List.mem_map]
    exact .inl (.inl (.inl ⟨i, hi, rfl⟩))
  obtain ⟨j, hj⟩ := List.getElem?_of_mem hm
  exact He.glo_ok X Gn (c.fact j hj)
end PV.G77
end
section
set_option Elab.async false
set_option linter.all false
set_option maxRecDepth 100000
set_option maxHeartbeats 0
namespace PV.G77
open PySem PySem.Spec PyProof.Rows L2 PV
theorem fact_of {K : W.Frag} (c : He.SaysD faL fnL K) {f : He.Fa} (h : f ∈ faL) : f.ok K = true := by
  obtain ⟨j, hj⟩ := List.getElem?_of_mem h
  exact c.fact j hj
theorem gls {K : W.Frag} {h : Heap} {mg : Str → Option Value} (X : K.In h) (Gn : h.Ns mainGlobals mg) (c : He.SaysD faL fnL K) : ∀ x d, G.g x = some d → flatKey d = true ∧ ∃ u, mg x = some u ∧ RelV (atomV d) u := by
  intro x d hx
  have hx' : ([("LIMIT", (PyData.int 999999)), ("MOST_FIRST", (PyData.int 14)), ("MOST_FIRST_AT", (PyData.int 21))] : List (Str × PyData)).lookup x = some d := hx
  have hm := PySem.mem_of_lookup hx'
  simp only [List.mem_cons, Prod.mk.injEq, List.not_mem_nil, or_false] at hm
  rcases hm with ⟨rfl, rfl⟩ | ⟨rfl, rfl⟩ | ⟨rfl, rfl⟩
  · obtain ⟨t, ht⟩ := He.int_ok X Gn (fact_of c (f := .int "LIMIT" 999999) (by unfold faL; simp))
    exact ⟨rfl, _, ht, ⟨t, rfl⟩⟩
  · obtain ⟨t, ht⟩ := He.int_ok X Gn (fact_of c (f := .int "MOST_FIRST" 14) (by unfold faL; simp))
    exact ⟨rfl, _, ht, ⟨t, rfl⟩⟩
  · obtain ⟨t, ht⟩ := He.int_ok X Gn (fact_of c (f := .int "MOST_FIRST_AT" 21) (by unfold faL; simp))
    exact ⟨rfl, _, ht, ⟨t, rfl⟩⟩
theorem blts {K : W.Frag} {h : Heap} {mg : Str → Option Value} (X : K.In h) (Gn : h.Ns mainGlobals mg) (c : He.SaysD faL fnL K) : ∀ x ∈ bltNames, mg x = none := fun x hx =>
  He.free_ok X Gn (fact_of c (f := .free x) (by
    unfold faL
    simp only [List.mem_append, List.mem_map]
    exact .inl (.inl (.inr ⟨x, hx, rfl⟩))))
end PV.G77
end
section
set_option Elab.async false
set_option linter.all false
set_option maxRecDepth 100000
set_option maxHeartbeats 0
namespace PV.G77
open PySem PySem.Spec PyProof.Rows L2 PV
theorem keys {P : Program} {w : World} {K : W.Frag} {h : Heap} {mg : Str → Option Value} {base : Heap} (X : K.In h) (Gn : h.Ns mainGlobals mg) (c : He.SaysD faL fnL K) : ∀ x ∈ KF, KeyFact P w K mg base x := by
  intro x hx
  have e : x = "_law_key" := by simpa [KF] using hx
  subst e
  obtain ⟨fd, hfd⟩ := heads X Gn c
  obtain ⟨hh, F⟩ := hfd 26 d26 rfl
  exact key_fact (r := "row") (dvs := []) F hh.gm (blts X Gn c "len" (by decide)) rfl (fun kV doc pm an cdv ct us h1 => match us, h1 with | [_], _ => rfl) ⟨rfl, rfl, rfl, by decide +kernel, rfl, by decide +kernel, by decide +kernel⟩ (by decide +kernel) (by decide +kernel) (by decide +kernel)
end PV.G77
end
section
set_option Elab.async false
set_option linter.all false
set_option maxRecDepth 100000
set_option maxHeartbeats 0
namespace PV.G77
open PySem PySem.Spec PyProof.Rows L2 PV
theorem xws {P : Program} {w : World} {K : W.Frag} {h : Heap} {mg : Str → Option Value} {base : Heap} (X : K.In h) (Gn : h.Ns mainGlobals mg) (c : He.SaysD faL fnL K) (xb : xB XL G.sub K = true) : XW XT G.sub P w K mg base := by
  refine xw_of (XL := XL) xb (fun x hx hn => ?_) (fun x hx hn => ?_) (fun x hx ho => ?_)
  · unfold XL at hx
    simp only [List.mem_cons, List.not_mem_nil, or_false] at hx
    rcases hx with rfl | rfl | rfl | rfl | rfl | rfl
    · exact He.glo_ok X Gn (fact_of c (f := .glo "RingError") (by unfold faL; simp))
    · exact He.glo_ok X Gn (fact_of c (f := .glo "TooManyCases") (by unfold faL; simp))
    · exact He.glo_ok X Gn (fact_of c (f := .glo "NotClear") (by unfold faL; simp))
    · exact He.glo_ok X Gn (fact_of c (f := .glo "TooSoon") (by unfold faL; simp))
    · exact He.glo_ok X Gn (fact_of c (f := .glo "GoesRound") (by unfold faL; simp))
    · exact absurd hn (by decide)
  · unfold XL at hx
    simp only [List.mem_cons, List.not_mem_nil, or_false] at hx
    rcases hx with rfl | rfl | rfl | rfl | rfl | rfl
    · exact absurd hn (by decide)
    · exact absurd hn (by decide)
    · exact absurd hn (by decide)
    · exact absurd hn (by decide)
    · exact absurd hn (by decide)
    · exact ⟨He.free_ok X Gn (fact_of c (f := .free "ValueError") (by unfold faL; simp)), by decide +kernel⟩
  · unfold XL at hx
    simp only [List.mem_cons, List.not_mem_nil, or_false] at hx
    rcases hx with rfl | rfl | rfl | rfl | rfl | rfl
    · cases ho
    · cases ho
    · obtain ⟨fdI, F⟩ := c.def_ 48 rfl
      refine ⟨by decide, _, _, _, _, _, _, _, fdI, ["self", "one", "two"], ["self", "one", "two"], F, by decide +kernel, ?_⟩
      exact FunD.bindsN (ps := ["self", "one", "two"]) F fun _ _ _ _ _ _ us hl => match us, hl with | [_, _, _], _ => rfl
    · cases ho
    · cases ho
    · cases ho
end PV.G77
end
section
set_option Elab.async false
set_option linter.all false
set_option maxRecDepth 100000
set_option maxHeartbeats 0
namespace PV.G77
open PySem PySem.Spec PyProof.Rows L2 PV
def faK (K : W.Frag) (f : Nat) : Addr := match T f with
  | some i => He.fAd K (i.name, none)
  | none => 0
theorem wds {P : Program} {w : World} {K : W.Frag} {h : Heap} {mg : Str → Option Value} (X : K.In h) (Gn : h.Ns mainGlobals mg) (c : He.SaysD faL fnL K) (xb : xB XL G.sub K = true) (cks : ∀ f i, T f = some i → ckF T G KF XT i = true) (k : Nat) :
    ∃ fd : Nat → FuncData, (∀ base : Heap, Wd (faK K) fd (4 * k) (callN G XT 0 (FT T) k) T G KF XT P w K mg base) ∧ FunD K d47.name d47.name (defArgs d47.st) (defBody d47.st) (defScope d47.st) ((mkD d47).dvs K) ((mkD d47).kws K) (faK K 47) (fd 47) := by
  obtain ⟨fd, hfd⟩ := heads X Gn c
  refine ⟨fd, fun base => fn_fact (fun f i hT => ?_) cks (gls X Gn c) (blts X Gn c) (keys X Gn c) (xws X Gn c xb) k, (hfd 47 d47 rfl).2⟩
  have e : faK K f = He.fAd K (i.name, none) := by unfold faK; rw [hT]
  rw [e]
  exact (hfd f i hT).1
def CXE (P : Program) : CXT := fun outer H s E u s' => ∃ w, L2.CX P w outer H s E u s'
theorem fn_cx {P : Program} {w : World} {K : W.Frag} {mg : Str → Option Value} {base : Heap} {k : Nat} {f : Addr} {fd : FuncData} {ps : List Str} {sp : Sp} (F : FnOk P w K mg base (L2.CX P w) k f fd ps sp) : FnOk P w K mg base (CXE P) k f fd ps sp :=
  ⟨F.len, fun A outer s H args us vs Q E hr e0 b r h => codeAny_mono (F.run A outer s H args us vs Q E hr e0 b r h) fun rr s' hq => by
    cases rr with
    | error e => exact ⟨w, hq⟩
    | ok fl => cases fl <;> exact hq⟩
end PV.G77
end
section
set_option Elab.async false
set_option linter.all false
set_option maxRecDepth 100000
set_option maxHeartbeats 0
namespace PV.G77
open PySem PySem.Spec PyProof.Rows L2 PV
theorem cksA : ∀ f i, T f = some i → ckF T G KF XT i = true := fun f i h => by
  have hlt : f < 48 := (List.getElem?_eq_some_iff.mp h).1
  have := List.all_eq_true.mp cks f (List.mem_range.mpr hlt)
  rw [h] at this
  exact this
theorem rd_ints {B : Addr → Prop} {H : Hp} : ∀ ns : List Int, RDs B H (ns.map V.int) (ns.map PyData.int)
  | [] => .nil
  | n :: ns => .cons (.int n) (rd_ints ns)
end PV.G77
open PySem PySem.W PySem.Calls PyProof.Rows PV PV.G77
theorem PV.G77.reduce (kk : Nat) (hr : L2.Room (4 * kk) callerA) (hm : ∀ ns : List Int, ns.length ≤ 63 → callN G XT 0 (FT T) kk 47 [.list (ns.map .int)] = .ok (.bool true)) : PySem.Challenge.rw_oneturn_k77_whole_soonest.Holds := by
  w_on; o_law
  refine HandSHeadRun.head_any (r := OpenLaw.row PySem.Challenge.rw_oneturn_k77_whole_soonest) (q := view (OpenLaw.row PySem.Challenge.rw_oneturn_k77_whole_soonest).prog [64]) (H := PV.G77.hk) (ob := PV.G77.ob) (M := 4000) (loose := PV.G77.loose) (d := HandSHeadRun.topDef (OpenLaw.row PySem.Challenge.rw_oneturn_k77_whole_soonest).prog 64) (kwd := []) PV.G77.ob_eq
    (by kernel_rfl) (fun s => by kernel_rfl) PV.G77.run (by kernel_rfl) (by kernel_rfl) (by kernel_rfl) (by rfl) (by first | assumption | decide +kernel) (by decide +kernel) ⟨rfl, rfl, rfl, rfl, rfl, by decide +kernel⟩ ?hw ?hc
  case hw => w_witness2
  case hc =>
    refine L2.walk_ofE (l := PySem.Challenge.rw_oneturn_k77_whole_soonest) (n := 63) (k := 4 * kk) (x := "script") (CX := CXE (PySem.Challenge.rw_oneturn_k77_whole_soonest).prog) rfl (by decide) (by kernel_rfl) hr ?F (fun _ _ _ _ z => ?_)
    · intro w mg fa h Y Gn hmg0
      obtain ⟨K, KX, c, xb⟩ := Y
      have hmg : mg ("law" : PySem.Str) = some (.ref fa) := by
        have e : (HandSHeadRun.topDef (OpenLaw.row PySem.Challenge.rw_oneturn_k77_whole_soonest).prog 64).name = ("law" : PySem.Str) := by kernel_rfl
        rw [← e]
        exact hmg0
      obtain ⟨fd, W0, F⟩ := wds (P := (PySem.Challenge.rw_oneturn_k77_whole_soonest).prog) (w := w) KX Gn c (xL_x xb) cksA kk
      have hfa := ((W0 h).fn 47 d47 rfl).gm
      have efa : fa = faK K 47 := by
        have := hmg.symm.trans hfa
        cases this; rfl
      subst efa
      refine ⟨K, fd 47, spF mg 1 (callN G XT 0 (FT T) kk 47), KX, fun s v => L2.FunD.bindsA (ps := ["script"]) F (fun _ _ _ _ _ _ us hl => match us, hl with | [_], _ => rfl) s [v] rfl, fun H a ns hl hO hS => ?_, fun base kb nb => ?_⟩
      · have hS' : L2.Rd H a (.lst (ns.map L2.V.int)) := by
          rcases hS with hS | ⟨o, its, n, h1, h2, _⟩
          · exact hS
          · exact absurd h2 (xL_l xb h1)
        refine ⟨fun _ => False, [.list (ns.map .int)], .cons ?_ .nil, rfl, fun b z => z.elim, ?_⟩
        · exact .lst (fun z => z) hS' (rd_ints ns)
        · rw [hm ns hl]
          intro v H2 _ r
          cases r; rfl
      · exact fn_cx ((W0 base).fn 47 d47 rfl).ok
    · obtain ⟨_, _, _, _, _, _, _, _, _, _, _, _, _, z⟩ := z
      exact z.elim
end
section
set_option Elab.async false
set_option linter.all false
set_option maxRecDepth 100000
set_option maxHeartbeats 8000000
namespace PV.F77
open PySem PV
-- written by split of G77 (gen.py): the bodies alone
def fd0 : Fd := ⟨2, 2, (.cons (.ret [] (.bin .add (.slL (.v 0) (.v 1)) (.slH (.v 0) (.v 1))))
      .nil)⟩
def fd1 : Fd := ⟨1, 3, (.cons (.set [] 1 .dT)
      (.cons (.for_ 2 (.rng1 (.f1 .len (.v 0)))
      (.cons (.put [] 1 (.call 0 (.cons (.v 0) (.cons (.v 2) .nil)) .nil []) (.bool true))
      .nil) [])
      (.cons (.ret [] (.f1 .tuple (.f1 .sorted (.f1 .list (.pk 1)))))
      .nil)))⟩
def fd2 : Fd := ⟨1, 1, (.cons (.ret [] (.ix (.call 1 (.cons (.v 0) .nil) .nil []) (.int 0)))
      .nil)⟩
def fd3 : Fd := ⟨3, 6, (.cons (.set [] 3 (.f1 .len (.v 0)))
      (.cons (.set [] 4 (.bin .add (.bin .sub (.v 1) (.v 2)) (.int 1)))
      (.cons (.ret [] (.f1 .tuple (.comp (.ix (.v 0) (.bin .mod (.bin .add (.v 4) (.v 5)) (.v 3))) 5 (.rng1 (.v 2)))))
      .nil)))⟩
def fd4 : Fd := ⟨2, 3, (.cons (.ret [] (.f1 .tuple (.comp (.call 3 (.cons (.v 0) (.cons (.v 2) (.cons (.v 1) .nil))) .nil []) 2 (.rng1 (.f1 .len (.v 0))))))
      .nil)⟩
def fd5 : Fd := ⟨1, 1, (.cons (.ret [] (.mx2 (.neg (.glob "LIMIT")) (.mn2 (.glob "LIMIT") (.v 0))))
      .nil)⟩
def fd6 : Fd := ⟨2, 2, (.cons (.ite (.cmp .gt (.v 1) (.int 0))
      (.cons (.ret [] (.bin .mod (.v 0) (.v 1)))
      .nil)
      .nil)
      (.cons (.ret [] (.int 0))
      .nil))⟩
def fd7 : Fd := ⟨3, 4, (.cons (.ite (.cmp .eq (.ix (.v 0) (.int 0)) (.str "number"))
      (.cons (.ret [] (.ix (.v 0) (.int 1)))
      .nil)
      .nil)
      (.cons (.set [] 3 (.f1 .len (.v 1)))
      (.cons (.ite (.cmp .eq (.ix (.v 0) (.int 0)) (.str "next"))
      (.cons (.ret [] (.ix (.v 1) (.bin .mod (.bin .add (.v 2) (.int 1)) (.v 3))))
      .nil)
      .nil)
      (.cons (.ite (.cmp .eq (.ix (.v 0) (.int 0)) (.str "ahead"))
      (.cons (.ret [] (.ix (.v 1) (.bin .mod (.bin .sub (.v 2) (.int 1)) (.v 3))))
      .nil)
      .nil)
      (.cons (.ret [] (.ix (.v 1) (.v 2)))
      .nil)))))⟩
def fd8 : Fd := ⟨3, 5, (.cons (.set [] 3 (.call 7 (.cons (.ix (.v 0) (.int 1)) (.cons (.v 1) (.cons (.v 2) .nil))) .nil []))
      (.cons (.ite (.cmp .eq (.ix (.v 0) (.int 0)) (.str "odd"))
      (.cons (.ret [] (.cmp .eq (.bin .mod (.v 3) (.int 2)) (.int 1)))
      .nil)
      .nil)
      (.cons (.set [] 4 (.call 7 (.cons (.ix (.v 0) (.int 2)) (.cons (.v 1) (.cons (.v 2) .nil))) .nil []))
      (.cons (.ite (.cmp .eq (.ix (.v 0) (.int 0)) (.str "below"))
      (.cons (.ret [] (.cmp .lt (.v 3) (.v 4)))
      .nil)
      .nil)
      (.cons (.ret [] (.cmp .eq (.v 3) (.v 4)))
      .nil)))))⟩
def fd9 : Fd := ⟨2, 2, (.cons (.ite (.cmp .eq (.v 0) (.str "greatest"))
      (.cons (.ret [] (.f1 .max (.v 1)))
      .nil)
      .nil)
      (.cons (.ite (.cmp .eq (.v 0) (.str "least"))
      (.cons (.ret [] (.f1 .min (.v 1)))
      .nil)
      .nil)
      (.cons (.ite (.cmp .eq (.v 0) (.str "houses"))
      (.cons (.ret [] (.f1 .len (.v 1)))
      .nil)
      .nil)
      (.cons (.ite (.cmp .eq (.v 0) (.str "kinds"))
      (.cons (.ret [] (.lenset (.v 1)))
      .nil)
      .nil)
      (.cons (.ret [] (.f1 .sum (.v 1)))
      .nil)))))⟩
def fd10 : Fd := ⟨3, 3, (.cons (.ite (.cmp .eq (.v 0) (.str "plus"))
      (.cons (.ret [] (.call 5 (.cons (.bin .add (.v 1) (.v 2)) .nil) .nil []))
      .nil)
      .nil)
      (.cons (.ite (.cmp .eq (.v 0) (.str "minus"))
      (.cons (.ret [] (.call 5 (.cons (.bin .sub (.v 1) (.v 2)) .nil) .nil []))
      .nil)
      .nil)
      (.cons (.ite (.cmp .eq (.v 0) (.str "times"))
      (.cons (.ret [] (.call 5 (.cons (.bin .mul (.v 1) (.v 2)) .nil) .nil []))
      .nil)
      .nil)
      (.cons (.ite (.cmp .eq (.v 0) (.str "rest"))
      (.cons (.ret [] (.call 6 (.cons (.v 1) (.cons (.v 2) .nil)) .nil []))
      .nil)
      .nil)
      (.cons (.ite (.cmp .eq (.v 0) (.str "less"))
      (.cons (.ret [] (.ite (.cmp .lt (.v 1) (.v 2)) (.int 1) (.int 0)))
      .nil)
      .nil)
      (.cons (.ret [] (.ite (.cmp .eq (.v 1) (.v 2)) (.int 1) (.int 0)))
      .nil))))))⟩
def fd11 : Fd := ⟨2, 4, (.cons (.set [] 2 (.ix (.v 0) (.int 0)))
      (.cons (.ite (.cmp .eq (.v 2) (.str "number"))
      (.cons (.ret [] (.ix (.v 0) (.int 1)))
      .nil)
      .nil)
      (.cons (.ite (.cmp .eq (.v 2) (.str "count"))
      (.cons (.ret [] (.f1 .len (.compIf (.v 3) 3 (.rng1 (.f1 .len (.v 1))) (.call 8 (.cons (.ix (.v 0) (.int 1)) (.cons (.v 1) (.cons (.v 3) .nil))) .nil []))))
      .nil)
      .nil)
      (.cons (.ite (.cmp .eq (.v 2) (.str "choose"))
      (.cons (.ite (.cmp .eq (.call 11 (.cons (.ix (.v 0) (.int 1)) (.cons (.v 1) .nil)) .nil []) (.int 0))
      (.cons (.ret [] (.call 11 (.cons (.ix (.v 0) (.int 3)) (.cons (.v 1) .nil)) .nil []))
      .nil)
      .nil)
      (.cons (.ret [] (.call 11 (.cons (.ix (.v 0) (.int 2)) (.cons (.v 1) .nil)) .nil []))
      .nil))
      .nil)
      (.cons (.ite (.cmp .eq (.f1 .len (.v 0)) (.int 1))
      (.cons (.ret [] (.call 9 (.cons (.v 2) (.cons (.v 1) .nil)) .nil []))
      .nil)
      .nil)
      (.cons (.ret [] (.call 10 (.cons (.v 2) (.cons (.call 11 (.cons (.ix (.v 0) (.int 1)) (.cons (.v 1) .nil)) .nil []) (.cons (.call 11 (.cons (.ix (.v 0) (.int 2)) (.cons (.v 1) .nil)) .nil []) .nil))) .nil []))
      .nil))))))⟩
def fd12 : Fd := ⟨3, 8, (.cons (.set [] 3 .dT)
      (.cons (.for_ 4 (.v 0)
      (.cons (.set [] 5 (.call 11 (.cons (.v 1) (.cons (.v 4) .nil)) .nil []))
      (.cons (.for_ 6 (.rng2 (.int 1) (.bin .add (.v 2) (.int 1)))
      (.cons (.for_ 7 (.call 4 (.cons (.v 4) (.cons (.v 6) .nil)) .nil [])
      (.cons (.ite (.cmp .nin (.v 7) (.pk 3))
      (.cons (.put [] 3 (.v 7) (.v 5))
      .nil)
      (.cons (.ite (.cmp .ne (.ix (.pk 3) (.v 7)) (.v 5))
      (.cons (.put [] 3 (.v 7) .none)
      .nil)
      .nil)
      .nil))
      .nil) [])
      .nil) [])
      .nil)) [])
      (.cons (.ret [3] (.v 3))
      .nil)))⟩
def fd13 : Fd := ⟨2, 2, (.cons (.ret [] (.notN (.get2 (.v 0) (.v 1) .none)))
      .nil)⟩
def fd14 : Fd := ⟨3, 3, (.cons (.ret [] (.call 3 (.cons (.v 0) (.cons (.bin .mod (.bin .sub (.bin .add (.v 1) (.v 2)) (.int 1)) (.f1 .len (.v 0))) (.cons (.v 2) .nil))) .nil []))
      .nil)⟩
def fd15 : Fd := ⟨3, 4, (.cons (.for_ 3 (.rng2 (.int 1) (.bin .add (.glob "MOST_FIRST") (.int 1)))
      (.cons (.ite (.call 13 (.cons (.v 2) (.cons (.call 14 (.cons (.v 0) (.cons (.v 1) (.cons (.v 3) .nil))) .nil []) .nil)) .nil [])
      (.cons (.ret [] (.v 3))
      .nil)
      .nil)
      .nil) [])
      (.cons (.ret [] .none)
      .nil))⟩
def fd16 : Fd := ⟨4, 7, (.cons (.set [] 4 (.f1 .len (.v 0)))
      (.cons (.set [] 5 (.bin .add (.bin .mod (.bin .sub (.v 2) (.v 1)) (.v 4)) (.int 1)))
      (.cons (.for_ 6 (.rng3 (.v 5) (.bin .add (.glob "MOST_FIRST_AT") (.int 1)) (.v 4))
      (.cons (.ite (.call 13 (.cons (.v 3) (.cons (.call 14 (.cons (.v 0) (.cons (.v 1) (.cons (.v 6) .nil))) .nil []) .nil)) .nil [])
      (.cons (.ret [] (.v 6))
      .nil)
      .nil)
      .nil) [])
      (.cons (.ret [] .none)
      .nil))))⟩
def fd17 : Fd := ⟨1, 3, (.cons (.set [] 1 (.f1 .len (.v 0)))
      (.cons (.for_ 2 (.rng2 (.int 1) (.v 1))
      (.cons (.ite (.and (.cons (.cmp .eq (.bin .mod (.v 1) (.v 2)) (.int 0)) (.cons (.cmp .eq (.bin .mul (.slH (.v 0) (.v 2)) (.bin .fdiv (.v 1) (.v 2))) (.v 0)) .nil)))
      (.cons (.ret [] (.slH (.v 0) (.v 2)))
      .nil)
      .nil)
      .nil) [])
      (.cons (.ret [] (.v 0))
      .nil)))⟩
def fd18 : Fd := ⟨2, 7, (.cons (.set [] 2 (.comp (.call 2 (.cons (.call 17 (.cons (.v 6) .nil) .nil []) .nil) .nil []) 6 (.v 0)))
      (.cons (.set [] 3 (.comp (.call 11 (.cons (.v 1) (.cons (.v 6) .nil)) .nil []) 6 (.v 0)))
      (.cons (.for_ 4 (.rng1 (.f1 .len (.v 0)))
      (.cons (.for_ 5 (.rng1 (.f1 .len (.v 0)))
      (.cons (.ite (.and (.cons (.cmp .eq (.ix (.v 2) (.v 4)) (.ix (.v 2) (.v 5))) (.cons (.cmp .ne (.ix (.v 3) (.v 4)) (.ix (.v 3) (.v 5))) .nil)))
      (.cons (.ret [] (.tup (.cons (.ix (.v 0) (.v 4)) (.cons (.ix (.v 0) (.v 5)) .nil))))
      .nil)
      .nil)
      .nil) [])
      .nil) [])
      (.cons (.ret [] .none)
      .nil))))⟩
def fd19 : Fd := ⟨1, 3, (.cons (.set [] 1 (.compIf (.v 2) 2 (.v 0) (.notN (.v 2))))
      (.cons (.ret [] (.ite (.cmp .gt (.f1 .len (.v 1)) (.int 0)) (.f1 .min (.v 1)) .none))
      .nil))⟩
def fd20 : Fd := ⟨3, 7, (.cons (.set [] 3 (.f1 .len (.v 0)))
      (.cons (.ite (.cmp .eq (.v 2) (.str "some"))
      (.cons (.ret [] (.call 19 (.cons (.comp (.call 15 (.cons (.v 0) (.cons (.v 6) (.cons (.v 1) .nil))) .nil []) 6 (.rng1 (.v 3))) .nil) .nil []))
      .nil)
      .nil)
      (.cons (.set [] 4 (.lst .nil))
      (.cons (.for_ 5 (.rng1 (.v 3))
      (.cons (.app [] 4 (.call 19 (.cons (.comp (.call 16 (.cons (.v 0) (.cons (.v 6) (.cons (.v 5) (.cons (.v 1) .nil)))) .nil []) 6 (.rng1 (.v 3))) .nil) .nil []))
      .nil) [])
      (.cons (.ret [] (.ite (.cmp .isin .none (.pk 4)) .none (.f1 .max (.pk 4))))
      .nil)))))⟩
def fd21 : Fd := ⟨4, 4, (.cons (.ret [] (.call 20 (.cons (.v 0) (.cons (.call 12 (.cons (.v 1) (.cons (.v 2) (.cons (.glob "MOST_FIRST_AT") .nil))) .nil []) (.cons (.v 3) .nil))) .nil []))
      .nil)⟩
def fd22 : Fd := ⟨3, 6, (.cons (.set [] 3 (.call 18 (.cons (.v 0) (.cons (.v 1) .nil)) .nil []))
      (.cons (.ite (.notN (.v 3))
      (.cons (.raise 2 (.cons (.ix (.v 3) (.int 0)) (.cons (.ix (.v 3) (.int 1)) .nil)))
      .nil)
      .nil)
      (.cons (.set [] 4 (.call 12 (.cons (.v 0) (.cons (.v 1) (.cons (.glob "MOST_FIRST_AT") .nil))) .nil []))
      (.cons (.ret [] (.f1 .max (.comp (.call 20 (.cons (.v 5) (.cons (.v 4) (.cons (.v 2) .nil))) .nil []) 5 (.v 0))))
      .nil))))⟩
def fd23 : Fd := ⟨1, 1, (.cons (.ret [] (.and (.cons (.isa .int (.v 0)) (.cons (.not (.isa .bool (.v 0))) .nil))))
      .nil)⟩
def fd24 : Fd := ⟨2, 4, (.cons (.ite (.cmp .lt (.v 1) (.f1 .len (.v 0)))
      (.cons (.ret [] (.ix (.v 0) (.v 1)))
      .nil)
      .nil)
      (.cons (.set [] 2 (.int 17))
      (.cons (.for_ 3 (.v 0)
      (.cons (.set [] 2 (.bin .mod (.f1 .int (.bin .add (.bin .mul (.v 2) (.int 31)) (.bin .mod (.f1 .int (.v 3)) (.int 1000003)))) (.int 1000003)))
      .nil) [])
      (.cons (.ret [] (.bin .mod (.f1 .int (.bin .mul (.bin .mul (.bin .add (.v 2) (.int 7)) (.bin .add (.v 1) (.int 3))) (.int 69621))) (.int 2147483647)))
      .nil))))⟩
def fd25 : Fd := ⟨2, 8, (.cons (.set [] 2 (.lst .nil))
      (.cons (.set [] 3 (.f1 .int (.v 0)))
      (.cons (.ite (.cmp .ge (.v 3) (.bin .pow (.int 10) (.int 18)))
      (.cons (.set [] 3 (.bin .sub (.v 3) (.bin .pow (.int 10) (.int 18))))
      (.cons (.for_ 6 (.v 1)
      (.cons (.app [] 2 (.bin .mod (.f1 .int (.v 3)) (.v 6)))
      (.cons (.set [] 3 (.bin .fdiv (.f1 .int (.v 3)) (.v 6)))
      .nil)) [])
      (.cons (.ret [2] (.v 2))
      .nil)))
      .nil)
      (.cons (.set [] 4 (.bin .mod (.f1 .int (.v 3)) (.int 2147483629)))
      (.cons (.for_ 5 (.rng1 (.f1 .len (.v 1)))
      (.cons (.set [] 4 (.bin .mod (.f1 .int (.bin .add (.bin .add (.bin .mul (.v 4) (.int 48271)) (.bin .mul (.int 974711) (.v 5))) (.int 12345))) (.int 2147483647)))
      (.cons (.set [] 7 (.bin .mod (.f1 .int (.bin .mul (.v 4) (.bin .add (.bin .fdiv (.v 4) (.int 65537)) (.int 3)))) (.int 2147483629)))
      (.cons (.app [] 2 (.bin .mod (.bin .fdiv (.v 7) (.int 19)) (.ix (.v 1) (.v 5))))
      .nil))) [])
      (.cons (.ret [2] (.v 2))
      .nil))))))⟩
def fd26 : Fd := ⟨1, 1, (.cons (.ret [] (.tup (.cons (.f1 .len (.v 0)) (.cons (.v 0) .nil))))
      .nil)⟩
def fd27 : Fd := ⟨1, 4, (.cons (.set [] 1 (.v 0))
      (.cons (.for_ 2 (.rng1 (.f1 .len (.v 0)))
      (.cons (.set [] 3 (.bin .add (.slL (.v 0) (.v 2)) (.slH (.v 0) (.v 2))))
      (.cons (.ite (.cmp .lt (.v 3) (.v 1))
      (.cons (.set [] 1 (.v 3))
      .nil)
      .nil)
      .nil)) [])
      (.cons (.ret [] (.v 1))
      .nil)))⟩
def fd28 : Fd := ⟨3, 5, (.cons (.set [] 3 (.f1 .len (.v 0)))
      (.cons (.ret [] (.f1 .tuple (.comp (.ix (.v 0) (.bin .mod (.f1 .int (.bin .add (.bin .add (.bin .sub (.v 1) (.v 2)) (.int 1)) (.v 4))) (.v 3))) 4 (.rng1 (.v 2)))))
      .nil))⟩
def fd29 : Fd := ⟨1, 3, (.cons (.set [] 1 .dT)
      (.cons (.for_ 2 (.v 0)
      (.cons (.put [] 1 (.call 27 (.cons (.v 2) .nil) .nil []) (.bool true))
      .nil) [])
      (.cons (.ret [] (.f1 .tuple (.sortk "_law_key" (.compD (.v 2) 2 1))))
      .nil)))⟩
def fd30 : Fd := ⟨1, 7, (.cons (.set [] 1 (.lst (.cons (.tup .nil) .nil)))
      (.cons (.set [] 2 (.lst .nil))
      (.cons (.for_ 3 (.rng1 (.f1 .len (.v 0)))
      (.cons (.set [] 4 (.lst .nil))
      (.cons (.for_ 5 (.v 1)
      (.cons (.for_ 6 (.v 0)
      (.cons (.ite (.cmp .nin (.v 6) (.v 5))
      (.cons (.app [] 4 (.bin .add (.v 5) (.tup (.cons (.v 6) .nil))))
      .nil)
      .nil)
      .nil) [])
      .nil) [])
      (.cons (.set [] 1 (.f1 .list (.pk 4)))
      (.cons (.set [] 2 (.bin .add (.v 2) (.compIf (.v 5) 5 (.v 1) (.cmp .eq (.ix (.v 5) (.int 0)) (.f1 .min (.v 5))))))
      .nil)))) [])
      (.cons (.ret [] (.v 2))
      .nil))))⟩
def fd31 : Fd := ⟨2, 7, (.cons (.set [] 2 (.lst (.cons (.tup .nil) .nil)))
      (.cons (.for_ 3 (.rng1 (.v 1))
      (.cons (.set [] 4 (.lst .nil))
      (.cons (.for_ 5 (.v 2)
      (.cons (.for_ 6 (.v 0)
      (.cons (.app [] 4 (.bin .add (.v 5) (.tup (.cons (.v 6) .nil))))
      .nil) [])
      .nil) [])
      (.cons (.set [] 2 (.f1 .list (.pk 4)))
      .nil))) [])
      (.cons (.ret [] (.v 2))
      .nil)))⟩
def fd32 : Fd := ⟨1, 4, (.cons (.set [] 1 (.int 0))
      (.cons (.set [] 2 (.lst .nil))
      (.cons (.for_ 3 (.v 0)
      (.cons (.set [] 1 (.bin .add (.bin .add (.v 1) (.int 1)) (.bin .mod (.f1 .int (.v 3)) (.int 8))))
      (.cons (.app [] 2 (.v 1))
      .nil)) [])
      (.cons (.ite (.cmp .eq (.bin .mod (.f1 .int (.ix (.v 0) (.int 0))) (.int 8)) (.int 7))
      (.cons (.ret [] (.f1 .tuple (.comp (.bin .add (.bin .sub (.int 999) (.ix (.pk 2) (.bin .sub (.f1 .len (.pk 2)) (.int 1)))) (.v 1)) 1 (.pk 2))))
      .nil)
      .nil)
      (.cons (.ret [] (.f1 .tuple (.pk 2)))
      .nil)))))⟩
def fd33 : Fd := ⟨4, 7, (.cons (.set [] 4 (.f1 .len (.v 0)))
      (.cons (.set [] 5 (.bin .mod (.f1 .int (.v 2)) (.v 4)))
      (.cons (.ite (.and (.cons (.cmp .eq (.v 1) (.int 1)) (.cons (.cmp .gt (.v 4) (.int 1)) .nil)))
      (.cons (.ret [] (.bin .add (.slH (.v 0) (.v 5)) (.slL (.v 0) (.bin .add (.v 5) (.int 1)))))
      .nil)
      .nil)
      (.cons (.ite (.and (.cons (.cmp .eq (.v 1) (.int 2)) (.cons (.cmp .lt (.v 4) (.int 8)) .nil)))
      (.cons (.ret [] (.bin .add (.bin .add (.slH (.v 0) (.v 5)) (.tup (.cons (.v 3) .nil))) (.slL (.v 0) (.v 5))))
      .nil)
      .nil)
      (.cons (.ite (.and (.cons (.cmp .eq (.v 1) (.int 3)) (.cons (.cmp .le (.v 4) (.int 4)) .nil)))
      (.cons (.ret [] (.bin .add (.v 0) (.v 0)))
      .nil)
      .nil)
      (.cons (.ite (.cmp .eq (.v 1) (.int 4))
      (.cons (.ret [] (.f1 .tuple (.comp (.ix (.v 0) (.bin .sub (.bin .sub (.v 4) (.int 1)) (.v 6))) 6 (.rng1 (.v 4)))))
      .nil)
      .nil)
      (.cons (.ret [] (.bin .add (.bin .add (.slH (.v 0) (.v 5)) (.tup (.cons (.v 3) .nil))) (.slL (.v 0) (.bin .add (.v 5) (.int 1)))))
      .nil)))))))⟩
def fd34 : Fd := ⟨1, 13, (.cons (.set [] 1 (.call 25 (.cons (.call 24 (.cons (.v 0) (.cons (.int 0) .nil)) .nil []) (.cons (.bin .add (.bin .add (.bin .add (.bin .add (.lst (.cons (.int 12) .nil)) (.bin .mul (.lst (.cons (.int 8) .nil)) (.int 4))) (.lst (.cons (.int 7) .nil))) (.bin .mul (.lst (.cons (.int 3) .nil)) (.int 8))) (.bin .mul (.lst (.cons (.int 5) (.cons (.int 8) (.cons (.int 4) .nil)))) (.int 4))) .nil)) .nil []))
      (.cons (.set [] 2 (.f1 .int (.ix (.v 1) (.int 0))))
      (.cons (.set [] 3 (.call 32 (.cons (.sl (.v 1) (.int 1) (.int 5)) .nil) .nil []))
      (.cons (.ite (.and (.cons (.cmp .eq (.v 2) (.int 3)) (.cons (.cmp .eq (.ix (.v 1) (.int 5)) (.int 0)) .nil)))
      (.cons (.set [] 5 (.lst .nil))
      (.cons (.for_ 7 (.rng2 (.int 1) (.int 5))
      (.cons (.set [] 5 (.bin .add (.pk 5) (.call 31 (.cons (.slH (.v 3) (.int 3)) (.cons (.v 7) .nil)) .nil [])))
      .nil) [])
      (.cons (.ret [5] (.call 29 (.cons (.v 5) .nil) .nil []))
      .nil)))
      .nil)
      (.cons (.ite (.cmp .le (.v 2) (.int 3))
      (.cons (.ret [] (.call 29 (.cons (.call 30 (.cons (.slH (.v 3) (.ix (.lst (.cons (.int 2) (.cons (.int 3) (.cons (.int 3) (.cons (.int 4) .nil))))) (.v 2))) .nil) .nil []) .nil) .nil []))
      .nil)
      .nil)
      (.cons (.ite (.cmp .eq (.v 2) (.int 4))
      (.cons (.ret [] (.call 29 (.cons (.bin .add (.bin .add (.call 31 (.cons (.slH (.v 3) (.int 2)) (.cons (.int 1) .nil)) .nil []) (.call 31 (.cons (.slH (.v 3) (.int 2)) (.cons (.int 2) .nil)) .nil [])) (.call 31 (.cons (.slH (.v 3) (.int 2)) (.cons (.int 3) .nil)) .nil [])) .nil) .nil []))
      .nil)
      .nil)
      (.cons (.set [] 4 (.f1 .tuple (.comp (.ix (.v 3) (.v 11)) 11 (.sl (.v 1) (.int 6) (.bin .add (.int 8) (.f1 .int (.ix (.v 1) (.int 5))))))))
      (.cons (.ite (.cmp .le (.v 2) (.int 6))
      (.cons (.set [] 8 (.slH (.v 4) (.bin .add (.int 2) (.bin .mod (.f1 .int (.ix (.v 1) (.int 5))) (.int 3)))))
      (.cons (.set [] 5 (.lst (.cons (.v 8) .nil)))
      (.cons (.for_ 9 (.rng1 (.f1 .len (.v 8)))
      (.cons (.app [] 5 (.call 28 (.cons (.v 8) (.cons (.v 9) (.cons (.bin .add (.int 5) (.bin .mod (.f1 .int (.ix (.v 1) (.int 14))) (.int 4))) .nil))) .nil []))
      (.cons (.app [] 5 (.call 28 (.cons (.v 8) (.cons (.v 9) (.cons (.bin .add (.int 3) (.bin .mod (.f1 .int (.ix (.v 1) (.int 15))) (.int 6))) .nil))) .nil []))
      .nil)) [])
      (.cons (.ret [5] (.call 29 (.cons (.v 5) .nil) .nil []))
      .nil))))
      .nil)
      (.cons (.ite (.cmp .eq (.v 2) (.int 7))
      (.cons (.set [] 10 (.comp (.bin .add (.bin .mul (.tup (.cons (.ix (.v 3) (.int 0)) .nil)) (.f1 .int (.v 12))) (.tup (.cons (.ix (.v 3) (.int 1)) .nil))) 12 (.lst (.cons (.ix (.v 1) (.int 15)) (.cons (.bin .mod (.f1 .int (.bin .add (.ix (.v 1) (.int 15)) (.int 1))) (.int 8)) (.cons (.ix (.v 1) (.int 18)) .nil))))))
      (.cons (.ite (.cmp .gt (.ix (.v 1) (.int 14)) (.int 2))
      (.cons (.set [] 10 (.comp (.bin .add (.bin .add (.bin .mul (.tup (.cons (.ix (.v 3) (.int 0)) .nil)) (.bin .add (.int 2) (.bin .mod (.f1 .int (.ix (.v 1) (.int 15))) (.int 2)))) (.tup (.cons (.ix (.v 3) (.int 1)) .nil))) (.bin .mul (.tup (.cons (.ix (.v 3) (.int 0)) (.cons (.ix (.v 3) (.int 1)) .nil))) (.v 6))) 6 (.rng1 (.int 3))))
      .nil)
      .nil)
      (.cons (.ret [] (.call 29 (.cons (.v 10) .nil) .nil []))
      .nil)))
      .nil)
      (.cons (.set [] 5 (.lst (.cons (.v 4) .nil)))
      (.cons (.for_ 6 (.rng1 (.int 3))
      (.cons (.app [] 5 (.call 33 (.cons (.v 4) (.cons (.ix (.v 1) (.bin .add (.int 14) (.bin .mul (.int 3) (.v 6)))) (.cons (.ix (.v 1) (.bin .add (.int 15) (.bin .mul (.int 3) (.v 6)))) (.cons (.ix (.v 3) (.ix (.v 1) (.bin .add (.int 16) (.bin .mul (.int 3) (.v 6))))) .nil)))) .nil []))
      .nil) [])
      (.cons (.ite (.cmp .ge (.v 2) (.int 10))
      (.cons (.app [] 5 (.call 33 (.cons (.ix (.pk 5) (.int 1)) (.cons (.ix (.v 1) (.int 23)) (.cons (.ix (.v 1) (.int 24)) (.cons (.ix (.v 3) (.ix (.v 1) (.int 25))) .nil)))) .nil []))
      .nil)
      .nil)
      (.cons (.ret [5] (.call 29 (.cons (.v 5) .nil) .nil []))
      .nil)))))))))))))⟩
def fd35 : Fd := ⟨1, 1, (.cons (.ret [] (.mx2 (.neg (.int 999999)) (.mn2 (.int 999999) (.v 0))))
      .nil)⟩
def fd36 : Fd := ⟨3, 3, (.cons (.ite (.cmp .eq (.ix (.v 0) (.int 0)) (.str "number"))
      (.cons (.ret [] (.ix (.v 0) (.int 1)))
      .nil)
      .nil)
      (.cons (.ite (.cmp .eq (.ix (.v 0) (.int 0)) (.str "next"))
      (.cons (.ret [] (.ix (.v 1) (.bin .mod (.f1 .int (.bin .add (.v 2) (.int 1))) (.f1 .len (.v 1)))))
      .nil)
      .nil)
      (.cons (.ite (.cmp .eq (.ix (.v 0) (.int 0)) (.str "ahead"))
      (.cons (.ret [] (.ix (.v 1) (.bin .mod (.f1 .int (.bin .sub (.v 2) (.int 1))) (.f1 .len (.v 1)))))
      .nil)
      .nil)
      (.cons (.ret [] (.ix (.v 1) (.v 2)))
      .nil))))⟩
def fd37 : Fd := ⟨3, 5, (.cons (.set [] 3 (.call 36 (.cons (.ix (.v 0) (.int 1)) (.cons (.v 1) (.cons (.v 2) .nil))) .nil []))
      (.cons (.ite (.cmp .eq (.ix (.v 0) (.int 0)) (.str "odd"))
      (.cons (.ret [] (.cmp .eq (.bin .mod (.f1 .int (.v 3)) (.int 2)) (.int 1)))
      .nil)
      .nil)
      (.cons (.set [] 4 (.call 36 (.cons (.ix (.v 0) (.int 2)) (.cons (.v 1) (.cons (.v 2) .nil))) .nil []))
      (.cons (.ite (.cmp .eq (.ix (.v 0) (.int 0)) (.str "below"))
      (.cons (.ret [] (.cmp .lt (.v 3) (.v 4)))
      .nil)
      .nil)
      (.cons (.ret [] (.cmp .eq (.v 3) (.v 4)))
      .nil)))))⟩
def fd38 : Fd := ⟨2, 7, (.cons (.set [] 2 (.ix (.v 0) (.int 0)))
      (.cons (.ite (.cmp .eq (.v 2) (.str "number"))
      (.cons (.ret [] (.ix (.v 0) (.int 1)))
      .nil)
      .nil)
      (.cons (.ite (.cmp .eq (.v 2) (.str "greatest"))
      (.cons (.ret [] (.f1 .max (.v 1)))
      .nil)
      .nil)
      (.cons (.ite (.cmp .eq (.v 2) (.str "least"))
      (.cons (.ret [] (.f1 .min (.v 1)))
      .nil)
      .nil)
      (.cons (.ite (.cmp .eq (.v 2) (.str "houses"))
      (.cons (.ret [] (.f1 .len (.v 1)))
      .nil)
      .nil)
      (.cons (.ite (.cmp .eq (.v 2) (.str "kinds"))
      (.cons (.ret [] (.f1 .len (.compIf (.v 5) 5 (.rng1 (.f1 .len (.v 1))) (.cmp .nin (.ix (.v 1) (.v 5)) (.slH (.v 1) (.v 5))))))
      .nil)
      .nil)
      (.cons (.ite (.cmp .eq (.v 2) (.str "total"))
      (.cons (.ret [] (.f1 .sum (.v 1)))
      .nil)
      .nil)
      (.cons (.ite (.cmp .eq (.v 2) (.str "count"))
      (.cons (.ret [] (.f1 .len (.compIf (.v 6) 6 (.rng1 (.f1 .len (.v 1))) (.call 37 (.cons (.ix (.v 0) (.int 1)) (.cons (.v 1) (.cons (.v 6) .nil))) .nil []))))
      .nil)
      .nil)
      (.cons (.set [] 3 (.call 38 (.cons (.ix (.v 0) (.int 1)) (.cons (.v 1) .nil)) .nil []))
      (.cons (.set [] 4 (.call 38 (.cons (.ix (.v 0) (.int 2)) (.cons (.v 1) .nil)) .nil []))
      (.cons (.ite (.cmp .eq (.v 2) (.str "choose"))
      (.cons (.ite (.cmp .ne (.v 3) (.int 0))
      (.cons (.ret [] (.v 4))
      .nil)
      .nil)
      (.cons (.ret [] (.call 38 (.cons (.ix (.v 0) (.int 3)) (.cons (.v 1) .nil)) .nil []))
      .nil))
      .nil)
      (.cons (.ite (.cmp .eq (.v 2) (.str "plus"))
      (.cons (.ret [] (.call 35 (.cons (.bin .add (.v 3) (.v 4)) .nil) .nil []))
      .nil)
      .nil)
      (.cons (.ite (.cmp .eq (.v 2) (.str "minus"))
      (.cons (.ret [] (.call 35 (.cons (.bin .sub (.v 3) (.v 4)) .nil) .nil []))
      .nil)
      .nil)
      (.cons (.ite (.cmp .eq (.v 2) (.str "times"))
      (.cons (.ret [] (.call 35 (.cons (.bin .mul (.v 3) (.v 4)) .nil) .nil []))
      .nil)
      .nil)
      (.cons (.ite (.cmp .eq (.v 2) (.str "rest"))
      (.cons (.ite (.cmp .gt (.v 4) (.int 0))
      (.cons (.ret [] (.bin .mod (.f1 .int (.v 3)) (.v 4)))
      .nil)
      .nil)
      (.cons (.ret [] (.int 0))
      .nil))
      .nil)
      (.cons (.ite (.cmp .eq (.v 2) (.str "less"))
      (.cons (.ret [] (.f1 .int (.cmp .lt (.v 3) (.v 4))))
      .nil)
      .nil)
      (.cons (.ret [] (.f1 .int (.cmp .eq (.v 3) (.v 4))))
      .nil)))))))))))))))))⟩
def fd39 : Fd := ⟨1, 3, (.cons (.set [] 1 (.bin .mod (.f1 .int (.ix (.v 0) (.int 0))) (.int 18)))
      (.cons (.set [] 2 (.tup (.cons (.str "number") (.cons (.bin .add (.int 1) (.bin .mod (.f1 .int (.ix (.v 0) (.int 1))) (.int 6))) .nil))))
      (.cons (.ite (.cmp .le (.v 1) (.int 3))
      (.cons (.ret [] (.tup (.cons (.str "greatest") .nil)))
      .nil)
      .nil)
      (.cons (.ite (.cmp .eq (.v 1) (.int 4))
      (.cons (.ret [] (.tup (.cons (.str "least") .nil)))
      .nil)
      .nil)
      (.cons (.ite (.cmp .le (.v 1) (.int 6))
      (.cons (.ret [] (.tup (.cons (.str "houses") .nil)))
      .nil)
      .nil)
      (.cons (.ite (.cmp .eq (.v 1) (.int 7))
      (.cons (.ret [] (.tup (.cons (.str "total") .nil)))
      .nil)
      .nil)
      (.cons (.ite (.cmp .eq (.v 1) (.int 8))
      (.cons (.ret [] (.tup (.cons (.str "less") (.cons (.v 2) (.cons (.tup (.cons (.str "greatest") .nil)) .nil)))))
      .nil)
      .nil)
      (.cons (.ite (.cmp .eq (.v 1) (.int 9))
      (.cons (.ret [] (.tup (.cons (.str "count") (.cons (.tup (.cons (.str "odd") (.cons (.tup (.cons (.str "me") .nil)) .nil))) .nil))))
      .nil)
      .nil)
      (.cons (.ite (.cmp .eq (.v 1) (.int 10))
      (.cons (.ret [] (.tup (.cons (.str "count") (.cons (.tup (.cons (.str "below") (.cons (.tup (.cons (.str "me") .nil)) (.cons (.tup (.cons (.str "next") .nil)) .nil)))) .nil))))
      .nil)
      .nil)
      (.cons (.ite (.cmp .eq (.v 1) (.int 11))
      (.cons (.ret [] (.tup (.cons (.str "rest") (.cons (.tup (.cons (.str "total") .nil)) (.cons (.tup (.cons (.str "number") (.cons (.bin .add (.int 2) (.bin .mod (.f1 .int (.ix (.v 0) (.int 1))) (.int 3))) .nil))) .nil)))))
      .nil)
      .nil)
      (.cons (.ite (.cmp .eq (.v 1) (.int 12))
      (.cons (.ret [] (.tup (.cons (.str "plus") (.cons (.tup (.cons (.str "times") (.cons (.tup (.cons (.str "greatest") .nil)) (.cons (.tup (.cons (.str "number") (.cons (.int 3) .nil))) .nil)))) (.cons (.tup (.cons (.str "houses") .nil)) .nil)))))
      .nil)
      .nil)
      (.cons (.ite (.cmp .eq (.v 1) (.int 13))
      (.cons (.ret [] (.tup (.cons (.str "kinds") .nil)))
      .nil)
      .nil)
      (.cons (.ite (.cmp .eq (.v 1) (.int 14))
      (.cons (.ret [] (.tup (.cons (.str "choose") (.cons (.tup (.cons (.str "less") (.cons (.tup (.cons (.str "houses") .nil)) (.cons (.tup (.cons (.str "number") (.cons (.bin .add (.int 2) (.bin .mod (.f1 .int (.ix (.v 0) (.int 2))) (.int 3))) .nil))) .nil)))) (.cons (.tup (.cons (.str "least") .nil)) (.cons (.tup (.cons (.str "greatest") .nil)) .nil))))))
      .nil)
      .nil)
      (.cons (.ite (.cmp .eq (.v 1) (.int 15))
      (.cons (.ret [] (.tup (.cons (.str "same") (.cons (.tup (.cons (.str "count") (.cons (.tup (.cons (.str "alike") (.cons (.tup (.cons (.str "ahead") .nil)) (.cons (.tup (.cons (.str "next") .nil)) .nil)))) .nil))) (.cons (.tup (.cons (.str "minus") (.cons (.tup (.cons (.str "houses") .nil)) (.cons (.tup (.cons (.str "kinds") .nil)) .nil)))) .nil)))))
      .nil)
      .nil)
      (.cons (.ite (.cmp .eq (.v 1) (.int 16))
      (.cons (.ret [] (.tup (.cons (.str "minus") (.cons (.tup (.cons (.str "greatest") .nil)) (.cons (.tup (.cons (.str "least") .nil)) .nil)))))
      .nil)
      .nil)
      (.cons (.ret [] (.v 2))
      .nil))))))))))))))))⟩
def fd40 : Fd := ⟨3, 10, (.cons (.set [] 3 .dT)
      (.cons (.for_ 4 (.v 0)
      (.cons (.set [] 5 (.call 38 (.cons (.v 1) (.cons (.v 4) .nil)) .nil []))
      (.cons (.for_ 6 (.rng1 (.f1 .len (.v 4)))
      (.cons (.set [] 7 (.call 28 (.cons (.v 4) (.cons (.v 6) (.cons (.v 2) .nil))) .nil []))
      (.cons (.for_ 8 (.rng2 (.int 1) (.bin .add (.v 2) (.int 1)))
      (.cons (.set [] 9 (.slL (.v 7) (.bin .sub (.v 2) (.v 8))))
      (.cons (.ite (.cmp .nin (.v 9) (.pk 3))
      (.cons (.put [] 3 (.v 9) (.tup (.cons (.bool true) (.cons (.v 5) .nil))))
      .nil)
      (.cons (.ite (.cmp .ne (.ix (.ix (.pk 3) (.v 9)) (.int 1)) (.v 5))
      (.cons (.put [] 3 (.v 9) (.tup (.cons (.bool false) (.cons (.ix (.ix (.pk 3) (.v 9)) (.int 1)) .nil))))
      .nil)
      .nil)
      .nil))
      .nil)) [])
      .nil)) [])
      .nil)) [])
      (.cons (.ret [3] (.v 3))
      .nil)))⟩
def fd41 : Fd := ⟨2, 6, (.cons (.set [] 2 (.lst .nil))
      (.cons (.for_ 3 (.rng1 (.f1 .len (.v 0)))
      (.cons (.set [] 4 .none)
      (.cons (.for_ 5 (.rng2 (.int 1) (.int 17))
      (.cons (.ite (.ix (.ix (.v 1) (.call 28 (.cons (.v 0) (.cons (.v 3) (.cons (.v 5) .nil))) .nil [])) (.int 0))
      (.cons (.set [] 4 (.v 5))
      (.cons .brk
      .nil))
      .nil)
      .nil) [])
      (.cons (.app [] 2 (.v 4))
      .nil))) [])
      (.cons (.ret [2] (.v 2))
      .nil)))⟩
def fd42 : Fd := ⟨3, 8, (.cons (.set [] 3 (.lst .nil))
      (.cons (.for_ 4 (.v 0)
      (.cons (.set [] 5 (.call 41 (.cons (.v 4) (.cons (.v 1) .nil)) .nil []))
      (.cons (.set [] 6 (.compIf (.v 7) 7 (.v 5) (.notN (.v 7))))
      (.cons (.ite (.or (.cons (.cmp .eq (.f1 .len (.v 6)) (.int 0)) (.cons (.and (.cons (.cmp .eq (.v 2) (.str "all")) (.cons (.cmp .isin .none (.v 5)) .nil))) .nil)))
      (.cons (.app [] 3 .none)
      .nil)
      (.cons (.ite (.cmp .eq (.v 2) (.str "all"))
      (.cons (.app [] 3 (.f1 .max (.v 6)))
      .nil)
      (.cons (.app [] 3 (.f1 .min (.v 6)))
      .nil))
      .nil))
      .nil))) [])
      (.cons (.ret [3] (.v 3))
      .nil)))⟩
def fd43 : Fd := ⟨2, 8, (.cons (.set [] 2 (.comp (.f1 .min (.comp (.call 28 (.cons (.v 6) (.cons (.v 7) (.cons (.int 24) .nil))) .nil []) 7 (.rng1 (.f1 .len (.v 6))))) 6 (.v 0)))
      (.cons (.set [] 3 (.comp (.call 38 (.cons (.v 1) (.cons (.v 6) .nil)) .nil []) 6 (.v 0)))
      (.cons (.for_ 4 (.rng1 (.f1 .len (.v 0)))
      (.cons (.for_ 5 (.rng1 (.f1 .len (.v 0)))
      (.cons (.ite (.and (.cons (.cmp .eq (.ix (.v 2) (.v 4)) (.ix (.v 2) (.v 5))) (.cons (.cmp .ne (.ix (.v 3) (.v 4)) (.ix (.v 3) (.v 5))) .nil)))
      (.cons (.ret [] (.tup (.cons (.ix (.v 0) (.v 4)) (.cons (.ix (.v 0) (.v 5)) .nil))))
      .nil)
      .nil)
      .nil) [])
      .nil) [])
      (.cons (.ret [] .none)
      .nil))))⟩
def fd44 : Fd := ⟨2, 2, (.cons (.ite (.isN (.v 1))
      (.cons (.ret [] (.isN (.v 0)))
      .nil)
      .nil)
      (.cons (.ret [] (.and (.cons (.call 23 (.cons (.v 0) .nil) .nil []) (.cons (.cmp .eq (.v 0) (.v 1)) .nil))))
      .nil))⟩
def fd45 : Fd := ⟨5, 7, (.cons (.try_ (.cons (.set [] 6 (.call 22 (.cons (.v 0) (.cons (.v 1) .nil)) (.cons (.v 2) .nil) []))
      .nil)
      2 5 (.iff (.or (.cons (.not (.isaC 0 "RingError")) (.cons (.isaC 3 "TooSoon") .nil))) (.bool false) (.iff (.or (.cons (.isaC 4 "GoesRound") (.cons (.isaC 1 "TooManyCases") (.cons (.not (.isaC 5 "ValueError")) .nil)))) (.bool false) (.ret (.and (.cons (.notN (.v 3)) (.cons (.isa .tuple (.fld 2 "one")) (.cons (.cmp .eq (.tup (.cons (.fld 2 "one") (.cons (.fld 2 "two") .nil))) (.v 3)) .nil))))))))
      (.cons (.ret [] (.and (.cons (.isN (.v 3)) (.cons (.call 44 (.cons (.v 6) (.cons (.f1 .max (.v 4)) .nil)) .nil []) .nil))))
      .nil))⟩
def fd46 : Fd := ⟨3, 9, (.cons (.set [] 3 (.call 40 (.cons (.v 0) (.cons (.v 1) (.cons (.int 16) .nil))) .nil []))
      (.cons (.set [] 4 (.call 43 (.cons (.v 0) (.cons (.v 1) .nil)) .nil []))
      (.cons (.for_ 5 (.lst (.cons (.str "some") (.cons (.str "all") .nil)))
      (.cons (.set [] 6 (.call 42 (.cons (.v 0) (.cons (.v 3) (.cons (.v 5) .nil))) .nil []))
      (.cons (.for_ 7 (.v 2)
      (.cons (.set [] 8 (.bin .mod (.f1 .int (.v 7)) (.f1 .len (.v 0))))
      (.cons (.ite (.not (.call 44 (.cons (.call 21 (.cons (.ix (.v 0) (.v 8)) (.cons (.v 0) (.cons (.v 1) .nil))) (.cons (.v 5) .nil) []) (.cons (.ix (.v 6) (.v 8)) .nil)) .nil []))
      (.cons (.ret [] (.bool false))
      .nil)
      .nil)
      (.cons (.ite (.and (.cons (.cmp .eq (.v 5) (.str "some")) (.cons (.not (.call 44 (.cons (.call 21 (.cons (.ix (.v 0) (.v 8)) (.cons (.v 0) (.cons (.v 1) .nil))) .nil [(PyData.str "some")]) (.cons (.ix (.v 6) (.v 8)) .nil)) .nil [])) .nil)))
      (.cons (.ret [] (.bool false))
      .nil)
      .nil)
      .nil))) [])
      (.cons (.ite (.not (.call 45 (.cons (.v 0) (.cons (.v 1) (.cons (.v 5) (.cons (.v 4) (.cons (.v 6) .nil))))) .nil []))
      (.cons (.ret [] (.bool false))
      .nil)
      .nil)
      .nil))) [])
      (.cons (.ite (.notN (.v 4))
      (.cons (.ret [] (.bool true))
      .nil)
      .nil)
      (.cons (.ret [] (.call 44 (.cons (.call 22 (.cons (.v 0) (.cons (.v 1) .nil)) .nil [(PyData.str "some")]) (.cons (.f1 .max (.call 42 (.cons (.v 0) (.cons (.v 3) (.cons (.str "some") .nil))) .nil [])) .nil)) .nil []))
      .nil)))))⟩
def fd47 : Fd := ⟨1, 12, (.cons (.set [] 1 (.call 34 (.cons (.v 0) .nil) .nil []))
      (.cons (.set [] 2 (.call 39 (.cons (.call 25 (.cons (.call 24 (.cons (.v 0) (.cons (.int 1) .nil)) .nil []) (.cons (.lst (.cons (.int 18) (.cons (.int 6) (.cons (.int 6) .nil)))) .nil)) .nil []) .nil) .nil []))
      (.cons (.set [] 3 (.call 25 (.cons (.call 24 (.cons (.v 0) (.cons (.int 2) .nil)) .nil []) (.cons (.lst (.cons (.int 24) (.cons (.int 24) (.cons (.int 24) (.cons (.int 4) (.cons (.int 4) (.cons (.int 24) (.cons (.int 4) .nil)))))))) .nil)) .nil []))
      (.cons (.set [] 4 (.ix (.lst (.cons (.tup (.cons (.str "houses") .nil)) (.cons (.tup (.cons (.str "total") .nil)) (.cons (.tup (.cons (.str "plus") (.cons (.tup (.cons (.str "total") .nil)) (.cons (.tup (.cons (.str "houses") .nil)) .nil)))) (.cons (.tup (.cons (.str "minus") (.cons (.tup (.cons (.str "houses") .nil)) (.cons (.tup (.cons (.str "least") .nil)) .nil)))) .nil))))) (.ix (.v 3) (.int 4))))
      (.cons (.ite (.and (.cons (.chain .le .le (.int 5) (.ix (.call 25 (.cons (.call 24 (.cons (.v 0) (.cons (.int 0) .nil)) .nil []) (.cons (.lst (.cons (.int 12) .nil)) .nil)) .nil []) (.int 0)) (.int 7)) (.cons (.cmp .gt (.ix (.v 3) (.int 6)) (.int 0)) .nil)))
      (.cons (.set [] 2 (.v 4))
      .nil)
      .nil)
      (.cons (.set [] 5 (.call 21 (.cons (.ix (.v 1) (.bin .mod (.f1 .int (.ix (.v 3) (.int 0))) (.f1 .len (.v 1)))) (.cons (.v 1) (.cons (.v 2) .nil))) (.cons (.str "all") .nil) []))
      (.cons (.ite (.not (.call 46 (.cons (.v 1) (.cons (.v 2) (.cons (.slH (.v 3) (.int 2)) .nil))) .nil []))
      (.cons (.ret [] (.bool false))
      .nil)
      .nil)
      (.cons (.set [] 6 (.slH (.ix (.v 1) (.bin .mod (.f1 .int (.ix (.v 3) (.int 5))) (.f1 .len (.v 1)))) (.bin .add (.int 1) (.f1 .int (.ix (.v 3) (.int 3))))))
      (.cons (.set [] 7 (.bin .add (.f1 .max (.v 6)) (.int 1)))
      (.cons (.set [] 8 (.tup (.cons (.str "greatest") .nil)))
      (.cons (.ite (.cmp .gt (.v 7) (.int 999))
      (.cons (.set [] 7 (.bin .sub (.f1 .min (.v 6)) (.int 1)))
      (.cons (.set [] 8 (.tup (.cons (.str "least") .nil)))
      .nil))
      .nil)
      (.cons (.set [] 9 (.comp (.ix (.v 1) (.bin .mod (.f1 .int (.v 11)) (.f1 .len (.v 1)))) 11 (.slH (.v 3) (.int 3))))
      (.cons (.set [] 9 (.call 29 (.cons (.bin .add (.v 9) (.lst (.cons (.v 6) (.cons (.bin .add (.v 6) (.v 6)) (.cons (.bin .add (.v 6) (.tup (.cons (.v 7) .nil))) .nil))))) .nil) .nil []))
      (.cons (.set [] 10 (.index (.v 9) (.call 27 (.cons (.v 6) .nil) .nil [])))
      (.cons (.ite (.or (.cons (.not (.call 46 (.cons (.v 9) (.cons (.v 4) (.cons (.lst (.cons (.v 10) (.cons (.ix (.v 3) (.int 1)) .nil))) .nil))) .nil [])) (.cons (.not (.call 46 (.cons (.v 9) (.cons (.v 8) (.cons (.lst (.cons (.v 10) .nil)) .nil))) .nil [])) .nil)))
      (.cons (.ret [] (.bool false))
      .nil)
      .nil)
      (.cons (.ret [] (.call 44 (.cons (.call 21 (.cons (.ix (.v 1) (.bin .mod (.f1 .int (.ix (.v 3) (.int 0))) (.f1 .len (.v 1)))) (.cons (.v 1) (.cons (.v 2) .nil))) (.cons (.str "all") .nil) []) (.cons (.v 5) .nil)) .nil []))
      .nil))))))))))))))))⟩
def T (f : Nat) : Option Fd := ([fd0, fd1, fd2, fd3, fd4, fd5, fd6, fd7, fd8, fd9, fd10, fd11, fd12, fd13, fd14, fd15, fd16, fd17, fd18, fd19, fd20, fd21, fd22, fd23, fd24, fd25, fd26, fd27, fd28, fd29, fd30, fd31, fd32, fd33, fd34, fd35, fd36, fd37, fd38, fd39, fd40, fd41, fd42, fd43, fd44, fd45, fd46, fd47] : List Fd)[f]?
def XT (k : Nat) : Option Xc := ([⟨"RingError", [], false⟩, ⟨"TooManyCases", ["count"], false⟩, ⟨"NotClear", ["one", "two"], true⟩, ⟨"TooSoon", ["ring", "house"], false⟩, ⟨"GoesRound", ["ring"], false⟩, ⟨"ValueError", [], false⟩] : List Xc)[k]?
def G : Gls where
  g := fun x => ([("LIMIT", (PyData.int 999999)), ("MOST_FIRST", (PyData.int 14)), ("MOST_FIRST_AT", (PyData.int 21))] : List (Str × PyData)).lookup x
  sub := fun x k => match ([("RingError", [0, 5]), ("TooManyCases", [1, 0, 5]), ("NotClear", [2, 0, 5]), ("TooSoon", [3, 0, 5]), ("GoesRound", [4, 0, 5]), ("ValueError", [5])] : List (Str × List Nat)).lookup x with
    | some l => l.contains k
    | none => false
  id := fun x => ([("RingError", 0), ("TooManyCases", 1), ("NotClear", 2), ("TooSoon", 3), ("GoesRound", 4), ("ValueError", 5)] : List (Str × Nat)).lookup x
end PV.F77
end
section
set_option Elab.async false
set_option linter.all false
/-! PVS: rewriting rules of the evaluator, rules of loops. -/
namespace PV
open PySem
variable {G : Gls} {X : Nat → Option Xc} {W : Nat} {T : Nat → Option Fd} {C : Nat → List D → R D} {ρ : Env}

@[simp] theorem slot_zero (d : D) (r : Env) : slot (some d :: r) 0 = .ok d := (rfl)
@[simp] theorem slot_succ (x : Option D) (r : Env) (i : Nat) : slot (x :: r) (i + 1) = slot r i := (rfl)

@[simp] theorem ev_v (i : Nat) : evE G C (.v i) ρ = slot ρ i := (rfl)
@[simp] theorem ev_pk (i : Nat) : evE G C (.pk i) ρ = slot ρ i := (rfl)
@[simp] theorem ev_none : evE G C .none ρ = .ok .none := (rfl)
@[simp] theorem ev_bool (b : Bool) : evE G C (.bool b) ρ = .ok (.bool b) := (rfl)
@[simp] theorem ev_int (i : Int) : evE G C (.int i) ρ = .ok (.int i) := (rfl)
@[simp] theorem ev_str (x : Str) : evE G C (.str x) ρ = .ok (.str x) := (rfl)
theorem ev_glob {x : Str} {d : D} (h : G.g x = some d) : evE G C (.glob x) ρ = .ok d := by
  show (match G.g x with | some d => R.ok d | none => .bad) = _
  rw [h]
@[simp] theorem ev_bin (o : B2) (a b : E) : evE G C (.bin o a b) ρ = (evE G C a ρ).bind fun x => (evE G C b ρ).bind fun y => bin2 o x y := (rfl)
@[simp] theorem ev_neg (a : E) : evE G C (.neg a) ρ = (evE G C a ρ).bind fun x => (asInt x).bind fun i => .ok (.int (-i)) := (rfl)
@[simp] theorem ev_cmp (o : Cm) (a b : E) : evE G C (.cmp o a b) ρ = (evE G C a ρ).bind fun x => (evE G C b ρ).bind fun y => b2 (cmp2 o x y) := (rfl)
@[simp] theorem ev_chain (o p : Cm) (a b c : E) : evE G C (.chain o p a b c) ρ = (evE G C a ρ).bind fun x => (evE G C b ρ).bind fun y => (cmp2 o x y).bind fun k => if k = true then (evE G C c ρ).bind fun z => b2 (cmp2 p y z) else .ok (.bool false) := (rfl)
@[simp] theorem ev_isN (a : E) : evE G C (.isN a) ρ = (evE G C a ρ).bind fun x => .ok (.bool (isNone x)) := (rfl)
@[simp] theorem ev_notN (a : E) : evE G C (.notN a) ρ = (evE G C a ρ).bind fun x => .ok (.bool (!isNone x)) := (rfl)
@[simp] theorem ev_and (es : Es) : evE G C (.and es) ρ = evAnd G C es ρ := (rfl)
@[simp] theorem ev_or (es : Es) : evE G C (.or es) ρ = evOr G C es ρ := (rfl)
@[simp] theorem ev_not (a : E) : evE G C (.not a) ρ = (evE G C a ρ).bind fun x => (asBool x).bind fun b => .ok (.bool (!b)) := (rfl)
@[simp] theorem ev_ite (c a b : E) : evE G C (.ite c a b) ρ = (evE G C c ρ).bind fun x => (asBool x).bind fun k => if k = true then evE G C a ρ else evE G C b ρ := (rfl)
@[simp] theorem ev_tup (es : Es) : evE G C (.tup es) ρ = (evEs G C es ρ).bind fun xs => .ok (.tuple xs) := (rfl)
@[simp] theorem ev_lst (es : Es) : evE G C (.lst es) ρ = (evEs G C es ρ).bind fun xs => .ok (.list xs) := (rfl)
@[simp] theorem ev_dT : evE G C .dT ρ = .ok (.dict []) := (rfl)
@[simp] theorem ev_ix (a i : E) : evE G C (.ix a i) ρ = (evE G C a ρ).bind fun x => (evE G C i ρ).bind fun y => index2 x y := (rfl)
@[simp] theorem ev_sl (a lo hi : E) : evE G C (.sl a lo hi) ρ = (evE G C a ρ).bind fun x => (evE G C lo ρ).bind fun l => (asInt l).bind fun i => (evE G C hi ρ).bind fun h => (asInt h).bind fun j => slice3 x (fun n => bound n i) (fun n => bound n j) := (rfl)
@[simp] theorem ev_slL (a lo : E) : evE G C (.slL a lo) ρ = (evE G C a ρ).bind fun x => (evE G C lo ρ).bind fun l => (asInt l).bind fun i => slice3 x (fun n => bound n i) (fun n => n) := (rfl)
@[simp] theorem ev_slH (a hi : E) : evE G C (.slH a hi) ρ = (evE G C a ρ).bind fun x => (evE G C hi ρ).bind fun h => (asInt h).bind fun j => slice3 x (fun _ => 0) (fun n => bound n j) := (rfl)
@[simp] theorem ev_call (f : Nat) (as ks : Es) (dfl : List D) : evE G C (.call f as ks dfl) ρ = (evEs G C as ρ).bind fun xs => (evEs G C ks ρ).bind fun ys => C f (xs ++ ys ++ dfl) := (rfl)
@[simp] theorem ev_f1 (f : F1) (a : E) : evE G C (.f1 f a) ρ = (evE G C a ρ).bind fun x => call1 f x := (rfl)
@[simp] theorem ev_mx2 (a b : E) : evE G C (.mx2 a b) ρ = (evE G C a ρ).bind fun x => (evE G C b ρ).bind fun y => (asInt x).bind fun i => (asInt y).bind fun j => .ok (.int (if j > i then j else i)) := (rfl)
@[simp] theorem ev_mn2 (a b : E) : evE G C (.mn2 a b) ρ = (evE G C a ρ).bind fun x => (evE G C b ρ).bind fun y => (asInt x).bind fun i => (asInt y).bind fun j => .ok (.int (if j < i then j else i)) := (rfl)
@[simp] theorem ev_isa (t : Ty) (a : E) : evE G C (.isa t a) ρ = (evE G C a ρ).bind fun x => if x.plain = true then .ok (.bool (isTy t x)) else .bad := (rfl)
@[simp] theorem ev_get2 (d k x : E) : evE G C (.get2 d k x) ρ = (evE G C d ρ).bind fun y => match y with
    | .dict kvs => (evE G C k ρ).bind fun z => (evE G C x ρ).bind fun w => if tkey z = true then .ok ((dget kvs z).getD w) else .bad
    | _ => .bad := (rfl)
@[simp] theorem ev_comp (elt : E) (i : Nat) (it : E) : evE G C (.comp elt i it) ρ = ((evE G C it ρ).bind items).bind fun xs => (mapR (fun d => (evE G C elt (ρ.set i (some d))).noEx) xs).bind fun ys => .ok (.list ys) := (rfl)
@[simp] theorem ev_compIf (elt : E) (i : Nat) (it c : E) : evE G C (.compIf elt i it c) ρ = ((evE G C it ρ).bind items).bind fun xs => (filterMapR (fun d => ((evE G C c (ρ.set i (some d))).bind asBool).noEx) (fun d => (evE G C elt (ρ.set i (some d))).noEx) xs).bind fun ys => .ok (.list ys) := (rfl)
@[simp] theorem ev_compD (elt : E) (i j : Nat) : evE G C (.compD elt i j) ρ = ((slot ρ j).bind dkeys).bind fun xs => (mapR (fun d => (evE G C elt (ρ.set i (some d))).noEx) xs).bind fun ys => .ok (.list ys) := (rfl)
def rngR (j : Int) : R D := if inR j = true then .ok (.list (rngD 0 j.toNat 1)) else .bad
def rngR2 (i j : Int) : R D := if inR i = true ∧ inR j = true then .ok (.list (rngD i (j - i).toNat 1)) else .bad
def rngR3 (i j k : Int) : R D := if inR i = true ∧ inR j = true ∧ inR k = true ∧ 0 < k then .ok (.list (rngD i (turns i j k) k)) else .bad
@[simp] theorem ev_rng1 (a : E) : evE G C (.rng1 a) ρ = (evE G C a ρ).bind fun x => (asInt x).bind fun j => rngR j := (rfl)
@[simp] theorem ev_rng2 (a b : E) : evE G C (.rng2 a b) ρ = (evE G C a ρ).bind fun x => (evE G C b ρ).bind fun y => (asInt x).bind fun i => (asInt y).bind fun j => rngR2 i j := (rfl)
@[simp] theorem ev_rng3 (a b c : E) : evE G C (.rng3 a b c) ρ = (evE G C a ρ).bind fun x => (evE G C b ρ).bind fun y => (evE G C c ρ).bind fun z => (asInt x).bind fun i => (asInt y).bind fun j => (asInt z).bind fun k => rngR3 i j k := (rfl)
@[simp] theorem evs_nil : evEs G C .nil ρ = .ok [] := (rfl)
@[simp] theorem evs_cons (e : E) (r : Es) : evEs G C (.cons e r) ρ = (evE G C e ρ).bind fun x => (evEs G C r ρ).bind fun xs => .ok (x :: xs) := (rfl)
@[simp] theorem evand_one (e : E) : evAnd G C (.cons e .nil) ρ = evE G C e ρ := (rfl)
@[simp] theorem evand_cons (e e' : E) (r : Es) : evAnd G C (.cons e (.cons e' r)) ρ = (evE G C e ρ).bind fun x => (asBool x).bind fun k => if k = true then evAnd G C (.cons e' r) ρ else .ok (.bool false) := (rfl)
@[simp] theorem evor_one (e : E) : evOr G C (.cons e .nil) ρ = evE G C e ρ := (rfl)
@[simp] theorem evor_cons (e e' : E) (r : Es) : evOr G C (.cons e (.cons e' r)) ρ = (evE G C e ρ).bind fun x => (asBool x).bind fun k => if k = true then .ok (.bool true) else evOr G C (.cons e' r) ρ := (rfl)

/-! statements -/
@[simp] theorem ev_set (ks : List Nat) (i : Nat) (e : E) : evS G X W C (.set ks i e) ρ = (evE G C e ρ).out (clear ρ ks) fun d => .nx ((clear ρ ks).set i (some d)) := (rfl)
@[simp] theorem ev_app (ks : List Nat) (i : Nat) (e : E) : evS G X W C (.app ks i e) ρ = match (clear ρ ks)[i]? with
    | some (some (.list xs)) => (evE G C e ρ).out (clear ρ ks) fun d => if xs.length < LIM then .nx ((clear ρ ks).set i (some (.list (xs ++ [d])))) else .bad
    | _ => .bad := (rfl)
@[simp] theorem ev_put (ks : List Nat) (i : Nat) (k e : E) : evS G X W C (.put ks i k e) ρ = (evE G C e ρ).out (clear ρ ks) fun d => match (clear ρ ks)[i]? with
    | some (some (.dict kvs)) => (evE G C k ρ).out (clear ρ ks) fun j => if tkey j = true ∧ kvs.length < LIM then .nx ((clear ρ ks).set i (some (.dict (dput kvs j d)))) else .bad
    | some (some (.list xs)) => (evE G C k ρ).out (clear ρ ks) fun j => match j with
      | .int n => (match place xs.length n with
        | some m => .nx ((clear ρ ks).set i (some (.list (xs.set m d))))
        | none => .bad)
      | _ => .bad
    | _ => .bad := (rfl)
@[simp] theorem ev_ex (e : E) : evS G X W C (.ex e) ρ = (evE G C e ρ).out ρ fun _ => .nx ρ := (rfl)
@[simp] theorem ev_ret (ks : List Nat) (e : E) : evS G X W C (.ret ks e) ρ = (evE G C e ρ).out (clear ρ ks) fun d => .rt d (clear ρ ks) := (rfl)
@[simp] theorem ev_sif (c : E) (a b : Ss) : evS G X W C (.ite c a b) ρ = (evE G C c ρ).out ρ fun d => (asBool d).out ρ fun k => if k = true then evSs G X W C a ρ else evSs G X W C b ρ := (rfl)
@[simp] theorem ev_for (i : Nat) (it : E) (body : Ss) (clr : List Nat) : evS G X W C (.for_ i it body clr) ρ = ((evE G C it ρ).bind items).out ρ fun xs => evFor (evSs G X W C body) i clr xs ρ := (rfl)
@[simp] theorem ev_brk : evS G X W C .brk ρ = .bk ρ := (rfl)
@[simp] theorem ev_cont : evS G X W C .cont ρ = .ct ρ := (rfl)
@[simp] theorem ev_pass : evS G X W C .pass ρ = .nx ρ := (rfl)
@[simp] theorem evss_nil : evSs G X W C .nil ρ = .nx ρ := (rfl)
@[simp] theorem evss_cons (s : S) (r : Ss) : evSs G X W C (.cons s r) ρ = (evS G X W C s ρ).thn (evSs G X W C r) := (rfl)
@[simp] theorem clear_nil (ρ : Env) : clear ρ [] = ρ := (rfl)
@[simp] theorem clear_cons (ρ : Env) (k : Nat) (ks : List Nat) : clear ρ (k :: ks) = clear (ρ.set k none) ks := (rfl)
@[simp] theorem rbind_ok {α β : Type} (a : α) (f : α → R β) : (R.ok a).bind f = f a := (rfl)
@[simp] theorem noEx_okV {α : Type} (a : α) : (R.ok a).noEx = .ok a := (rfl)
@[simp] theorem asInt_int (i : Int) : asInt (.int i) = .ok i := (rfl)
@[simp] theorem asBool_bool (b : Bool) : asBool (.bool b) = .ok b := (rfl)
@[simp] theorem b2_ok (b : Bool) : b2 (.ok b) = .ok (.bool b) := (rfl)
@[simp] theorem items_tuple (xs : List D) : items (.tuple xs) = .ok xs := (rfl)
@[simp] theorem items_list (xs : List D) : items (.list xs) = .ok xs := (rfl)
@[simp] theorem dkeys_dict (kvs : List (D × D)) : dkeys (.dict kvs) = .ok (kvs.map (·.1)) := (rfl)
@[simp] theorem isNone_none : isNone .none = true := (rfl)
@[simp] theorem isNone_int (i : Int) : isNone (.int i) = false := (rfl)
@[simp] theorem isNone_tuple (xs : List D) : isNone (.tuple xs) = false := (rfl)

/-- what a def's run gives -/
def outR : Out → R D
  | .rt d _ => .ok d
  | .nx _ => .ok .none
  | .ex x _ => .ex x
  | _ => .bad
@[simp] theorem outR_rt (d : D) (ρ : Env) : outR (.rt d ρ) = .ok d := (rfl)
@[simp] theorem outR_nx (ρ : Env) : outR (.nx ρ) = .ok .none := (rfl)
@[simp] theorem outR_ex (d : D) (ρ : Env) : outR (.ex d ρ) = .ex d := (rfl)
theorem call_eq {f : Nat} {fd : Fd} (n : Nat) {ds : List D} (hT : T f = some fd) (hl : ds.length = fd.np) :
    callN G X W T (n + 1) f ds = outR (evSs G X W (callN G X W T n) fd.body (ds.map some ++ List.replicate (fd.ns - fd.np) none)) := by
  rw [callN]
  simp only [hT, hl, if_true]
  split <;> simp_all [outR]

/-! loops -/
theorem mapR_ok {f : D → R D} {g : D → D} : ∀ {xs : List D}, (∀ x ∈ xs, f x = .ok (g x)) → mapR f xs = .ok (xs.map g)
  | [], _ => rfl
  | x :: xs, h => by
    rw [mapR, h x (List.mem_cons_self ..), mapR_ok fun y hy => h y (List.mem_cons_of_mem _ hy)]
    rfl
theorem mapR_map {α β : Type} {f : D → R D} {e : α → D} {e' : β → D} {g : α → β} {xs : List α} (h : ∀ x ∈ xs, f (e x) = .ok (e' (g x))) : mapR f (xs.map e) = .ok ((xs.map g).map e') := by
  induction xs with
  | nil => rfl
  | cons x xs ih =>
    simp only [List.map_cons]
    rw [mapR, h x (List.mem_cons_self ..), ih fun y hy => h y (List.mem_cons_of_mem _ hy)]
    rfl
theorem rng_map (lo : Int) (n : Nat) (st : Int) : rngD lo n st = (List.range n).map fun (k : Nat) => PyData.int (lo + (k : Int) * st) := rfl
theorem mapR_rng {β : Type} {f : D → R D} {lo st : Int} {n : Nat} {e' : β → D} {g : Nat → β} (h : ∀ k, k < n → f (.int (lo + (k : Int) * st)) = .ok (e' (g k))) : mapR f (rngD lo n st) = .ok (((List.range n).map g).map e') := by
  rw [rng_map]
  exact mapR_map fun x hx => h x (List.mem_range.mp hx)
theorem filterMapR_map {α β : Type} {c : D → R Bool} {f : D → R D} {e : α → D} {e' : β → D} {p : α → Bool} {g : α → β} {xs : List α} (h : ∀ x ∈ xs, c (e x) = .ok (p x)) (h' : ∀ x ∈ xs, p x = true → f (e x) = .ok (e' (g x))) : filterMapR c f (xs.map e) = .ok (((xs.filter p).map g).map e') := by
  induction xs with
  | nil => rfl
  | cons x xs ih =>
    simp only [List.map_cons]
    rw [filterMapR, h x (List.mem_cons_self ..)]
    simp only [rbind_ok]
    have ih' := ih (fun y hy => h y (List.mem_cons_of_mem _ hy)) (fun y hy => h' y (List.mem_cons_of_mem _ hy))
    cases hp : p x with
    | true =>
      rw [if_pos rfl, h' x (List.mem_cons_self ..) hp, ih', List.filter_cons_of_pos hp]
      rfl
    | false =>
      rw [if_neg Bool.false_ne_true, ih', List.filter_cons_of_neg (by rw [hp]; exact Bool.false_ne_true)]
/-- the rule of for: an invariant, an aim for each way out -/
theorem for_rule {α : Type} {body : Env → Out} {i : Nat} {clr : List Nat} (I : Nat → Env → Prop) (Q : Out → Prop) (e : α → D) : ∀ (xs : List α) (k : Nat),
    (∀ (j : Nat) (x : α), xs[j]? = some x → ∀ ρ, I (k + j) ρ → match body (ρ.set i (some (e x))) with
      | .nx ρ' => I (k + j + 1) (clear ρ' clr)
      | .ct ρ' => I (k + j + 1) (clear ρ' clr)
      | .bk ρ' => Q (.nx (clear ρ' clr))
      | o => Q o) →
    (∀ ρ, I (k + xs.length) ρ → Q (.nx ρ)) → ∀ ρ, I k ρ → Q (evFor body i clr (xs.map e) ρ)
  | [], k, _, he, ρ, h => he ρ h
  | x :: xs, k, hs, he, ρ, h => by
    have h0 := hs 0 x rfl ρ h
    have rr := for_rule I Q e xs (k + 1) (fun j y hj ρ hI => by
      have := hs (j + 1) y (by simpa using hj) ρ (by rw [show k + (j + 1) = k + 1 + j by omega]; exact hI)
      rw [show k + (j + 1) = k + 1 + j by omega] at this
      exact this) (fun ρ hI => he ρ (by rw [List.length_cons, show k + (xs.length + 1) = k + 1 + xs.length by omega]; exact hI))
    simp only [List.map_cons]
    rw [evFor]
    cases hb : body (ρ.set i (some (e x))) with
    | nx ρ' => rw [hb] at h0; exact rr _ h0
    | ct ρ' => rw [hb] at h0; exact rr _ h0
    | bk ρ' => rw [hb] at h0; exact h0
    | rt d ρ' => rw [hb] at h0; exact h0
    | ex d ρ' => rw [hb] at h0; exact h0
    | bad => rw [hb] at h0; exact h0
/-- a for without a way out: the state behind is a fold -/
theorem for_fold {α σ : Type} {body : Env → Out} {i : Nat} {clr : List Nat} (e : α → D) (st : σ → Option D → Env) (step : σ → α → σ) (P : Nat → σ → Prop) :
    ∀ (xs : List α) (k : Nat) (s : σ), P k s → (∀ (j : Nat) (x : α) (s : σ) (o : Option D), xs[j]? = some x → P (k + j) s → ∃ o', P (k + j + 1) (step s x) ∧ ∃ ρ', (body ((st s o).set i (some (e x))) = .nx ρ' ∨ body ((st s o).set i (some (e x))) = .ct ρ') ∧ clear ρ' clr = st (step s x) o') →
    ∀ o, ∃ o', evFor body i clr (xs.map e) (st s o) = .nx (st (xs.foldl step s) o') ∧ P (k + xs.length) (xs.foldl step s)
  | [], k, s, hP, _, o => ⟨o, rfl, hP⟩
  | x :: xs, k, s, hP, h, o => by
    obtain ⟨o1, hP1, ρ', hb, hc⟩ := h 0 x s o rfl hP
    obtain ⟨o2, h2, hP2⟩ := for_fold e st step P xs (k + 1) (step s x) hP1 (fun j y s o hj hp => by
      have := h (j + 1) y s o (by simpa using hj) (by rw [show k + (j + 1) = k + 1 + j by omega]; exact hp)
      rw [show k + (j + 1) = k + 1 + j by omega] at this
      exact this) o1
    refine ⟨o2, ?_, ?_⟩
    · simp only [List.map_cons]
      rw [evFor]
      rcases hb with hb | hb
      · rw [hb]; simp only; rw [hc]; exact h2
      · rw [hb]; simp only; rw [hc]; exact h2
    · rw [List.length_cons, show k + (xs.length + 1) = k + 1 + xs.length by omega]
      exact hP2

end PV
namespace PV
open PySem
/-! data of numbers -/
abbrev tI (r : List Int) : D := .tuple (r.map .int)
abbrev tR (rs : List (List Int)) : D := .tuple (rs.map tI)
@[simp] theorem depth_ints (xs : List Int) : PyData.depthAll (xs.map PyData.int) = 0 := PySem.W.depth_ints xs
theorem plain_ints : ∀ xs : List Int, PyData.plainAll (xs.map PyData.int) = true
  | [] => rfl
  | x :: xs => by
    have := plain_ints xs
    simp [PyData.plainAll, PyData.plain, this]
@[simp] theorem fitAll_ints (xs : List Int) : fitAll (xs.map PyData.int) = true := by simp [fitAll, plain_ints]
@[simp] theorem fit_int (i : Int) : fit (.int i) = true := (rfl)
@[simp] theorem fit_str (s : Str) : fit (.str s) = true := by simp [fit, PyData.plain, PyData.depth]
@[simp] theorem fit_none : fit .none = true := by decide
@[simp] theorem fit_bool (b : Bool) : fit (.bool b) = true := by cases b <;> decide
@[simp] theorem fit_tI (r : List Int) : fit (tI r) = true := by simp [fit, PyData.plain, PyData.depth, plain_ints]
theorem fitAll_tI : ∀ (rs : List (List Int)), fitAll (rs.map tI) = true := by
  intro rs
  have a : PyData.plainAll (rs.map tI) = true := by
    induction rs with
    | nil => rfl
    | cons r rs ih => simp [PyData.plainAll, PyData.plain, plain_ints, ih]
  have b : PyData.depthAll (rs.map tI) ≤ 1 := by
    induction rs with
    | nil => simp [PyData.depthAll]
    | cons r rs ih =>
      simp only [List.map_cons, PyData.depthAll, PyData.depth, depth_ints] at *
      rw [PyData.plainAll, Bool.and_eq_true] at a
      have := ih a.2
      omega
  simp [fitAll, a]
  omega
@[simp] theorem eqv_int (i j : Int) : PyData.eqv (.int i) (.int j) = decide (i = j) := by
  rw [PyData.eqv]; by_cases h : i = j <;> simp [h]
@[simp] theorem eqv_str (i j : Str) : PyData.eqv (.str i) (.str j) = decide (i = j) := by
  simp [PyData.eqv]
  first | done | (by_cases h : i = j <;> simp [h])
@[simp] theorem eqv_tI (a b : List Int) : PyData.eqv (tI a) (tI b) = decide (a = b) := by
  show PyData.eqv (.tuple _) (.tuple _) = _
  rw [PyData.eqv, PySem.W.ked_eqvAll]
@[simp] theorem eqv_none_int (i : Int) : PyData.eqv .none (.int i) = false := by simp [PyData.eqv]
@[simp] theorem eqv_int_none (i : Int) : PyData.eqv (.int i) .none = false := by simp [PyData.eqv]
@[simp] theorem eqv_none : PyData.eqv .none .none = true := by simp [PyData.eqv]
@[simp] theorem tkey_tI (r : List Int) : tkey (tI r) = true := by simp [tkey, flatKey]
@[simp] theorem alike_int (i j : Int) : W.alike (.int i) (.int j) = true := by simp [W.alike]
theorem alike_tI (a b : List Int) : W.alike (tI a) (tI b) = true := by simp [W.alike, PySem.W.alike_ints]
@[simp] theorem lt_int (i j : Int) : W.dataLt (.int i) (.int j) = decide (i < j) := by first | exact PySem.W.dataLt_int i j | simp [PySem.W.dataLt_int]
@[simp] theorem lt_tI (a b : List Int) : W.dataLt (tI a) (tI b) = decide (a < b) := by
  show W.dataLt (.tuple _) (.tuple _) = _
  rw [PySem.W.dataLt_tuple]
  exact PySem.W.dataLt_ints a b
@[simp] theorem ltOk_int (i j : Int) : ltOk (.int i) (.int j) = true := by simp [ltOk]
@[simp] theorem ltOk_tI (a b : List Int) : ltOk (tI a) (tI b) = true := by simp [ltOk, alike_tI]
@[simp] theorem c1_len_t (xs : List D) : call1 .len (.tuple xs) = .ok (.int xs.length) := (rfl)
@[simp] theorem c1_len_l (xs : List D) : call1 .len (.list xs) = .ok (.int xs.length) := (rfl)
@[simp] theorem c1_tuple_t (xs : List D) : call1 .tuple (.tuple xs) = .ok (.tuple xs) := (rfl)
@[simp] theorem c1_tuple_l (xs : List D) : call1 .tuple (.list xs) = .ok (.tuple xs) := (rfl)
@[simp] theorem c1_list_t (xs : List D) : call1 .list (.tuple xs) = .ok (.list xs) := (rfl)
@[simp] theorem c1_list_l (xs : List D) : call1 .list (.list xs) = .ok (.list xs) := (rfl)
@[simp] theorem c1_list_d (kvs : List (D × D)) : call1 .list (.dict kvs) = .ok (.list (kvs.map (·.1))) := (rfl)
@[simp] theorem c1_int (i : Int) : call1 .int (.int i) = .ok (.int i) := (rfl)
@[simp] theorem c1_int_b (b : Bool) : call1 .int (.bool b) = .ok (.int (if b then 1 else 0)) := (rfl)
theorem c1_sorted {xs : List D} (h : sortOk xs = true) : call1 .sorted (.list xs) = .ok (.list (xs.mergeSort (W.dataLe false id))) := by
  show (if sortOk xs = true then _ else _) = _
  rw [if_pos h]
theorem ints_map : ∀ xs : List Int, ints? (xs.map PyData.int) = some xs
  | [] => rfl
  | x :: xs => by simp [ints?, ints_map xs]
@[simp] theorem c1_sum_t (xs : List Int) : call1 .sum (.tuple (xs.map PyData.int)) = .ok (.int xs.sum) := by
  show (match ints? (xs.map PyData.int) with | some ns => R.ok (PyData.int ns.sum) | none => R.bad) = _
  rw [ints_map]
@[simp] theorem c1_sum_l (xs : List Int) : call1 .sum (.list (xs.map PyData.int)) = .ok (.int xs.sum) := by
  show (match ints? (xs.map PyData.int) with | some ns => R.ok (PyData.int ns.sum) | none => R.bad) = _
  rw [ints_map]
theorem alikeL_ints (xs : List Int) : alikeL (xs.map PyData.int) = true := by
  simp [alikeL]
theorem noneFree_ints (xs : List Int) : noneFree (xs.map PyData.int) = true := by
  simp [noneFree]
theorem maxD_is (x : Int) (xs : List Int) : maxD (.int x) (xs.map PyData.int) = .int (xs.foldl max x) := by
  unfold maxD
  induction xs generalizing x with
  | nil => rfl
  | cons y xs ih =>
    simp only [List.map_cons, List.foldl_cons, lt_int]
    by_cases h : x < y
    · rw [if_pos (by simpa using h), ih, show max x y = y by omega]
    · rw [if_neg (by simpa using h), ih, show max x y = x by omega]
theorem minD_is (x : Int) (xs : List Int) : minD (.int x) (xs.map PyData.int) = .int (xs.foldl min x) := by
  unfold minD
  induction xs generalizing x with
  | nil => rfl
  | cons y xs ih =>
    simp only [List.map_cons, List.foldl_cons, lt_int]
    by_cases h : y < x
    · rw [if_pos (by simpa using h), ih, show min x y = y by omega]
    · rw [if_neg (by simpa using h), ih, show min x y = x by omega]
theorem c1_max_t {x : Int} {xs : List Int} : call1 .max (.tuple (.int x :: xs.map .int)) = .ok (.int (xs.foldl max x)) := by
  show (if (alikeL ((x :: xs).map PyData.int) && noneFree ((x :: xs).map PyData.int) && fitAll ((x :: xs).map PyData.int)) = true then R.ok (maxD (.int x) (xs.map PyData.int)) else .bad) = _
  rw [alikeL_ints, noneFree_ints, fitAll_ints, if_pos (by rfl)]
  exact congrArg R.ok (maxD_is x xs)
theorem c1_max_l {x : Int} {xs : List Int} : call1 .max (.list (.int x :: xs.map .int)) = .ok (.int (xs.foldl max x)) := by
  show (if (alikeL ((x :: xs).map PyData.int) && noneFree ((x :: xs).map PyData.int) && fitAll ((x :: xs).map PyData.int)) = true then R.ok (maxD (.int x) (xs.map PyData.int)) else .bad) = _
  rw [alikeL_ints, noneFree_ints, fitAll_ints, if_pos (by rfl)]
  exact congrArg R.ok (maxD_is x xs)
theorem c1_min_t {x : Int} {xs : List Int} : call1 .min (.tuple (.int x :: xs.map .int)) = .ok (.int (xs.foldl min x)) := by
  show (if (alikeL ((x :: xs).map PyData.int) && noneFree ((x :: xs).map PyData.int) && fitAll ((x :: xs).map PyData.int)) = true then R.ok (minD (.int x) (xs.map PyData.int)) else .bad) = _
  rw [alikeL_ints, noneFree_ints, fitAll_ints, if_pos (by rfl)]
  exact congrArg R.ok (minD_is x xs)
theorem c1_min_l {x : Int} {xs : List Int} : call1 .min (.list (.int x :: xs.map .int)) = .ok (.int (xs.foldl min x)) := by
  show (if (alikeL ((x :: xs).map PyData.int) && noneFree ((x :: xs).map PyData.int) && fitAll ((x :: xs).map PyData.int)) = true then R.ok (minD (.int x) (xs.map PyData.int)) else .bad) = _
  rw [alikeL_ints, noneFree_ints, fitAll_ints, if_pos (by rfl)]
  exact congrArg R.ok (minD_is x xs)
@[simp] theorem b_add_i (i j : Int) : bin2 .add (.int i) (.int j) = .ok (.int (i + j)) := (rfl)
@[simp] theorem b_sub_i (i j : Int) : bin2 .sub (.int i) (.int j) = .ok (.int (i - j)) := (rfl)
theorem b_add_t {xs ys : List D} (h : xs.length + ys.length ≤ 16777216) : bin2 .add (.tuple xs) (.tuple ys) = .ok (.tuple (xs ++ ys)) := by
  show (if xs.length + ys.length ≤ LIM then _ else _) = _
  rw [if_pos (show xs.length + ys.length ≤ LIM from h)]
theorem b_add_l {xs ys : List D} (h : xs.length + ys.length ≤ 16777216) : bin2 .add (.list xs) (.list ys) = .ok (.list (xs ++ ys)) := by
  show (if xs.length + ys.length ≤ LIM then _ else _) = _
  rw [if_pos (show xs.length + ys.length ≤ LIM from h)]
theorem b_add_tI {xs ys : List Int} (h : xs.length + ys.length ≤ 16777216) : bin2 .add (tI xs) (tI ys) = .ok (tI (xs ++ ys)) := by
  rw [b_add_t (by simpa using h), ← List.map_append]
theorem b_mod {i j : Int} (h : 0 < j) : bin2 .mod (.int i) (.int j) = .ok (.int (i % j)) := by
  show (if 0 < j then _ else _) = _
  rw [if_pos h]
theorem b_fdiv {i j : Int} (h : 0 < j) (h' : j < 1073741824) : bin2 .fdiv (.int i) (.int j) = .ok (.int (i / j)) := by
  show (if 0 < j ∧ j < 1073741824 then _ else _) = _
  rw [if_pos ⟨h, h'⟩]
theorem mulOk_l {i j : Int} (h : i.natAbs ≤ 1000000000000000) : mulOk i j = true := by
  unfold mulOk
  rw [Bool.or_eq_true]
  left
  rw [decide_eq_true_eq, show ((2 : Int) ^ 64) = 18446744073709551616 from rfl]
  omega
theorem mulOk_r {i j : Int} (h : j.natAbs ≤ 1000000000000000) : mulOk i j = true := by
  unfold mulOk
  rw [Bool.or_eq_true]
  right
  rw [decide_eq_true_eq, show ((2 : Int) ^ 64) = 18446744073709551616 from rfl]
  omega
theorem b_mul {i j : Int} (h : mulOk i j = true) : bin2 .mul (.int i) (.int j) = .ok (.int (i * j)) := by
  show (if mulOk i j = true then _ else _) = _
  rw [if_pos h]
theorem b_mul_r {i j : Int} (h : j.natAbs ≤ 1000000000000000) : bin2 .mul (.int i) (.int j) = .ok (.int (i * j)) := b_mul (mulOk_r h)
theorem b_mul_t {xs : List D} {j : Int} (h : 0 ≤ j) (h' : j ≤ 64) (h2 : xs.length ≤ 64) : bin2 .mul (.tuple xs) (.int j) = .ok (.tuple (rep j.toNat xs)) := by
  show (if 0 ≤ j ∧ j ≤ 64 ∧ xs.length ≤ 64 then _ else _) = _
  rw [if_pos ⟨h, h', h2⟩]
@[simp] theorem cm_eq {a b : D} (h : fit a = true) (h' : fit b = true) : cmp2 .eq a b = .ok (PyData.eqv a b) := by
  show (if fit a = true ∧ fit b = true then _ else _) = _
  rw [if_pos ⟨h, h'⟩]
@[simp] theorem cm_ne {a b : D} (h : fit a = true) (h' : fit b = true) : cmp2 .ne a b = .ok (!PyData.eqv a b) := by
  show (if fit a = true ∧ fit b = true then _ else _) = _
  rw [if_pos ⟨h, h'⟩]
@[simp] theorem cm_lt {a b : D} (h : ltOk a b = true) : cmp2 .lt a b = .ok (W.dataLt a b) := by
  show (if ltOk a b = true then _ else _) = _
  rw [if_pos h]
@[simp] theorem cm_gt {a b : D} (h : ltOk a b = true) : cmp2 .gt a b = .ok (W.dataLt b a) := by
  show (if ltOk a b = true then _ else _) = _
  rw [if_pos h]
@[simp] theorem cm_le {a b : D} (h : ltOk a b = true) : cmp2 .le a b = .ok (!W.dataLt b a) := by
  show (if ltOk a b = true then _ else _) = _
  rw [if_pos h]
@[simp] theorem cm_ge {a b : D} (h : ltOk a b = true) : cmp2 .ge a b = .ok (!W.dataLt a b) := by
  show (if ltOk a b = true then _ else _) = _
  rw [if_pos h]
@[simp] theorem cm_in_d {a : D} {kvs : List (D × D)} (h : tkey a = true) : cmp2 .isin a (.dict kvs) = .ok (dget kvs a).isSome := by
  show (if tkey a = true then _ else _) = _
  rw [if_pos h]
@[simp] theorem cm_nin_d {a : D} {kvs : List (D × D)} (h : tkey a = true) : cmp2 .nin a (.dict kvs) = .ok (!(dget kvs a).isSome) := by
  show (if tkey a = true then _ else _) = _
  rw [if_pos h]
theorem cm_in_t {a : D} {ys : List D} (h : fit a = true) (h' : fitAll ys = true) : cmp2 .isin a (.tuple ys) = .ok (ys.any fun y => PyData.eqv y a) := by
  show (if fit a = true ∧ fitAll ys = true then _ else _) = _
  rw [if_pos ⟨h, h'⟩]
theorem cm_in_l {a : D} {ys : List D} (h : fit a = true) (h' : fitAll ys = true) : cmp2 .isin a (.list ys) = .ok (ys.any fun y => PyData.eqv y a) := by
  show (if fit a = true ∧ fitAll ys = true then _ else _) = _
  rw [if_pos ⟨h, h'⟩]
theorem cm_nin_t {a : D} {ys : List D} (h : fit a = true) (h' : fitAll ys = true) : cmp2 .nin a (.tuple ys) = .ok (!ys.any fun y => PyData.eqv y a) := by
  show (if fit a = true ∧ fitAll ys = true then _ else _) = _
  rw [if_pos ⟨h, h'⟩]
theorem any_tI (rs : List (List Int)) (r : List Int) : ((rs.map tI).any fun y => PyData.eqv y (tI r)) = decide (r ∈ rs) := by
  rw [Bool.eq_iff_iff]
  simp
theorem any_int (rs : List Int) (r : Int) : ((rs.map PyData.int).any fun y => PyData.eqv y (.int r)) = decide (r ∈ rs) := by
  rw [Bool.eq_iff_iff]
  simp
theorem idx_d {kvs : List (D × D)} {k v : D} (h : tkey k = true) (h' : dget kvs k = some v) : index2 (.dict kvs) k = .ok v := by
  show (if tkey k = true then (match dget kvs k with | some v => R.ok v | none => .bad) else .bad) = _
  rw [if_pos h, h']
theorem place_ok {n : Nat} {i : Int} (h0 : 0 ≤ i) (h : i < n) : place n i = some i.toNat := by
  unfold place
  rw [if_pos h0, if_pos h]
theorem idx_t {xs : List D} {i : Int} (h0 : 0 ≤ i) (h : i < xs.length) : index2 (.tuple xs) (.int i) = .ok (xs.getD i.toNat .none) := by
  show (match place xs.length i with | some k => R.ok (xs.getD k .none) | none => .bad) = _
  rw [place_ok h0 h]
theorem idx_l {xs : List D} {i : Int} (h0 : 0 ≤ i) (h : i < xs.length) : index2 (.list xs) (.int i) = .ok (xs.getD i.toNat .none) := by
  show (match place xs.length i with | some k => R.ok (xs.getD k .none) | none => .bad) = _
  rw [place_ok h0 h]
@[simp] theorem sl_t (xs : List D) (lo hi : Nat → Nat) : slice3 (.tuple xs) lo hi = .ok (.tuple (cut xs (lo xs.length) (hi xs.length))) := (rfl)
@[simp] theorem sl_l (xs : List D) (lo hi : Nat → Nat) : slice3 (.list xs) lo hi = .ok (.list (cut xs (lo xs.length) (hi xs.length))) := (rfl)
theorem bound_nat {n h : Nat} (hh : h ≤ n) : bound n (h : Int) = h := by
  unfold bound
  rw [if_neg (by omega)]
  omega
theorem inR_nat {L : Nat} (h : L < 4194304) : inR (L : Int) = true := by
  unfold inR
  rw [decide_eq_true_eq, show ((2 : Int) ^ 22) = 4194304 from rfl]
  omega
theorem inR_int {i : Int} (h : -4194304 < i) (h' : i < 4194304) : inR i = true := by
  unfold inR
  rw [decide_eq_true_eq, show ((2 : Int) ^ 22) = 4194304 from rfl]
  omega
theorem rngR_ok {L : Nat} (h : L < 4194304) : rngR (L : Int) = .ok (.list (rngD 0 L 1)) := by
  unfold rngR
  rw [if_pos (inR_nat h), Int.toNat_natCast]
theorem rngR2_ok {i j : Int} (h : -4194304 < i) (h' : i < 4194304) (h2 : -4194304 < j) (h3 : j < 4194304) : rngR2 i j = .ok (.list (rngD i (j - i).toNat 1)) := by
  unfold rngR2
  rw [if_pos ⟨inR_int h h', inR_int h2 h3⟩]
theorem rngR3_ok {i j k : Int} (h : -4194304 < i) (h' : i < 4194304) (h2 : -4194304 < j) (h3 : j < 4194304) (h4 : 0 < k) (h5 : k < 4194304) : rngR3 i j k = .ok (.list (rngD i (turns i j k) k)) := by
  unfold rngR3
  rw [if_pos ⟨inR_int h h', inR_int h2 h3, inR_int (by omega) h5, h4⟩]

theorem thn_thn (o : Out) (f g : Env → Out) : (o.thn f).thn g = o.thn fun ρ => (f ρ).thn g := by cases o <;> rfl
/-! what a suite's end must keep -/
def PostF (N Ct B : Env → Prop) (V Ex : D → Prop) : Out → Prop
  | .nx ρ => N ρ
  | .ct ρ => Ct ρ
  | .bk ρ => B ρ
  | .rt d _ => V d
  | .ex d _ => Ex d
  | .bad => False
structure Post (N Ct B : Env → Prop) (V Ex : D → Prop) (o : Out) : Prop where
  get : PostF N Ct B V Ex o
section
variable {N Ct B : Env → Prop} {V Ex : D → Prop}
@[simp] theorem post_nx (ρ : Env) : Post N Ct B V Ex (.nx ρ) = N ρ := propext ⟨fun h => h.get, fun h => ⟨h⟩⟩
@[simp] theorem post_ct (ρ : Env) : Post N Ct B V Ex (.ct ρ) = Ct ρ := propext ⟨fun h => h.get, fun h => ⟨h⟩⟩
@[simp] theorem post_bk (ρ : Env) : Post N Ct B V Ex (.bk ρ) = B ρ := propext ⟨fun h => h.get, fun h => ⟨h⟩⟩
@[simp] theorem post_rt (d : D) (ρ : Env) : Post N Ct B V Ex (.rt d ρ) = V d := propext ⟨fun h => h.get, fun h => ⟨h⟩⟩
@[simp] theorem post_ex (d : D) (ρ : Env) : Post N Ct B V Ex (.ex d ρ) = Ex d := propext ⟨fun h => h.get, fun h => ⟨h⟩⟩
@[simp] theorem post_bad : Post N Ct B V Ex .bad = False := propext ⟨fun h => h.get, fun h => h.elim⟩
theorem post_for {α : Type} {body : Env → Out} {i : Nat} {clr : List Nat} {k : Env → Out} {xs : List α} {e : α → D} (I : Nat → Env → Prop) {ρ : Env} (h0 : I 0 ρ)
    (hs : ∀ (j : Nat) (x : α), xs[j]? = some x → ∀ ρ, I j ρ → Post (fun ρ' => I (j + 1) (clear ρ' clr)) (fun ρ' => I (j + 1) (clear ρ' clr)) (fun ρ' => Post N Ct B V Ex (k (clear ρ' clr))) V Ex (body (ρ.set i (some (e x)))))
    (he : ∀ ρ, I xs.length ρ → Post N Ct B V Ex (k ρ)) : Post N Ct B V Ex ((evFor body i clr (xs.map e) ρ).thn k) := by
  refine for_rule (α := α) I (fun o => Post N Ct B V Ex (o.thn k)) e xs 0 (fun j x hj ρ hI => ?_) (fun ρ hI => ?_) ρ h0
  · have := hs j x hj ρ (by simpa using hI)
    rw [Nat.zero_add]
    cases hb : body (ρ.set i (some (e x))) with
    | nx ρ' => rw [hb] at this; exact this.get
    | ct ρ' => rw [hb] at this; exact this.get
    | bk ρ' => rw [hb] at this; exact this.get
    | rt d ρ' => rw [hb] at this; exact ⟨this.get⟩
    | ex d ρ' => rw [hb] at this; exact ⟨this.get⟩
    | bad => rw [hb] at this; exact this.get.elim
  · rw [Nat.zero_add] at hI
    exact he ρ hI
/-- a loop over a range -/
theorem post_rng {body : Env → Out} {i : Nat} {clr : List Nat} {k : Env → Out} {lo st : Int} {n : Nat} (I : Nat → Env → Prop) {ρ : Env} (h0 : I 0 ρ)
    (hs : ∀ (j : Nat), j < n → ∀ ρ, I j ρ → Post (fun ρ' => I (j + 1) (clear ρ' clr)) (fun ρ' => I (j + 1) (clear ρ' clr)) (fun ρ' => Post N Ct B V Ex (k (clear ρ' clr))) V Ex (body (ρ.set i (some (.int (lo + (j : Int) * st))))))
    (he : ∀ ρ, I n ρ → Post N Ct B V Ex (k ρ)) : Post N Ct B V Ex ((evFor body i clr (rngD lo n st) ρ).thn k) := by
  rw [rng_map]
  refine post_for I h0 (fun j x hj ρ hI => ?_) (fun ρ hI => he ρ (by simpa using hI))
  rw [List.getElem?_eq_some_iff] at hj
  obtain ⟨hl, hj⟩ := hj
  simp at hj
  subst hj
  simp at hl
  exact hs j hl ρ hI
end
theorem call_ok {G : Gls} {X : Nat → Option Xc} {W : Nat} {T : Nat → Option Fd} {f : Nat} {fd : Fd} {n : Nat} {ds : List D} {d : D} (hT : T f = some fd) (hl : ds.length = fd.np)
    (h : Post (fun _ => False) (fun _ => False) (fun _ => False) (fun x => x = d) (fun _ => False) (evSs G X W (callN G X W T n) fd.body (ds.map some ++ List.replicate (fd.ns - fd.np) none))) : callN G X W T (n + 1) f ds = .ok d := by
  rw [call_eq n hT hl]
  cases hb : evSs G X W (callN G X W T n) fd.body (ds.map some ++ List.replicate (fd.ns - fd.np) none) with
  | rt x ρ => rw [hb] at h; exact congrArg R.ok h.get
  | nx ρ => rw [hb] at h; exact h.get.elim
  | ct ρ => rw [hb] at h; exact h.get.elim
  | bk ρ => rw [hb] at h; exact h.get.elim
  | ex x ρ => rw [hb] at h; exact h.get.elim
  | bad => rw [hb] at h; exact h.get.elim
/-- a def gives something -/
def Gv (r : R D) (V : D → Prop) : Prop := ∃ d, r = .ok d ∧ V d
theorem call_gv {G : Gls} {X : Nat → Option Xc} {W : Nat} {T : Nat → Option Fd} {f : Nat} {fd : Fd} {n : Nat} {ds : List D} {V : D → Prop} (hT : T f = some fd) (hl : ds.length = fd.np)
    (h : Post (fun _ => False) (fun _ => False) (fun _ => False) V (fun _ => False) (evSs G X W (callN G X W T n) fd.body (ds.map some ++ List.replicate (fd.ns - fd.np) none))) : Gv (callN G X W T (n + 1) f ds) V := by
  rw [call_eq n hT hl]
  cases hb : evSs G X W (callN G X W T n) fd.body (ds.map some ++ List.replicate (fd.ns - fd.np) none) with
  | rt x ρ => rw [hb] at h; exact ⟨x, rfl, h.get⟩
  | nx ρ => rw [hb] at h; exact h.get.elim
  | ct ρ => rw [hb] at h; exact h.get.elim
  | bk ρ => rw [hb] at h; exact h.get.elim
  | ex x ρ => rw [hb] at h; exact h.get.elim
  | bad => rw [hb] at h; exact h.get.elim

/-! dicts under rows of numbers -/
theorem dget_dput {kvs : List (D × D)} {r : List Int} {v : D} (hk : ∀ p ∈ kvs, ∃ x, p.1 = tI x) (j : List Int) : dget (dput kvs (tI r) v) (tI j) = if r = j then some v else dget kvs (tI j) := by
  induction kvs with
  | nil => simp [dput, dget]
  | cons p kvs ih =>
    obtain ⟨k, u⟩ := p
    obtain ⟨x, hx⟩ := hk _ (List.mem_cons_self ..)
    simp only at hx
    subst hx
    have ih := ih fun q hq => hk q (List.mem_cons_of_mem _ hq)
    simp only [dput, eqv_tI, decide_eq_true_eq]
    by_cases h : x = r
    · subst h
      by_cases h2 : x = j
      · simp [dget, h2]
      · simp [dget, h2]
    · rw [if_neg h]
      simp only [dget, eqv_tI, decide_eq_true_eq]
      by_cases h2 : x = j
      · subst h2
        simp [Ne.symm h]
      · rw [if_neg h2, if_neg h2]
        exact ih
theorem dput_keys {kvs : List (D × D)} {r : List Int} {v : D} (hk : ∀ p ∈ kvs, ∃ x, p.1 = tI x) : ∀ p ∈ dput kvs (tI r) v, ∃ x, p.1 = tI x := by
  induction kvs with
  | nil => intro p hp; simp [dput] at hp; subst hp; exact ⟨r, rfl⟩
  | cons q kvs ih =>
    obtain ⟨k, u⟩ := q
    have ih := ih fun q hq => hk q (List.mem_cons_of_mem _ hq)
    intro p hp
    rw [dput] at hp
    split at hp
    · rcases List.mem_cons.mp hp with rfl | hp
      · exact hk (k, u) (List.mem_cons_self ..)
      · exact hk p (List.mem_cons_of_mem _ hp)
    · rcases List.mem_cons.mp hp with rfl | hp
      · exact hk (k, u) (List.mem_cons_self ..)
      · exact ih p hp
theorem dput_len (kvs : List (D × D)) (j v : D) : (dput kvs j v).length ≤ kvs.length + 1 := by
  induction kvs with
  | nil => simp [dput]
  | cons p kvs ih =>
    obtain ⟨k, u⟩ := p
    rw [dput]
    split <;> simp <;> omega
theorem map_inj {α β : Type} {f : α → β} (h : ∀ a b, f a = f b → a = b) : ∀ xs ys : List α, xs.map f = ys.map f → xs = ys
  | [], [], _ => rfl
  | [], _ :: _, e => by simp at e
  | _ :: _, [], e => by simp at e
  | x :: xs, y :: ys, e => by
    simp only [List.map_cons, List.cons.injEq] at e
    rw [h _ _ e.1, map_inj h _ _ e.2]
@[simp] theorem str_inj (a b : String) : (Str.ofString a = Str.ofString b) = (a = b) := by
  refine propext ⟨fun h => ?_, fun h => by rw [h]⟩
  rw [Str.ofString_eq_toList, Str.ofString_eq_toList] at h
  have h1 : (a.toList.map Char.toNat).toArray = (b.toList.map Char.toNat).toArray := congrArg Str.cps h
  have h2 : a.toList.map Char.toNat = b.toList.map Char.toNat := by simpa using congrArg Array.toList h1
  have h3 := map_inj (fun x y (e : Char.toNat x = Char.toNat y) => by
    have : x.val = y.val := UInt32.toNat_inj.mp e
    exact Char.ext this) _ _ h2
  exact String.toList_inj.mp h3
end PV
end
section
set_option linter.all false
/-! M1: infinite words of rings, Fine and Wilf. Plain. -/
namespace PV.M
theorem mul_step {x : Nat → Int} {g M : Nat} (h : ∀ i, i + g < M → x (i + g) = x i) (a : Nat) : ∀ k, a + k * g < M → x (a + k * g) = x a
  | 0, _ => by simp
  | k + 1, hk => by
    have e : a + (k + 1) * g = (a + k * g) + g := by rw [Nat.add_mul]; omega
    rw [e] at hk ⊢
    rw [h _ hk]
    exact mul_step h a k (by omega)

theorem fw {x : Nat → Int} : ∀ (s p q N : Nat), p + q ≤ s → 0 < p → 0 < q → p + q ≤ N + Nat.gcd p q → (∀ i, i + p < N → x (i + p) = x i) → (∀ i, i + q < N → x (i + q) = x i) →
    ∀ i, i + Nat.gcd p q < N → x (i + Nat.gcd p q) = x i
  | 0, p, q, N, h, hp, _, _, _, _ => by omega
  | s + 1, p, q, N, h, hp, hq, hN, h1, h2 => by
    -- the case p < q
    have lt : ∀ (p q : Nat), p < q → p + q ≤ s + 1 → 0 < p → p + q ≤ N + Nat.gcd p q → (∀ i, i + p < N → x (i + p) = x i) → (∀ i, i + q < N → x (i + q) = x i) →
        ∀ i, i + Nat.gcd p q < N → x (i + Nat.gcd p q) = x i := by
      intro p q hpq h hp hN h1 h2
      have hg : Nat.gcd p (q - p) = Nat.gcd p q := by
        rw [Nat.gcd_comm p (q - p), Nat.gcd_comm p q]
        exact Nat.gcd_sub_left_left_of_dvd p (Nat.le_of_lt hpq) |> fun e => by
          first
          | exact e
          | (conv => rhs; rw [show q = q - p + p by omega]
             rw [Nat.gcd_add_self_left])
      have gp : 0 < Nat.gcd p q := Nat.gcd_pos_of_pos_left _ hp
      obtain ⟨c, hc⟩ : Nat.gcd p q ∣ p := Nat.gcd_dvd_left p q
      have dq : Nat.gcd p q ∣ q - p := by rw [← hg]; exact Nat.gcd_dvd_right _ _
      have gle : Nat.gcd p q ≤ q - p := Nat.le_of_dvd (by omega) dq
      have ih := fw (x := x) s p (q - p) (N - p) (by omega) hp (by omega) (by rw [hg]; omega) (fun i hi => h1 i (by omega)) (fun i hi => by
        have a := h2 i (by omega)
        have b := h1 (i + (q - p)) (by omega)
        rw [show i + (q - p) + p = i + q by omega] at b
        rw [← b, a])
      rw [hg] at ih
      generalize hgg : Nat.gcd p q = g at *
      intro i hi
      by_cases h3 : i + g < N - p
      · exact ih i h3
      by_cases h4 : p ≤ i
      · have a := h1 (i - p) (by omega)
        have b := h1 (i + g - p) (by omega)
        have c' := ih (i - p) (by omega)
        rw [show i - p + p = i by omega] at a
        rw [show i + g - p + p = i + g by omega] at b
        rw [show i - p + g = i + g - p by omega] at c'
        rw [b, c', a]
      · have hx : p ≤ i + g := by omega
        have a := h1 (i + g - p) (by omega)
        rw [show i + g - p + p = i + g by omega] at a
        rw [a]
        have c1 : 1 ≤ c := by
          rcases c with _ | c
          · omega
          · omega
        have e : (i + g - p) + (c - 1) * g = i := by
          obtain ⟨c', rfl⟩ : ∃ c', c = c' + 1 := ⟨c - 1, by omega⟩
          have : p = c' * g + g := by rw [hc, Nat.mul_comm, Nat.add_mul]; omega
          simp only [Nat.add_sub_cancel]
          omega
        have := mul_step ih (i + g - p) (c - 1) (by rw [e]; omega)
        rw [e] at this
        exact this.symm
    rcases Nat.lt_trichotomy p q with hl | rfl | hl
    · exact lt p q hl h hp hN h1 h2
    · intro i hi
      rw [Nat.gcd_self] at hi ⊢
      exact h1 i hi
    · rw [Nat.gcd_comm p q]
      exact lt q p hl (by omega) hq (by rw [Nat.gcd_comm q p]; omega) h2 h1

theorem per_mod {u : Nat → Int} {p : Nat} (hp : 0 < p) (hu : ∀ i, u (i + p) = u i) (i : Nat) : u i = u (i % p) := by
  have := mul_step (x := u) (g := p) (M := i + 1) (fun i _ => hu i) (i % p) (i / p) (by rw [Nat.mul_comm]; have := Nat.mod_add_div i p; omega)
  rw [Nat.mul_comm, Nat.mod_add_div] at this
  exact this

theorem gcd_bound : ∀ p, p < 9 → ∀ q, q < 9 → p = 0 ∨ q = 0 ∨ p + q ≤ 14 + Nat.gcd p q := by decide

theorem fw_agree {u v : Nat → Int} {p q : Nat} (hp : 0 < p) (hq : 0 < q) (p8 : p ≤ 8) (q8 : q ≤ 8) (hu : ∀ i, u (i + p) = u i) (hv : ∀ i, v (i + q) = v i) (h : ∀ i, i < 14 → u i = v i) (i : Nat) : u i = v i := by
  have b : p + q ≤ 14 + Nat.gcd p q := by
    rcases gcd_bound p (by omega) q (by omega) with h | h | h <;> omega
  have F := fw (x := u) (p + q) p q 14 (Nat.le_refl _) hp hq b (fun i _ => hu i) (fun i hi => by rw [h _ hi, hv, h _ (by omega)])
  have gp : 0 < Nat.gcd p q := Nat.gcd_pos_of_pos_left _ hp
  have g1 : Nat.gcd p q ∣ p := Nat.gcd_dvd_left p q
  have g2 : Nat.gcd p q ∣ q := Nat.gcd_dvd_right p q
  generalize Nat.gcd p q = g at *
  have red : ∀ j, j < 14 → u j = u (j % g) := fun j hj => by
    have := mul_step F (j % g) (j / g) (by rw [Nat.mul_comm, Nat.mod_add_div]; exact hj)
    rw [Nat.mul_comm, Nat.mod_add_div] at this
    exact this
  have e1 : u i = u (i % g) := by
    rw [per_mod hp hu i, red _ (Nat.lt_of_lt_of_le (Nat.mod_lt _ hp) (by omega)), Nat.mod_mod_of_dvd _ g1]
  have lq : i % q < 14 := Nat.lt_of_lt_of_le (Nat.mod_lt _ hq) (by omega)
  rw [per_mod hq hv i, ← h _ lq, red _ lq, Nat.mod_mod_of_dvd _ g2, e1]

/-- the endless word of a ring -/
def wd (r : List Int) (i : Int) : Int := r.getD (i % (r.length : Int)).toNat 0
/-- a stretch of a word -/
def seg (w : Int → Int) (s : Int) (L : Nat) : List Int := (List.range L).map fun (k : Nat) => w (s + (k : Int))
@[simp] theorem seg_len (w : Int → Int) (s : Int) (L : Nat) : (seg w s L).length = L := by simp [seg]
theorem seg_eq {w w' : Int → Int} {s t : Int} {L : Nat} : seg w s L = seg w' t L ↔ ∀ k : Nat, k < L → w (s + k) = w' (t + k) := by
  unfold seg
  rw [List.map_inj_left]
  simp
theorem wd_per (r : List Int) (i : Int) : wd r (i + r.length) = wd r i := by
  unfold wd
  rw [Int.add_emod_right]
theorem wd_perK (r : List Int) (i : Int) (k : Int) : wd r (i + r.length * k) = wd r i := by
  unfold wd
  rw [Int.add_mul_emod_self_left]
theorem wd_mod (r : List Int) (i : Int) : wd r (i % (r.length : Int)) = wd r i := by
  unfold wd
  rw [Int.emod_emod_of_dvd _ (Int.dvd_refl _)]
theorem wd_get (r : List Int) (i : Nat) (h : i < r.length) : wd r i = r[i] := by
  unfold wd
  rw [Int.emod_eq_of_lt (by omega) (by omega)]
  simp [h]

/-- one winding -/
def SW (r r' : List Int) : Prop := ∃ d : Int, ∀ i, wd r i = wd r' (i + d)
theorem SW.refl (r : List Int) : SW r r := ⟨0, fun i => by simp⟩
theorem SW.symm {r r' : List Int} (h : SW r r') : SW r' r := by
  obtain ⟨d, h⟩ := h
  exact ⟨-d, fun i => by rw [h (i + -d)]; congr 1; omega⟩
theorem SW.trans {a b c : List Int} (h : SW a b) (h' : SW b c) : SW a c := by
  obtain ⟨d, h⟩ := h
  obtain ⟨e, h'⟩ := h'
  exact ⟨d + e, fun i => by rw [h i, h']; congr 1; omega⟩

def Rg (r : List Int) : Prop := 0 < r.length ∧ r.length ≤ 8
theorem sw_of_seg {r r' : List Int} (R : Rg r) (R' : Rg r') {s t : Int} {L : Nat} (hL : 14 ≤ L) (h : seg (wd r) s L = seg (wd r') t L) : SW r r' := by
  rw [seg_eq] at h
  have A := fw_agree (u := fun i => wd r (s + i)) (v := fun i => wd r' (t + i)) R.1 R'.1 R.2 R'.2
    (fun i => by
      have := wd_per r (s + i)
      rw [← this]; congr 1; push_cast; omega)
    (fun i => by
      have := wd_per r' (t + i)
      rw [← this]; congr 1; push_cast; omega)
    (fun i hi => h i (by omega))
  refine ⟨t - s, fun i => ?_⟩
  -- i = s + j, j made >= 0 by whole turns
  have hm : ∃ m : Int, 0 ≤ i - s + (r.length : Int) * (r'.length : Int) * m := by
    refine ⟨(i - s).natAbs, ?_⟩
    have h1 : (1 : Int) ≤ (r.length : Int) * (r'.length : Int) := by
      have a : (1 : Int) ≤ r.length := by have := R.1; omega
      have b : (1 : Int) ≤ r'.length := by have := R'.1; omega
      calc (1 : Int) = 1 * 1 := by omega
        _ ≤ _ := Int.mul_le_mul a b (by omega) (by omega)
    have h2 : ((i - s).natAbs : Int) ≤ (r.length : Int) * (r'.length : Int) * (i - s).natAbs := by
      have := Int.mul_le_mul_of_nonneg_right h1 (show (0 : Int) ≤ ((i - s).natAbs : Int) by omega)
      simpa using this
    omega
  obtain ⟨m, hm⟩ := hm
  have e := A (i - s + (r.length : Int) * (r'.length : Int) * m).toNat
  try simp only at e
  rw [Int.toNat_of_nonneg hm] at e
  have e1 : wd r (s + (i - s + (r.length : Int) * (r'.length : Int) * m)) = wd r i := by
    rw [show s + (i - s + (r.length : Int) * (r'.length : Int) * m) = i + r.length * ((r'.length : Int) * m) by rw [Int.mul_assoc]; omega]
    exact wd_perK r i _
  have e2 : wd r' (t + (i - s + (r.length : Int) * (r'.length : Int) * m)) = wd r' (i + (t - s)) := by
    rw [show t + (i - s + (r.length : Int) * (r'.length : Int) * m) = (i + (t - s)) + r'.length * ((r.length : Int) * m) by
      rw [show (r'.length : Int) * ((r.length : Int) * m) = (r.length : Int) * (r'.length : Int) * m by rw [← Int.mul_assoc, Int.mul_comm (r'.length : Int)]]; omega]
    exact wd_perK r' _ _
  rw [e1, e2] at e
  exact e

/-- a row stands in a ring -/
def occ (r row : List Int) : Prop := ∃ s : Int, row = seg (wd r) s row.length
theorem occ_seg (r : List Int) (s : Int) (L : Nat) : occ r (seg (wd r) s L) := ⟨s, by simp⟩
theorem occ_sw {r r' row : List Int} (h : SW r r') (o : occ r row) : occ r' row := by
  obtain ⟨d, h⟩ := h
  obtain ⟨s, o⟩ := o
  refine ⟨s + d, ?_⟩
  rw [o]
  simp only [seg_len]
  rw [seg_eq]
  intro k _
  rw [h]; congr 1; omega
theorem sw_of_occ {r r' : List Int} (R : Rg r) (R' : Rg r') {s : Int} {L : Nat} (hL : 14 ≤ L) (h : occ r' (seg (wd r) s L)) : SW r r' := by
  obtain ⟨t, h⟩ := h
  rw [seg_len] at h
  exact sw_of_seg R R' hL h

/-- the row settles, seen from a ring of the list -/
def St (rs : List (List Int)) (an : List Int → Int) (a : Int) (row : List Int) : Prop := ∀ r ∈ rs, occ r row → an r = a
/-- the ring is clear among the rings -/
def Clr (rs : List (List Int)) (an : List Int → Int) (r : List Int) : Prop := ∀ r' ∈ rs, SW r r' → an r' = an r
theorem st_long {rs : List (List Int)} {an : List Int → Int} (hrs : ∀ r ∈ rs, Rg r) {r : List Int} (hr : r ∈ rs) {s : Int} {L : Nat} (hL : 14 ≤ L) : St rs an (an r) (seg (wd r) s L) ↔ Clr rs an r :=
  ⟨fun h r' hr' sw => h r' hr' (occ_sw sw (occ_seg r s L)), fun h r' hr' o => h r' hr' (sw_of_occ (hrs r hr) (hrs r' hr') hL o)⟩

/-- the least number of a set, or none -/
def IsL (A : Nat → Prop) : Option Nat → Prop
  | none => ∀ n, ¬ A n
  | some m => A m ∧ ∀ n, A n → m ≤ n
theorem IsL.uniq {A : Nat → Prop} : ∀ {o o' : Option Nat}, IsL A o → IsL A o' → o = o'
  | none, none, _, _ => rfl
  | none, some m, h, h' => absurd h'.1 (h m)
  | some m, none, h, h' => absurd h.1 (h' m)
  | some m, some m', h, h' => by
    have a := h.2 _ h'.1
    have b := h'.2 _ h.1
    congr 1; omega
theorem IsL.congr {A A' : Nat → Prop} (h : ∀ n, A n ↔ A' n) : ∀ {o : Option Nat}, IsL A o → IsL A' o
  | none, z => fun n a => z n ((h n).mpr a)
  | some m, z => ⟨(h m).mp z.1, fun n a => z.2 n ((h n).mpr a)⟩
theorem IsL.cut {Q : Nat → Prop} {N : Nat} (hN : 14 ≤ N) (h : ∀ L, 14 ≤ L → (Q L ↔ Q 14)) : ∀ {o : Option Nat}, IsL (fun L => 1 ≤ L ∧ L ≤ N ∧ Q L) o → IsL (fun L => 1 ≤ L ∧ L ≤ 14 ∧ Q L) o
  | none, z => fun n a => z n ⟨a.1, by omega, a.2.2⟩
  | some m, z => by
    obtain ⟨⟨m1, m2, m3⟩, m4⟩ := z
    have m14 : m ≤ 14 := by
      by_cases hm : m ≤ 14
      · exact hm
      · exact m4 14 ⟨by omega, hN, (h m (by omega)).mp m3⟩
    exact ⟨⟨m1, m14, m3⟩, fun n a => m4 n ⟨a.1, by omega, a.2.2⟩⟩
/-- the least of the known ones -/
def leastO : List (Option Nat) → Option Nat
  | [] => none
  | none :: r => leastO r
  | some m :: r => match leastO r with
    | none => some m
    | some k => some (min m k)
theorem leastO_isL {α : Type} {A : α → Nat → Prop} {f : α → Option Nat} : ∀ (xs : List α), (∀ x ∈ xs, IsL (A x) (f x)) → IsL (fun n => ∃ x ∈ xs, A x n) (leastO (xs.map f))
  | [], _ => by simp [leastO, IsL]
  | x :: xs, h => by
    have ih := leastO_isL xs fun y hy => h y (List.mem_cons_of_mem _ hy)
    have hx := h x (List.mem_cons_self ..)
    simp only [List.map_cons]
    cases hf : f x with
    | none =>
      rw [hf] at hx
      simp only [leastO]
      exact ih.congr fun n => ⟨fun ⟨y, hy, a⟩ => ⟨y, List.mem_cons_of_mem _ hy, a⟩, fun ⟨y, hy, a⟩ => by
        rcases List.mem_cons.mp hy with rfl | hy
        · exact absurd a (hx n)
        · exact ⟨y, hy, a⟩⟩
    | some m =>
      rw [hf] at hx
      simp only [leastO]
      cases hl : leastO (xs.map f) with
      | none =>
        rw [hl] at ih
        refine ⟨⟨x, List.mem_cons_self .., hx.1⟩, fun n ⟨y, hy, a⟩ => ?_⟩
        rcases List.mem_cons.mp hy with rfl | hy
        · exact hx.2 n a
        · exact absurd ⟨y, hy, a⟩ (ih n)
      | some k =>
        rw [hl] at ih
        refine ⟨?_, fun n ⟨y, hy, a⟩ => ?_⟩
        · obtain ⟨⟨y, hy, a⟩, _⟩ := ih
          by_cases hmk : m ≤ k
          · rw [Nat.min_eq_left hmk]; exact ⟨x, List.mem_cons_self .., hx.1⟩
          · rw [Nat.min_eq_right (by omega)]; exact ⟨y, List.mem_cons_of_mem _ hy, a⟩
        · rcases List.mem_cons.mp hy with rfl | hy
          · have := hx.2 n a; omega
          · have := ih.2 n ⟨y, hy, a⟩; omega
end PV.M
end
section
set_option linter.all false
/-! M2: windings: least turns of roots, least long rows. Plain. -/
namespace PV.M
def IsMin (S : List Int → Prop) (m : List Int) : Prop := S m ∧ ∀ x, S x → ¬ x < m
theorem IsMin.uniq {S : List Int → Prop} {m m' : List Int} (h : IsMin S m) (h' : IsMin S m') : m = m' :=
  List.le_antisymm (List.not_lt.mp (h.2 _ h'.1)) (List.not_lt.mp (h'.2 _ h.1))
theorem IsMin.congr {S S' : List Int → Prop} {m : List Int} (e : ∀ x, S x ↔ S' x) (h : IsMin S m) : IsMin S' m := ⟨(e m).mp h.1, fun x hx => h.2 x ((e x).mpr hx)⟩

/-- all stretches of length L -/
def Segs (r : List Int) (L : Nat) (x : List Int) : Prop := ∃ s : Int, x = seg (wd r) s L
theorem segs_sw {r r' : List Int} (h : SW r r') (L : Nat) (x : List Int) : Segs r L x ↔ Segs r' L x := by
  have one : ∀ {r r' : List Int}, SW r r' → Segs r L x → Segs r' L x := by
    rintro r r' ⟨d, h⟩ ⟨s, rfl⟩
    refine ⟨s + d, ?_⟩
    rw [seg_eq]
    intro k _
    rw [h]; congr 1; omega
  exact ⟨one h, one h.symm⟩

theorem seg_mod {w : Int → Int} {n : Nat} (hn : 0 < n) (hw : ∀ i, w (i + n) = w i) (s : Int) (L : Nat) : seg w (s % n) L = seg w s L := by
  rw [seg_eq]
  intro k _
  have : ∀ (j : Nat) (i : Int), w (i + n * j) = w i := by
    intro j
    induction j with
    | zero => intro i; simp
    | succ j ih => intro i; rw [← ih i, ← hw (i + n * j)]; congr 1; push_cast; rw [Int.mul_add]; omega
  have e := Int.emod_add_mul_ediv s n
  by_cases h : 0 ≤ s / (n : Int)
  · have := this (s / (n : Int)).toNat (s % n + k)
    rw [Int.toNat_of_nonneg h] at this
    rw [← this]; congr 1; omega
  · have := this (-(s / (n : Int))).toNat (s + k)
    rw [Int.toNat_of_nonneg (by omega)] at this
    rw [← this]; congr 1; rw [Int.mul_neg]; omega

/-- the law's windings -/
theorem min24 {r r' m m' : List Int} (R : Rg r) (R' : Rg r') (h : IsMin (Segs r 24) m) (h' : IsMin (Segs r' 24) m') : m = m' ↔ SW r r' := by
  constructor
  · rintro rfl
    obtain ⟨s, e⟩ := h.1
    obtain ⟨t, e'⟩ := h'.1
    exact sw_of_seg R R' (L := 24) (by omega) (e.symm.trans e')
  · intro sw
    exact (h.congr (segs_sw sw 24)).uniq h'

def Per (w : Int → Int) (p : Nat) : Prop := ∀ i, w (i + p) = w i
theorem Per.mul {w : Int → Int} {p : Nat} (h : Per w p) (k : Nat) : ∀ i, w (i + (p : Int) * k) = w i := by
  induction k with
  | zero => intro i; simp
  | succ k ih => intro i; rw [← ih i, ← h (i + p * k)]; congr 1; push_cast; rw [Int.mul_add]; omega
theorem Per.mod {w : Int → Int} {p q : Nat} (h : Per w p) (h' : Per w q) : Per w (q % p) := by
  intro i
  have a := Per.mul h (q / p) (i + ((q % p : Nat) : Int))
  have b := h' i
  rw [← a, ← b]
  congr 1
  have := Nat.mod_add_div q p
  rw [show (q : Int) = ((q % p + p * (q / p) : Nat) : Int) by rw [this]]
  push_cast; omega
theorem Per.gcd {w : Int → Int} : ∀ (p q : Nat), Per w p → Per w q → Per w (Nat.gcd p q) := by
  intro p q
  induction p, q using Nat.gcd.induction with
  | H0 n => intro _ h; rw [Nat.gcd_zero_left]; exact h
  | H1 m n hm ih => intro h h'; rw [Nat.gcd_rec]; exact ih (Per.mod h h') h

/-- t is the size of the root -/
structure RootSz (r : List Int) (t : Nat) : Prop where
  dv : t ∣ r.length
  per : Per (wd r) t
  least : ∀ s, s ∣ r.length → Per (wd r) s → t ≤ s
theorem per_sw {r r' : List Int} (h : SW r r') {p : Nat} (hp : Per (wd r) p) : Per (wd r') p := by
  obtain ⟨d, h⟩ := h.symm
  intro i
  rw [h, h, ← hp (i + d)]
  congr 1; omega
theorem root_sw {r r' : List Int} (R : Rg r) (R' : Rg r') (h : SW r r') {t t' : Nat} (ht : RootSz r t) (ht' : RootSz r' t') : t = t' := by
  have one : ∀ {r r' : List Int}, Rg r → Rg r' → SW r r' → ∀ {t t' : Nat}, RootSz r t → RootSz r' t' → t' ≤ t := by
    intro r r' R R' h t t' ht ht'
    have p : Per (wd r') (Nat.gcd t r'.length) := Per.gcd _ _ (per_sw h ht.per) (wd_per r')
    have a := ht'.least _ (Nat.gcd_dvd_right _ _) p
    have t0 : 0 < t := Nat.pos_of_dvd_of_pos ht.dv R.1
    have b := Nat.le_of_dvd t0 (Nat.gcd_dvd_left t r'.length)
    omega
  have := one R R' h ht ht'
  have := one R' R h.symm ht' ht
  omega
theorem seg_sw {r r' : List Int} {t : Nat} (ht : 0 < t) (p : Per (wd r) t) (p' : Per (wd r') t) {s s' : Int} (e : seg (wd r) s t = seg (wd r') s' t) : SW r r' := by
  rw [seg_eq] at e
  refine ⟨s' - s, fun i => ?_⟩
  have key : ∀ j : Int, wd r (s + j) = wd r' (s' + j) := by
    intro j
    have e1 := Int.emod_nonneg j (b := (t : Int)) (by omega)
    have e2 := Int.emod_lt_of_pos j (b := (t : Int)) (by omega)
    have e3 := Int.emod_add_mul_ediv j (t : Int)
    have hk := e (j % (t : Int)).toNat (by omega)
    rw [Int.toNat_of_nonneg e1] at hk
    by_cases h : 0 ≤ j / (t : Int)
    · have a := Per.mul p (j / (t : Int)).toNat (s + j % t)
      have b := Per.mul p' (j / (t : Int)).toNat (s' + j % t)
      rw [Int.toNat_of_nonneg h] at a b
      rw [show s + j = s + j % t + t * (j / t) by omega, show s' + j = s' + j % t + t * (j / t) by omega, a, b, hk]
    · have a := Per.mul p (-(j / (t : Int))).toNat (s + j)
      have b := Per.mul p' (-(j / (t : Int))).toNat (s' + j)
      rw [Int.toNat_of_nonneg (by omega), Int.mul_neg] at a b
      rw [← a, ← b, show s + j + -(t * (j / t)) = s + j % t by omega, show s' + j + -(t * (j / t)) = s' + j % t by omega, hk]
  have := key (i - s)
  rw [show s + (i - s) = i by omega, show s' + (i - s) = i + (s' - s) by omega] at this
  exact this
/-- the program's windings -/
theorem rootmin {r r' m m' : List Int} (R : Rg r) (R' : Rg r') {t t' : Nat} (ht : RootSz r t) (ht' : RootSz r' t') (h : IsMin (Segs r t) m) (h' : IsMin (Segs r' t') m') : m = m' ↔ SW r r' := by
  have t0 : 0 < t := Nat.pos_of_dvd_of_pos ht.dv R.1
  constructor
  · rintro rfl
    obtain ⟨s, e⟩ := h.1
    obtain ⟨s', e'⟩ := h'.1
    have ll : t = t' := by
      have := congrArg List.length e
      rw [e'] at this
      simpa using this.symm
    subst ll
    exact seg_sw t0 ht.per ht'.per (e.symm.trans e')
  · intro sw
    have := root_sw R R' sw ht ht'
    subst this
    exact (h.congr (segs_sw sw t)).uniq h'

theorem seg_get (w : Int → Int) (s : Int) (L k : Nat) (h : k < (seg w s L).length) : (seg w s L)[k] = w (s + k) := by simp [seg]
/-- the ring's turns as stretches -/
theorem rot_seg (r : List Int) (h : Nat) (hh : h < r.length) : r.drop h ++ r.take h = seg (wd r) h r.length := by
  apply List.ext_getElem
  · simp; omega
  intro k h1 h2
  have hk : k < r.length := by simpa using h2
  rw [seg_get]
  by_cases c : k < r.length - h
  · rw [List.getElem_append_left (by simpa using c)]
    simp only [List.getElem_drop]
    rw [show ((h : Int) + (k : Int)) = ((h + k : Nat) : Int) by push_cast; rfl, wd_get r (h + k) (by omega)]
  · rw [List.getElem_append_right (by simpa using c)]
    simp only [List.getElem_take, List.length_drop]
    have : ((h : Int) + (k : Int)) = ((k - (r.length - h) : Nat) : Int) + r.length := by omega
    rw [this, wd_per, wd_get r _ (by omega)]
end PV.M
end
section
set_option Elab.async false
set_option linter.all false
set_option maxRecDepth 100000
/-! M3: k77: rows, turns, answers. -/
namespace PV.F77
open PySem PV PV.M
abbrev CN (n : Nat) : Nat → List D → R D := callN G XT 0 T n
abbrev LIM' : Nat := 16777216

theorem idx_tI {r : List Int} {i : Int} (h0 : 0 ≤ i) (h : i < r.length) : index2 (tI r) (.int i) = .ok (.int (wd r i)) := by
  have hk : i.toNat < r.length := by omega
  have e : wd r i = r[i.toNat] := by
    have := wd_get r i.toNat hk
    rw [Int.toNat_of_nonneg h0] at this
    exact this
  rw [idx_t h0 (by simpa using h), e]
  simp [hk]
theorem idx_mod {r : List Int} (hr : 0 < r.length) (i : Int) : index2 (tI r) (.int (i % (r.length : Int))) = .ok (.int (wd r i)) := by
  rw [idx_tI (Int.emod_nonneg i (by omega)) (Int.emod_lt_of_pos i (by omega)), wd_mod]
theorem c0 (n : Nat) (r : List Int) (h : Nat) (hh : h ≤ r.length) (hl : r.length ≤ 64) : CN (n + 1) 0 [tI r, .int h] = .ok (tI (r.drop h ++ r.take h)) := by
  refine call_ok (fd := fd0) rfl rfl ?_
  simp [fd0, bound_nat hh]
  rw [b_add_t (by simp [cut]; omega)]
  simp [cut, List.take_of_length_le]
theorem c3 (n : Nat) (r : List Int) (hr : 0 < r.length) (h : Int) (L : Nat) (hL : L ≤ 1000) : CN (n + 1) 3 [tI r, .int h, .int L] = .ok (tI (seg (wd r) (h - L + 1) L)) := by
  refine call_ok (fd := fd3) rfl rfl ?_
  have hp : (0 : Int) < r.length := by omega
  simp [fd3, rngR_ok (show L < 4194304 by omega)]
  rw [mapR_rng (e' := PyData.int) (g := fun k => wd r (h - L + 1 + k)) (fun k hk => by
    simp [b_mod hp, idx_mod hr])]
  simp [seg]
theorem c4 (n : Nat) (r : List Int) (hr : 0 < r.length) (h8 : r.length ≤ 64) (L : Nat) (hL : L ≤ 1000) : CN (n + 2) 4 [tI r, .int L] = .ok (tR ((List.range r.length).map fun (h : Nat) => seg (wd r) ((h : Int) - L + 1) L)) := by
  refine call_ok (fd := fd4) rfl rfl ?_
  simp [fd4, rngR_ok (show r.length < 4194304 by omega)]
  rw [mapR_rng (e' := tI) (g := fun h => seg (wd r) ((h : Int) - L + 1) L) (fun k hk => by
    have := c3 n r hr k L hL
    simp [CN] at this
    simp [this])]
  simp
/-- the turns of a ring -/
def trns (r : List Int) : List (List Int) := (List.range r.length).map fun h => r.drop h ++ r.take h
def Tks (kvs : List (D × D)) : Prop := ∀ p ∈ kvs, ∃ x, p.1 = tI x
theorem Tks.keys {kvs : List (D × D)} (h : Tks kvs) : ∃ ks : List (List Int), kvs.map (·.1) = ks.map tI ∧ ∀ k, k ∈ ks ↔ (dget kvs (tI k)).isSome = true := by
  induction kvs with
  | nil => exact ⟨[], rfl, fun k => by simp [dget]⟩
  | cons p kvs ih =>
    obtain ⟨ks, h1, h2⟩ := ih fun q hq => h q (List.mem_cons_of_mem _ hq)
    obtain ⟨k, u⟩ := p
    obtain ⟨x, hx⟩ := h _ (List.mem_cons_self ..)
    simp only at hx
    subst hx
    refine ⟨x :: ks, by simp [h1], fun j => ?_⟩
    simp only [dget, eqv_tI, decide_eq_true_eq]
    by_cases e : x = j
    · simp [e]
    · rw [if_neg e, ← h2 j]
      simp [Ne.symm e]
theorem sort_tI (rs : List (List Int)) : (rs.map tI).mergeSort (PySem.W.dataLe false id) = (rs.mergeSort fun a b => decide (a ≤ b)).map tI := by
  symm
  refine List.map_mergeSort fun a _ b _ => ?_
  rw [PySem.W.dataLe_eq]
  simp only [cond_false, id, lt_tI]
  rw [Bool.eq_iff_iff]
  simp [List.not_lt]
theorem sortOk_tI {rs : List (List Int)} (h : ∀ r ∈ rs, r ≠ []) (hl : rs.length ≤ 16777216) : sortOk (rs.map tI) = true := by
  have a : alikeL (rs.map tI) = true := by simp [alikeL, alike_tI]
  have b : tupsOf (rs.map tI) = true := by
    simp only [tupsOf, List.all_eq_true, List.mem_map]
    rintro x ⟨r, hr, rfl⟩
    cases r with
    | nil => exact absurd rfl (h _ hr)
    | cons y ys => rfl
  simp only [sortOk, a, fitAll_tI, b, Bool.true_or, Bool.true_and, List.length_map, decide_eq_true_eq]
  exact hl
theorem sorted_le (rs : List (List Int)) : (rs.mergeSort fun a b => decide (a ≤ b)).Pairwise (· ≤ ·) := by
  have := List.pairwise_mergeSort (le := fun (a b : List Int) => decide (a ≤ b)) (fun a b c h1 h2 => by
    simp only [decide_eq_true_eq] at *
    exact List.le_trans h1 h2) (fun a b => by
    simp only [Bool.or_eq_true, decide_eq_true_eq]
    exact List.le_total a b) rs
  exact this.imp fun h => by simpa using h
/-- the dict known has just the rows of the set S as keys, at most m of them -/
structure Keys (S : List Int → Prop) (m : Nat) (kvs : List (D × D)) : Prop where
  tk : Tks kvs
  len : kvs.length ≤ m
  mem : ∀ x, (dget kvs (tI x)).isSome = true ↔ S x
theorem Keys.nil : Keys (fun _ => False) 0 [] := ⟨fun p h => (nomatch h), Nat.le_refl _, fun x => by simp [dget]⟩
theorem Keys.put {S : List Int → Prop} {m : Nat} {kvs : List (D × D)} (h : Keys S m kvs) (r : List Int) (v : D) : Keys (fun x => S x ∨ x = r) (m + 1) (dput kvs (tI r) v) :=
  ⟨dput_keys h.tk, Nat.le_trans (dput_len ..) (Nat.succ_le_succ h.len), fun x => by
    rw [dget_dput h.tk]
    by_cases e : r = x
    · simp [e]
    · rw [if_neg e, h.mem]
      simp [Ne.symm e]⟩
theorem Keys.congr {S S' : List Int → Prop} {m : Nat} {kvs : List (D × D)} (h : Keys S m kvs) (e : ∀ x, S x ↔ S' x) : Keys S' m kvs := ⟨h.tk, h.len, fun x => (h.mem x).trans (e x)⟩
theorem Keys.list {S : List Int → Prop} {m : Nat} {kvs : List (D × D)} (h : Keys S m kvs) : ∃ ks : List (List Int), kvs.map (·.1) = ks.map tI ∧ ks.length ≤ m ∧ ∀ x, x ∈ ks ↔ S x := by
  obtain ⟨ks, h1, h2⟩ := h.tk.keys
  refine ⟨ks, h1, ?_, fun x => (h2 x).trans (h.mem x)⟩
  have := congrArg List.length h1
  simp at this
  rw [← this]; exact h.len
theorem c1 (n : Nat) (r : List Int) (hr : 0 < r.length) (h8 : r.length ≤ 64) : Gv (CN (n + 2) 1 [tI r]) fun d => ∃ rs : List (List Int), d = tR rs ∧ (∀ x, x ∈ rs ↔ x ∈ trns r) ∧ rs.Pairwise (· ≤ ·) := by
  refine call_gv (fd := fd1) rfl rfl ?_
  simp [fd1, rngR_ok (show r.length < 4194304 by omega)]
  refine post_rng (fun k ρ => ∃ kvs o, ρ = [some (tI r), some (.dict kvs), o] ∧ Keys (fun x => ∃ h, h < k ∧ x = r.drop h ++ r.take h) k kvs) ⟨[], none, rfl, Keys.nil.congr (by simp)⟩ (fun j hj ρ hI => ?_) (fun ρ hI => ?_)
  · obtain ⟨kvs, o, rfl, K⟩ := hI
    have hc := c0 n r j (by omega) h8
    simp [CN] at hc
    have hl := K.len
    simp [hc, LIM, show kvs.length < 16777216 by omega]
    refine (K.put (r.drop j ++ r.take j) (.bool true)).congr fun x => ?_
    constructor
    · rintro (⟨h, hh, rfl⟩ | rfl)
      · exact ⟨h, by omega, rfl⟩
      · exact ⟨j, by omega, rfl⟩
    · rintro ⟨h, hh, rfl⟩
      by_cases e : h = j
      · subst e; exact .inr rfl
      · exact .inl ⟨h, by omega, rfl⟩
  · obtain ⟨kvs, o, rfl, K⟩ := hI
    obtain ⟨ks, h1, h2, h3⟩ := K.list
    simp [h1]
    rw [c1_sorted (sortOk_tI (fun x hx => by
      obtain ⟨h, _, rfl⟩ := (h3 x).mp hx
      intro z
      have := congrArg List.length z
      simp at this
      omega) (by omega)), sort_tI]
    simp
    refine ⟨_, rfl, fun x => ?_, sorted_le ks⟩
    rw [List.mem_mergeSort, h3]
    simp [trns, eq_comm]
theorem c2 (n : Nat) (r : List Int) (hr : 0 < r.length) (h8 : r.length ≤ 64) : Gv (CN (n + 3) 2 [tI r]) fun d => ∃ m, d = tI m ∧ IsMin (· ∈ trns r) m := by
  obtain ⟨d, hd, rs, rfl, h2, h3⟩ := c1 n r hr h8
  simp only [CN] at hd
  refine call_gv (fd := fd2) rfl rfl ?_
  simp [fd2, hd]
  cases rs with
  | nil =>
    have := (h2 (r.drop 0 ++ r.take 0)).mpr (List.mem_map.mpr ⟨0, List.mem_range.mpr hr, rfl⟩)
    exact nomatch this
  | cons m rs =>
    rw [idx_t (by omega) (by simp)]
    simp
    refine ⟨m, rfl, (h2 m).mp (List.mem_cons_self ..), fun x hx => ?_⟩
    have := (h2 x).mpr hx
    rcases List.mem_cons.mp this with rfl | this
    · exact List.lt_irrefl x
    · exact List.not_lt.mpr ((List.pairwise_cons.mp h3).1 x this)
theorem trns_segs {r : List Int} (hr : 0 < r.length) (x : List Int) : x ∈ trns r ↔ Segs r r.length x := by
  simp only [trns, List.mem_map, List.mem_range, Segs]
  constructor
  · rintro ⟨h, hh, rfl⟩
    exact ⟨h, rot_seg r h hh⟩
  · rintro ⟨s, rfl⟩
    have h0 := Int.emod_nonneg s (b := (r.length : Int)) (by omega)
    have h1 := Int.emod_lt_of_pos s (b := (r.length : Int)) (by omega)
    refine ⟨(s % (r.length : Int)).toNat, by omega, ?_⟩
    rw [rot_seg _ _ (by omega), Int.toNat_of_nonneg h0]
    exact seg_mod hr (wd_per r) s _
end PV.F77
end
section
set_option Elab.async false
set_option linter.all false
set_option maxRecDepth 100000
/-! M4: k77: the program's table and first lengths. -/
namespace PV.F77
open PySem PV PV.M
theorem mem_take_succ {α : Type} {xs : List α} {k : Nat} {x : α} (h : xs[k]? = some x) (y : α) : y ∈ xs.take (k + 1) ↔ y ∈ xs.take k ∨ y = x := by
  rw [List.take_add_one, h]
  simp
theorem seg_shift {r : List Int} (hr : 0 < r.length) (x c : Int) (L : Nat) : seg (wd r) (x % (r.length : Int) + c) L = seg (wd r) (x + c) L := by
  rw [← seg_mod hr (wd_per r) (x % (r.length : Int) + c), ← seg_mod hr (wd_per r) (x + c)]
  congr 1
  rw [Int.emod_add_emod]
/-- a row of at most lo names that stands in the ring -/
def InR (r : List Int) (m : Nat) (row : List Int) : Prop := 1 ≤ row.length ∧ row.length ≤ m ∧ occ r row
theorem inR_iff {r : List Int} (hr : 0 < r.length) (m : Nat) (row : List Int) : InR r m row ↔ ∃ L, 1 ≤ L ∧ L ≤ m ∧ ∃ h, h < r.length ∧ row = seg (wd r) ((h : Int) - L + 1) L := by
  constructor
  · rintro ⟨h1, h2, s, e⟩
    have e0 := Int.emod_nonneg (s + row.length - 1) (b := (r.length : Int)) (by omega)
    have e1 := Int.emod_lt_of_pos (s + row.length - 1) (b := (r.length : Int)) (by omega)
    refine ⟨row.length, h1, h2, ((s + row.length - 1) % (r.length : Int)).toNat, by omega, ?_⟩
    rw [Int.toNat_of_nonneg e0, show ∀ a b : Int, a - b + 1 = a + (1 - b) by intros; omega, seg_shift hr]
    rw [show s + (row.length : Int) - 1 + (1 - row.length) = s by omega]
    exact e
  · rintro ⟨L, h1, h2, h, _, rfl⟩
    exact ⟨by simpa using h1, by simpa using h2, occ_seg r _ L⟩

/-- what the table holds under a row, by the answers of the rings in which the row stands -/
def TabV (A : Int → Prop) : Option D → Prop
  | none => ∀ a, ¬ A a
  | some (.int a) => A a ∧ ∀ b, A b → b = a
  | some .none => ∃ a b, a ≠ b ∧ A a ∧ A b
  | some _ => False
structure Tab (Oc : List Int → Int → Prop) (m : Nat) (kvs : List (D × D)) : Prop where
  tk : Tks kvs
  len : kvs.length ≤ m
  val : ∀ row, TabV (Oc row) (dget kvs (tI row))
theorem TabV.congr {A B : Int → Prop} (h : ∀ a, A a ↔ B a) {o : Option D} (t : TabV A o) : TabV B o := by
  have : A = B := funext fun a => propext (h a)
  rw [← this]; exact t
theorem Tab.congr {Oc Oc' : List Int → Int → Prop} {m : Nat} {kvs : List (D × D)} (h : ∀ row a, Oc row a ↔ Oc' row a) (t : Tab Oc m kvs) : Tab Oc' m kvs := ⟨t.tk, t.len, fun row => (t.val row).congr (h row)⟩
theorem Tab.mono {Oc : List Int → Int → Prop} {m m' : Nat} {kvs : List (D × D)} (t : Tab Oc m kvs) (h : m ≤ m') : Tab Oc m' kvs := ⟨t.tk, Nat.le_trans t.len h, t.val⟩
theorem Tab.nil : Tab (fun _ _ => False) 0 [] := ⟨fun p h => (nomatch h), Nat.le_refl _, fun row => by simp [dget, TabV]⟩
theorem Tab.new {Oc : List Int → Int → Prop} {m : Nat} {kvs : List (D × D)} (t : Tab Oc m kvs) {r : List Int} (a : Int) (h : dget kvs (tI r) = none) : Tab (fun row b => Oc row b ∨ (row = r ∧ b = a)) (m + 1) (dput kvs (tI r) (.int a)) := by
  refine ⟨dput_keys t.tk, Nat.le_trans (dput_len ..) (Nat.succ_le_succ t.len), fun row => ?_⟩
  rw [dget_dput t.tk]
  have v := t.val row
  by_cases e : r = row
  · subst e
    rw [h] at v
    simp only [if_true, TabV] at v ⊢
    exact ⟨.inr ⟨trivial, trivial⟩, fun b hb => by
      rcases hb with hb | ⟨_, rfl⟩
      · exact absurd hb (v b)
      · rfl⟩
  · rw [if_neg e]
    exact v.congr fun b => by simp [Ne.symm e]
theorem Tab.same {Oc : List Int → Int → Prop} {m : Nat} {kvs : List (D × D)} (t : Tab Oc m kvs) {r : List Int} {a : Int} (h : dget kvs (tI r) = some (.int a)) : Tab (fun row b => Oc row b ∨ (row = r ∧ b = a)) (m + 1) kvs := by
  refine ⟨t.tk, Nat.le_succ_of_le t.len, fun row => ?_⟩
  have v := t.val row
  by_cases e : row = r
  · subst e
    rw [h] at v ⊢
    simp only [TabV] at v ⊢
    exact ⟨.inl v.1, fun b hb => by
      rcases hb with hb | ⟨_, rfl⟩
      · exact v.2 b hb
      · rfl⟩
  · exact v.congr fun b => by simp [e]
theorem Tab.clash {Oc : List Int → Int → Prop} {m : Nat} {kvs : List (D × D)} (t : Tab Oc m kvs) {r : List Int} {a : Int} {d : D} (h : dget kvs (tI r) = some d) (hd : d ≠ .int a) : Tab (fun row b => Oc row b ∨ (row = r ∧ b = a)) (m + 1) (dput kvs (tI r) .none) := by
  refine ⟨dput_keys t.tk, Nat.le_trans (dput_len ..) (Nat.succ_le_succ t.len), fun row => ?_⟩
  rw [dget_dput t.tk]
  have v := t.val row
  by_cases e : r = row
  · subst e
    rw [h] at v
    simp only [if_true]
    cases d with
    | int c =>
      simp only [TabV] at v ⊢
      exact ⟨c, a, fun z => hd (by rw [z]), .inl v.1, .inr ⟨trivial, rfl⟩⟩
    | none =>
      simp only [TabV] at v ⊢
      obtain ⟨x, y, h1, h2, h3⟩ := v
      exact ⟨x, y, h1, .inl h2, .inl h3⟩
    | bool _ => exact v.elim
    | str _ => exact v.elim
    | list _ => exact v.elim
    | tuple _ => exact v.elim
    | dict _ => exact v.elim
  · rw [if_neg e]
    exact v.congr fun b => by simp [Ne.symm e]
theorem TabV.kind {A : Int → Prop} {d : D} (h : TabV A (some d)) : (∃ a, d = .int a) ∨ d = .none := by
  cases d with
  | int a => exact .inl ⟨a, rfl⟩
  | none => exact .inr rfl
  | bool _ => exact h.elim
  | str _ => exact h.elim
  | list _ => exact h.elim
  | tuple _ => exact h.elim
  | dict _ => exact h.elim

/-- a question with its answers, as the program and the law find them -/
structure Ques (q : D) (an : List Int → Int) : Prop where
  prog : ∀ n r, Rg r → callN G XT 0 T (n + 10) 11 [q, tI r] = .ok (.int (an r))
  law : ∀ n r, Rg r → callN G XT 0 T (n + 10) 38 [q, tI r] = .ok (.int (an r))
def OcR (rs : List (List Int)) (an : List Int → Int) (m : Nat) (row : List Int) (a : Int) : Prop := ∃ r ∈ rs, InR r m row ∧ an r = a

theorem c12 (n : Nat) {q : D} {an : List Int → Int} (Q : Ques q an) (rs : List (List Int)) (hrs : ∀ r ∈ rs, Rg r) (hm : rs.length ≤ 2000) (m : Nat) (hm21 : m ≤ 21) :
    Gv (callN G XT 0 T (n + 11) 12 [tR rs, q, .int m]) fun d => ∃ kvs, d = .dict kvs ∧ Tab (OcR rs an m) 400000 kvs := by
  refine call_gv (fd := fd12) rfl rfl ?_
  simp [fd12]
  refine post_for (e := tI) (fun k ρ => ∃ kvs o4 o5 o6 o7, ρ = [some (tR rs), some q, some (.int m), some (.dict kvs), o4, o5, o6, o7] ∧ Tab (OcR (rs.take k) an m) (168 * k) kvs) ⟨[], none, none, none, none, rfl, Tab.nil.congr (by simp [OcR])⟩ (fun k r hk ρ hI => ?_) (fun ρ hI => ?_)
  · obtain ⟨kvs, o4, o5, o6, o7, rfl, K⟩ := hI
    have hr : Rg r := hrs r (List.mem_of_getElem? hk)
    have hkl : k < rs.length := (List.getElem?_eq_some_iff.mp hk).1
    simp [Q.prog n r hr]
    rw [rngR2_ok (by omega) (by omega) (by omega) (by omega)]
    simp
    refine post_rng (fun j ρ => ∃ kvs o6 o7, ρ = [some (tR rs), some q, some (.int m), some (.dict kvs), some (tI r), some (.int (an r)), o6, o7] ∧ Tab (fun row a => OcR (rs.take k) an m row a ∨ (InR r j row ∧ a = an r)) (168 * k + 8 * j) kvs) ⟨kvs, o6, o7, rfl, K.congr fun row a => by
        constructor
        · exact .inl
        · rintro (h | ⟨⟨h1, h2, _⟩, _⟩)
          · exact h
          · omega⟩ (fun j hj ρ hI => ?_) (fun ρ hI => ?_)
    · obtain ⟨kvs, o6, o7, rfl, K⟩ := hI
      have h4 := c4 (n + 8) r hr.1 (by have := hr.2; omega) (j + 1) (by omega)
      simp only [CN] at h4
      rw [show ((j + 1 : Nat) : Int) = 1 + (j : Int) by push_cast; omega] at h4
      simp [h4]
      refine post_for (e := fun (h : Nat) => tI (seg (wd r) ((h : Int) - (1 + (j : Int)) + 1) (j + 1))) (fun i ρ => ∃ kvs o7, ρ = [some (tR rs), some q, some (.int m), some (.dict kvs), some (tI r), some (.int (an r)), some (.int (1 + (j : Int))), o7] ∧ Tab (fun row a => (OcR (rs.take k) an m row a ∨ (InR r j row ∧ a = an r)) ∨ (∃ h, h < i ∧ row = seg (wd r) ((h : Int) - (1 + (j : Int)) + 1) (j + 1)) ∧ a = an r) (168 * k + 8 * j + i) kvs) ⟨kvs, o7, by simp, K.congr (by simp)⟩ (fun i h hi ρ hI => ?_) (fun ρ hI => ?_)
      · obtain ⟨kvs, o7, rfl, K⟩ := hI
        have hi' : h = i ∧ i < r.length := by
          rw [List.getElem?_eq_some_iff] at hi
          obtain ⟨hl, hi⟩ := hi
          simp at hi hl
          exact ⟨hi.symm, hl⟩
        obtain ⟨rfl, hi'⟩ := hi'
        have hr8 := hr.2
        have hl := K.len
        have hL : kvs.length < 16777216 := by omega
        have fin : ∀ (row : List Int) (a : Int), ((OcR (rs.take k) an m row a ∨ (InR r j row ∧ a = an r)) ∨ (∃ h', h' < h ∧ row = seg (wd r) ((h' : Int) - (1 + (j : Int)) + 1) (j + 1)) ∧ a = an r) ∨ (row = seg (wd r) ((h : Int) - (1 + (j : Int)) + 1) (j + 1) ∧ a = an r) ↔ ((OcR (rs.take k) an m row a ∨ (InR r j row ∧ a = an r)) ∨ (∃ h', h' < h + 1 ∧ row = seg (wd r) ((h' : Int) - (1 + (j : Int)) + 1) (j + 1)) ∧ a = an r) := by
          intro row a
          constructor
          · rintro ((h1 | ⟨⟨h', hh, e⟩, ea⟩) | ⟨e, ea⟩)
            · exact .inl h1
            · exact .inr ⟨⟨h', by omega, e⟩, ea⟩
            · exact .inr ⟨⟨h, by omega, e⟩, ea⟩
          · rintro (h1 | ⟨⟨h', hh, e⟩, ea⟩)
            · exact .inl (.inl h1)
            · by_cases z : h' = h
              · subst z; exact .inr ⟨e, ea⟩
              · exact .inl (.inr ⟨⟨h', by omega, e⟩, ea⟩)
        cases hd : dget kvs (tI (seg (wd r) ((h : Int) - (1 + (j : Int)) + 1) (j + 1))) with
        | none =>
          simp [hd, LIM, hL]
          exact ((K.new (an r) hd).congr fin).mono (by omega)
        | some d =>
          have kd := (hd ▸ K.val (seg (wd r) ((h : Int) - (1 + (j : Int)) + 1) (j + 1)) : TabV _ (some d)).kind
          have hfd : fit d = true := by rcases kd with ⟨a, rfl⟩ | rfl <;> simp
          simp [hd, idx_d (tkey_tI _) hd, hfd]
          by_cases he : PyData.eqv d (.int (an r)) = true
          · have : d = .int (an r) := by
              rcases kd with ⟨a, rfl⟩ | rfl
              · simp at he; rw [he]
              · simp at he
            subst this
            simp
            exact ((K.same hd).congr fin).mono (by omega)
          · have hne : d ≠ .int (an r) := fun z => he (by rw [z]; simp)
            simp only [Bool.not_eq_true] at he
            simp [he, LIM, hL]
            exact ((K.clash hd hne).congr fin).mono (by omega)
      · obtain ⟨kvs, o7, rfl, K⟩ := hI
        simp
        have hr8 := hr.2
        refine (K.congr fun row a => ?_).mono (by simp; omega)
        constructor
        · rintro ((h1 | ⟨h1, ea⟩) | ⟨⟨h, hh, e⟩, ea⟩)
          · exact .inl h1
          · exact .inr ⟨⟨h1.1, by have := h1.2.1; omega, h1.2.2⟩, ea⟩
          · refine .inr ⟨?_, ea⟩
            rw [e]
            exact ⟨by simp, by simp, occ_seg _ _ _⟩
        · rintro (h1 | ⟨h1, ea⟩)
          · exact .inl (.inl h1)
          · by_cases z : row.length ≤ j
            · exact .inl (.inr ⟨⟨h1.1, z, h1.2.2⟩, ea⟩)
            · obtain ⟨L, l1, l2, h, hh, e⟩ := (inR_iff hr.1 _ _).mp h1
              have : L = j + 1 := by
                have := congrArg List.length e
                simp at this; omega
              subst this
              refine .inr ⟨⟨h, by simpa using hh, ?_⟩, ea⟩
              rw [show ((1 : Int) + (j : Int)) = ((j + 1 : Nat) : Int) by push_cast; omega]
              exact e
    · obtain ⟨kvs, o6, o7, rfl, K⟩ := hI
      simp
      refine (K.congr fun row a => ?_).mono (by omega)
      simp only [OcR, mem_take_succ hk]
      constructor
      · rintro (⟨r', h1, h2, h3⟩ | ⟨h1, rfl⟩)
        · exact ⟨r', .inl h1, h2, h3⟩
        · exact ⟨r, .inr rfl, h1, rfl⟩
      · rintro ⟨r', h1 | rfl, h2, h3⟩
        · exact .inl ⟨r', h1, h2, h3⟩
        · exact .inr ⟨h2, h3.symm⟩
  · obtain ⟨kvs, o4, o5, o6, o7, rfl, K⟩ := hI
    simp
    rw [List.take_length] at K
    exact K.mono (by omega)
end PV.F77
end
section
set_option Elab.async false
set_option linter.all false
set_option maxRecDepth 100000
/-! M5: k77: the program's first lengths, soonest. -/
namespace PV.F77
open PySem PV PV.M
def encO : Option Nat → D
  | none => .none
  | some m => .int m
def Sd (kvs : List (D × D)) (row : List Int) : Bool := !isNone ((dget kvs (tI row)).getD .none)
theorem c13 (n : Nat) (kvs : List (D × D)) (row : List Int) : callN G XT 0 T (n + 1) 13 [.dict kvs, tI row] = .ok (.bool (Sd kvs row)) := by
  refine call_ok (fd := fd13) rfl rfl ?_
  simp [fd13, Sd]
theorem c14 (n : Nat) (r : List Int) (hr : 0 < r.length) (s : Int) (L : Nat) (hL : L ≤ 1000) : callN G XT 0 T (n + 2) 14 [tI r, .int s, .int L] = .ok (tI (seg (wd r) s L)) := by
  have hp : (0 : Int) < r.length := by omega
  have := c3 n r hr ((s + L - 1) % (r.length : Int)) L hL
  simp only [CN] at this
  refine call_ok (fd := fd14) rfl rfl ?_
  simp [fd14, b_mod hp, this]
  rw [show ∀ a b : Int, a - b + 1 = a + (1 - b) by intros; omega, seg_shift hr]
  rw [show s + (L : Int) - 1 + (1 - L) = s by omega]
theorem mf : evE G (callN G XT 0 T n) (.glob "MOST_FIRST") ρ = .ok (.int 14) := ev_glob rfl
theorem mfa : evE G (callN G XT 0 T n) (.glob "MOST_FIRST_AT") ρ = .ok (.int 21) := ev_glob rfl
theorem c15 (n : Nat) (r : List Int) (hr : 0 < r.length) (s : Int) (kvs : List (D × D)) : Gv (callN G XT 0 T (n + 3) 15 [tI r, .int s, .dict kvs]) fun d => ∃ o, d = encO o ∧ IsL (fun L => 1 ≤ L ∧ L ≤ 14 ∧ Sd kvs (seg (wd r) s L) = true) o := by
  refine call_gv (fd := fd15) rfl rfl ?_
  simp [fd15, mf]
  rw [rngR2_ok (by omega) (by omega) (by omega) (by omega)]
  simp
  refine post_rng (fun j ρ => ∃ o, ρ = [some (tI r), some (.int s), some (.dict kvs), o] ∧ ∀ L, 1 ≤ L → L ≤ j → Sd kvs (seg (wd r) s L) = false) ⟨none, rfl, by omega⟩ (fun j hj ρ hI => ?_) (fun ρ hI => ?_)
  · obtain ⟨o, rfl, K⟩ := hI
    have h14 := c14 n r hr s (j + 1) (by omega)
    rw [show ((j + 1 : Nat) : Int) = 1 + (j : Int) by push_cast; omega] at h14
    simp [h14, c13]
    cases hs : Sd kvs (seg (wd r) s (j + 1)) with
    | true =>
      simp
      refine ⟨some (j + 1), ?_, ⟨by omega, by omega, hs⟩, fun L hL => ?_⟩
      · simp only [encO]; congr 1; push_cast; omega
      · by_cases h : j + 1 ≤ L
        · exact h
        · exact absurd ((K L hL.1 (by omega)).symm.trans hL.2.2) Bool.false_ne_true
    | false =>
      simp
      intro L h1 h2
      by_cases h : L ≤ j
      · exact K L h1 h
      · have : L = j + 1 := by omega
        subst this; exact hs
  · obtain ⟨o, rfl, K⟩ := hI
    simp
    refine ⟨none, rfl, fun L hL => ?_⟩
    exact absurd ((K L hL.1 hL.2.1).symm.trans hL.2.2) Bool.false_ne_true
theorem turns_lt {i j c : Int} (hc : 0 < c) (k : Nat) (hj : 0 ≤ j - i + c - 1) : k < PV.turns i j c ↔ i + k * c < j := by
  unfold PV.turns
  have h0 : 0 ≤ (j - i + c - 1) / c := Int.ediv_nonneg hj (by omega)
  have h1 : (k : Int) + 1 ≤ (j - i + c - 1) / c ↔ ((k : Int) + 1) * c ≤ j - i + c - 1 := Int.le_ediv_iff_mul_le hc
  rw [Int.add_mul, Int.one_mul] at h1
  constructor
  · intro h
    have := h1.mp (by omega)
    omega
  · intro h
    have := h1.mpr (by omega)
    omega
theorem c16 (n : Nat) (r : List Int) (hr : Rg r) (s h : Int) (kvs : List (D × D)) : Gv (callN G XT 0 T (n + 3) 16 [tI r, .int s, .int h, .dict kvs]) fun d => ∃ o, d = encO o ∧ IsL (fun L => 1 ≤ L ∧ L ≤ 21 ∧ (L : Int) % r.length = (h - s + 1) % r.length ∧ Sd kvs (seg (wd r) s L) = true) o := by
  have hp : (0 : Int) < r.length := by have := hr.1; omega
  have h8 := hr.2
  have e0 := Int.emod_nonneg (h - s) (b := (r.length : Int)) (by omega)
  have e1 := Int.emod_lt_of_pos (h - s) hp
  obtain ⟨m, hm⟩ : ∃ m : Nat, (h - s) % (r.length : Int) + 1 = m := ⟨((h - s) % (r.length : Int) + 1).toNat, by omega⟩
  have hmod : ∀ L : Nat, (L : Int) % r.length = (h - s + 1) % r.length ↔ ((L : Int) - m) % r.length = 0 := by
    intro L
    rw [← hm, Int.emod_eq_emod_iff_emod_sub_eq_zero]
    have : ((L : Int) - (h - s + 1)) % r.length = ((L : Int) - ((h - s) % (r.length : Int) + 1)) % r.length := by
      rw [show (L : Int) - (h - s + 1) = (L : Int) - 1 - (h - s) by omega, show (L : Int) - ((h - s) % (r.length : Int) + 1) = (L : Int) - 1 - (h - s) % (r.length : Int) by omega]
      rw [Int.sub_emod ((L : Int) - 1) (h - s), Int.sub_emod ((L : Int) - 1) ((h - s) % (r.length : Int)), Int.emod_emod_of_dvd _ (Int.dvd_refl _)]
    rw [this]
  refine call_gv (fd := fd16) rfl rfl ?_
  simp [fd16, b_mod hp, mfa, hm]
  rw [rngR3_ok (by omega) (by omega) (by omega) (by omega) hp (by omega)]
  simp
  refine post_rng (fun j ρ => ∃ o, ρ = [some (tI r), some (.int s), some (.int h), some (.dict kvs), some (.int r.length), some (.int m), o] ∧ ∀ k : Nat, k < j → Sd kvs (seg (wd r) s (m + k * r.length)) = false) ⟨none, rfl, by omega⟩ (fun j hj ρ hI => ?_) (fun ρ hI => ?_)
  · obtain ⟨o, rfl, K⟩ := hI
    have hj2 := (turns_lt hp j (by omega)).mp hj
    rw [show (m : Int) + (j : Int) * (r.length : Int) = ((m + j * r.length : Nat) : Int) by push_cast; rfl] at hj2 ⊢
    have hjb : m + j * r.length ≤ 21 := by omega
    have h14 := c14 n r hr.1 s (m + j * r.length) (by omega)
    simp only [List.set_cons_succ, List.set_cons_zero]
    simp [-Int.natCast_add, -Int.natCast_mul, h14, c13]
    cases hs : Sd kvs (seg (wd r) s (m + j * r.length)) with
    | true =>
      simp [-Int.natCast_add, -Int.natCast_mul]
      refine ⟨some (m + j * r.length), rfl, ⟨by omega, by omega, (hmod _).mpr (by push_cast; rw [show (m : Int) + j * r.length - m = j * r.length by omega]; exact Int.mul_emod_left _ _), hs⟩, fun L hL => ?_⟩
      have hz := (hmod L).mp hL.2.2.1
      by_cases hlt : m + j * r.length ≤ L
      · exact hlt
      · exfalso
        obtain ⟨c, hc⟩ := Int.dvd_of_emod_eq_zero hz
        have hc0 : 0 ≤ c := by
          by_cases hh : 0 ≤ c
          · exact hh
          · have : (r.length : Int) * c ≤ r.length * (-1) := Int.mul_le_mul_of_nonneg_left (by omega) (by omega)
            omega
        obtain ⟨c', rfl⟩ : ∃ c' : Nat, c = c' := ⟨c.toNat, by omega⟩
        have hcj : c' < j := by
          by_cases hh : c' < j
          · exact hh
          · exfalso
            have : j * r.length ≤ c' * r.length := Nat.mul_le_mul_right _ (by omega)
            have e : ((c' * r.length : Nat) : Int) = (r.length : Int) * c' := by push_cast; exact Int.mul_comm _ _
            omega
        have := K c' hcj
        rw [show m + c' * r.length = L by
          have e : ((c' * r.length : Nat) : Int) = (r.length : Int) * c' := by push_cast; exact Int.mul_comm _ _
          omega, hL.2.2.2] at this
        exact Bool.noConfusion this
    | false =>
      simp [-Int.natCast_add, -Int.natCast_mul]
      intro k hk
      by_cases hkj : k < j
      · exact K k hkj
      · have : k = j := by omega
        subst this; exact hs
  · obtain ⟨o, rfl, K⟩ := hI
    simp
    refine ⟨none, rfl, fun L hL => ?_⟩
    have hz := (hmod L).mp hL.2.2.1
    obtain ⟨c, hc⟩ := Int.dvd_of_emod_eq_zero hz
    have hc0 : 0 ≤ c := by
      by_cases hh : 0 ≤ c
      · exact hh
      · have : (r.length : Int) * c ≤ r.length * (-1) := Int.mul_le_mul_of_nonneg_left (by omega) (by omega)
        omega
    obtain ⟨c', rfl⟩ : ∃ c' : Nat, c = c' := ⟨c.toNat, by omega⟩
    have e : ((c' * r.length : Nat) : Int) = (r.length : Int) * c' := by push_cast; exact Int.mul_comm _ _
    have := K c' ((turns_lt hp c' (by omega)).mpr (by push_cast at e; omega))
    rw [show m + c' * r.length = L by omega, hL.2.2.2] at this
    exact Bool.noConfusion this
/-- the comprehension of what is not None -/
theorem known_of (os : List (Option Nat)) : (os.filterMap id).map (fun m : Nat => PyData.int m) = ((os.filter (·.isSome)).map fun o => encO o) := by
  induction os with
  | nil => rfl
  | cons o os ih => cases o <;> simp [encO, ih]
theorem isNone_encO (o : Option Nat) : isNone (encO o) = !o.isSome := by cases o <;> rfl
theorem foldl_min_le : ∀ (xs : List Nat) (x : Nat), (xs.foldl min x ∈ x :: xs) ∧ ∀ y ∈ x :: xs, xs.foldl min x ≤ y
  | [], x => by simp
  | y :: xs, x => by
    obtain ⟨h1, h2⟩ := foldl_min_le xs (min x y)
    simp only [List.foldl_cons]
    refine ⟨?_, fun z hz => ?_⟩
    · rcases List.mem_cons.mp h1 with e | h1
      · rw [e]
        by_cases h : x ≤ y
        · rw [Nat.min_eq_left h]; simp
        · rw [Nat.min_eq_right (by omega)]; simp
      · simp [h1]
    · have := h2 (min x y) (List.mem_cons_self ..)
      rcases List.mem_cons.mp hz with rfl | hz
      · omega
      · rcases List.mem_cons.mp hz with rfl | hz
        · omega
        · exact h2 z (List.mem_cons_of_mem _ hz)
theorem foldl_max_ge : ∀ (xs : List Nat) (x : Nat), (xs.foldl max x ∈ x :: xs) ∧ ∀ y ∈ x :: xs, y ≤ xs.foldl max x
  | [], x => by simp
  | y :: xs, x => by
    obtain ⟨h1, h2⟩ := foldl_max_ge xs (max x y)
    simp only [List.foldl_cons]
    refine ⟨?_, fun z hz => ?_⟩
    · rcases List.mem_cons.mp h1 with e | h1
      · rw [e]
        by_cases h : x ≤ y
        · rw [Nat.max_eq_right h]; simp
        · rw [Nat.max_eq_left (by omega)]; simp
      · simp [h1]
    · have := h2 (max x y) (List.mem_cons_self ..)
      rcases List.mem_cons.mp hz with rfl | hz
      · omega
      · rcases List.mem_cons.mp hz with rfl | hz
        · omega
        · exact h2 z (List.mem_cons_of_mem _ hz)
theorem foldl_minI (xs : List Nat) (x : Nat) : (xs.map fun m : Nat => (m : Int)).foldl min (x : Int) = ((xs.foldl min x : Nat) : Int) := by
  induction xs generalizing x with
  | nil => rfl
  | cons y xs ih =>
    simp only [List.map_cons, List.foldl_cons]
    rw [show min (x : Int) (y : Int) = ((min x y : Nat) : Int) by omega, ih]
theorem foldl_maxI (xs : List Nat) (x : Nat) : (xs.map fun m : Nat => (m : Int)).foldl max (x : Int) = ((xs.foldl max x : Nat) : Int) := by
  induction xs generalizing x with
  | nil => rfl
  | cons y xs ih =>
    simp only [List.map_cons, List.foldl_cons]
    rw [show max (x : Int) (y : Int) = ((max x y : Nat) : Int) by omega, ih]
theorem min_nats (x : Nat) (xs : List Nat) : call1 .min (.list ((x :: xs).map fun m : Nat => PyData.int m)) = .ok (.int ((xs.foldl min x : Nat) : Int)) := by
  have := c1_min_l (x := (x : Int)) (xs := xs.map fun m : Nat => (m : Int))
  rw [foldl_minI] at this
  simpa [Function.comp_def] using this
theorem max_nats (x : Nat) (xs : List Nat) : call1 .max (.list ((x :: xs).map fun m : Nat => PyData.int m)) = .ok (.int ((xs.foldl max x : Nat) : Int)) := by
  have := c1_max_l (x := (x : Int)) (xs := xs.map fun m : Nat => (m : Int))
  rw [foldl_maxI] at this
  simpa [Function.comp_def] using this
theorem c19 (n : Nat) (os : List (Option Nat)) : Gv (callN G XT 0 T (n + 1) 19 [.list (os.map encO)]) fun d => ∃ o, d = encO o ∧ IsL (fun L => some L ∈ os) o := by
  refine call_gv (fd := fd19) rfl rfl ?_
  simp [fd19]
  rw [filterMapR_map (p := fun o => o.isSome) (g := id) (e' := encO) (fun o _ => by simp [isNone_encO]) (fun o _ _ => by simp)]
  rw [List.map_id, ← known_of]
  cases hk : os.filterMap id with
  | nil =>
    simp
    refine ⟨none, rfl, fun L hL => ?_⟩
    have : L ∈ os.filterMap id := List.mem_filterMap.mpr ⟨some L, hL, rfl⟩
    rw [hk] at this
    exact nomatch this
  | cons x xs =>
    have hpos : (0 : Int) < (xs.length : Int) + 1 := by omega
    have hmn := min_nats x xs
    simp only [List.map_cons] at hmn
    simp [hpos, hmn]
    have mem : ∀ L, some L ∈ os ↔ L ∈ x :: xs := fun L => by rw [← hk]; simp
    obtain ⟨h1, h2⟩ := foldl_min_le xs x
    exact ⟨some _, rfl, (mem _).mpr h1, fun L hL => h2 L ((mem L).mp hL)⟩

/-- None where one is None, else the greatest -/
def allO (os : List (Option Nat)) : Option Nat := if none ∈ os then none else match os.filterMap id with
  | [] => none
  | x :: xs => some (xs.foldl max x)
theorem fitAll_encO (os : List (Option Nat)) : fitAll (os.map encO) = true := by
  have a : PyData.plainAll (os.map encO) = true := by
    induction os with
    | nil => rfl
    | cons o os ih =>
      cases o <;> simp [PyData.plainAll, PyData.plain, encO, ih]
  have b : PyData.depthAll (os.map encO) = 0 := by
    induction os with
    | nil => simp [PyData.depthAll]
    | cons o os ih =>
      rw [List.map_cons, PyData.plainAll, Bool.and_eq_true] at a
      cases o <;> simp [PyData.depthAll, PyData.depth, encO, ih a.2]
  simp [fitAll, a, b]
theorem none_in (os : List (Option Nat)) : ((os.map encO).any fun y => PyData.eqv y .none) = decide (none ∈ os) := by
  rw [Bool.eq_iff_iff]
  simp only [List.any_eq_true, List.mem_map, decide_eq_true_eq]
  constructor
  · rintro ⟨x, ⟨o, ho, rfl⟩, h⟩
    cases o with
    | none => exact ho
    | some m => simp [encO] at h
  · intro h
    exact ⟨.none, ⟨none, h, rfl⟩, by simp⟩
theorem known_all {os : List (Option Nat)} (h : none ∉ os) : os.map encO = (os.filterMap id).map (fun m : Nat => PyData.int m) := by
  rw [known_of, List.filter_eq_self.mpr]
  intro o ho
  cases o with
  | none => exact absurd ho h
  | some m => rfl
/-- max(found), or None where None is in found -/
theorem max_known {os : List (Option Nat)} (h : none ∉ os) (hne : os ≠ []) : call1 .max (.list (os.map encO)) = .ok (encO (allO os)) := by
  rw [known_all h, allO, if_neg h]
  cases hk : os.filterMap id with
  | nil =>
    exfalso
    cases os with
    | nil => exact hne rfl
    | cons o os =>
      cases o with
      | none => exact h (List.mem_cons_self ..)
      | some m => simp at hk
  | cons x xs => exact max_nats x xs
theorem mapR_ex {α β : Type} {f : D → R D} {e : α → D} {e' : β → D} {P : α → β → Prop} : ∀ (xs : List α), (∀ x ∈ xs, ∃ y, f (e x) = .ok (e' y) ∧ P x y) → ∃ ys : List β, mapR f (xs.map e) = .ok (ys.map e') ∧ ys.length = xs.length ∧ ∀ (i : Nat) x y, xs[i]? = some x → ys[i]? = some y → P x y
  | [], _ => ⟨[], rfl, rfl, fun i x y h => (nomatch h)⟩
  | x :: xs, h => by
    obtain ⟨y, hy, py⟩ := h x (List.mem_cons_self ..)
    obtain ⟨ys, h1, h2, h3⟩ := mapR_ex xs fun z hz => h z (List.mem_cons_of_mem _ hz)
    refine ⟨y :: ys, ?_, by simp [h2], fun i a b ha hb => ?_⟩
    · simp only [List.map_cons]
      rw [mapR, hy, h1]
      rfl
    · cases i with
      | zero => simp at ha hb; subst ha; subst hb; exact py
      | succ i => exact h3 i a b (by simpa using ha) (by simpa using hb)
theorem mapR_exR {β : Type} {f : D → R D} {e' : β → D} {P : Nat → β → Prop} {n : Nat} (h : ∀ k, k < n → ∃ y, f (.int (0 + (k : Int) * 1)) = .ok (e' y) ∧ P k y) : ∃ ys : List β, mapR f (rngD 0 n 1) = .ok (ys.map e') ∧ ys.length = n ∧ ∀ (k : Nat) y, ys[k]? = some y → P k y := by
  rw [rng_map]
  obtain ⟨ys, h1, h2, h3⟩ := mapR_ex (P := P) (List.range n) fun k hk => h k (List.mem_range.mp hk)
  refine ⟨ys, h1, by simpa using h2, fun k y hy => ?_⟩
  have hk : k < ys.length := (List.getElem?_eq_some_iff.mp hy).1
  refine h3 k k y ?_ hy
  rw [List.getElem?_range (by rw [h2] at hk; simpa using hk)]
theorem isL_union {P : Nat → Nat → Prop} {os : List (Option Nat)} {n : Nat} (hl : os.length = n) (h : ∀ (k : Nat) o, os[k]? = some o → IsL (P k) o) {o : Option Nat} (ho : IsL (fun L => some L ∈ os) o) : IsL (fun L => ∃ k, k < n ∧ P k L) o := by
  have key : ∀ L, (∃ k, k < n ∧ P k L) → ∃ m, some m ∈ os ∧ m ≤ L := by
    rintro L ⟨k, hk, p⟩
    cases hs : os[k]? with
    | none => rw [List.getElem?_eq_none_iff] at hs; omega
    | some x =>
      cases x with
      | none => exact absurd p (h k _ hs L)
      | some m => exact ⟨m, List.mem_of_getElem? hs, (h k _ hs).2 L p⟩
  cases o with
  | none =>
    intro L p
    obtain ⟨m, h1, _⟩ := key L p
    exact ho m h1
  | some m =>
    obtain ⟨k, hk⟩ := List.getElem?_of_mem ho.1
    refine ⟨⟨k, ?_, (h k _ hk).1⟩, fun L p => ?_⟩
    · rw [← hl]; exact (List.getElem?_eq_some_iff.mp hk).1
    · obtain ⟨m', h1, h2⟩ := key L p
      exact Nat.le_trans (ho.2 m' h1) h2
def SomeA (r : List Int) (kvs : List (D × D)) (L : Nat) : Prop := 1 ≤ L ∧ L ≤ 14 ∧ ∃ s : Int, Sd kvs (seg (wd r) s L) = true
def AllA (r : List Int) (kvs : List (D × D)) (h : Nat) (L : Nat) : Prop := 1 ≤ L ∧ L ≤ 21 ∧ Sd kvs (seg (wd r) ((h : Int) - L + 1) L) = true
theorem c20s (n : Nat) (r : List Int) (hr : Rg r) (kvs : List (D × D)) : Gv (callN G XT 0 T (n + 4) 20 [tI r, .dict kvs, .str "some"]) fun d => ∃ o, d = encO o ∧ IsL (SomeA r kvs) o := by
  have hp := hr.1
  have h8 := hr.2
  obtain ⟨os, h1, h2, h3⟩ := mapR_exR (f := fun d => (evE G (callN G XT 0 T (n + 3)) (.call 15 (.cons (.v 0) (.cons (.v 6) (.cons (.v 1) .nil))) .nil []) [some (tI r), some (.dict kvs), some (.str "some"), some (.int r.length), none, none, some d]).noEx) (e' := encO) (n := r.length) (P := fun k o => IsL (fun L => 1 ≤ L ∧ L ≤ 14 ∧ Sd kvs (seg (wd r) (k : Int) L) = true) o) (fun k hk => by
    obtain ⟨d, hd, o, rfl, ho⟩ := c15 n r hp (k : Int) kvs
    exact ⟨o, by simp [hd], ho⟩)
  obtain ⟨d, hd, o, rfl, ho⟩ := c19 (n + 2) os
  refine call_gv (fd := fd20) rfl rfl ?_
  simp [fd20, rngR_ok (show r.length < 4194304 by omega)]
  simp at h1
  rw [h1]
  simp [hd]
  refine ⟨o, rfl, (isL_union h2 h3 ho).congr fun L => ?_⟩
  constructor
  · rintro ⟨k, hk, a, b, c⟩
    exact ⟨a, b, _, c⟩
  · rintro ⟨a, b, s, c⟩
    have e0 := Int.emod_nonneg s (b := (r.length : Int)) (by omega)
    have e1 := Int.emod_lt_of_pos s (b := (r.length : Int)) (by omega)
    refine ⟨(s % (r.length : Int)).toNat, by omega, a, b, ?_⟩
    rw [Int.toNat_of_nonneg e0, seg_mod hp (wd_per r)]
    exact c
theorem c20a (n : Nat) (r : List Int) (hr : Rg r) (kvs : List (D × D)) : Gv (callN G XT 0 T (n + 4) 20 [tI r, .dict kvs, .str "all"]) fun d => ∃ os : List (Option Nat), d = encO (allO os) ∧ os.length = r.length ∧ ∀ (h : Nat) o, os[h]? = some o → IsL (AllA r kvs h) o := by
  have hp := hr.1
  have h8 := hr.2
  have step : ∀ (h : Nat), h < r.length → ∀ (x : Option D) (y : D), ∃ os : List (Option Nat), mapR (fun d => (evE G (callN G XT 0 T (n + 3)) (.call 16 (.cons (.v 0) (.cons (.v 6) (.cons (.v 5) (.cons (.v 1) .nil)))) .nil []) [some (tI r), some (.dict kvs), some (.str "all"), some (.int r.length), some y, some (.int h), some d]).noEx) (rngD 0 r.length 1) = .ok (os.map encO) ∧ ∃ o, callN G XT 0 T (n + 3) 19 [.list (os.map encO)] = .ok (encO o) ∧ IsL (AllA r kvs h) o := by
    intro h hh x y
    obtain ⟨os, h1, h2, h3⟩ := mapR_exR (f := fun d => (evE G (callN G XT 0 T (n + 3)) (.call 16 (.cons (.v 0) (.cons (.v 6) (.cons (.v 5) (.cons (.v 1) .nil)))) .nil []) [some (tI r), some (.dict kvs), some (.str "all"), some (.int r.length), some y, some (.int h), some d]).noEx) (e' := encO) (n := r.length) (P := fun k o => IsL (fun L => 1 ≤ L ∧ L ≤ 21 ∧ (L : Int) % r.length = ((h : Int) - k + 1) % r.length ∧ Sd kvs (seg (wd r) (k : Int) L) = true) o) (fun k hk => by
      obtain ⟨d, hd, o, rfl, ho⟩ := c16 n r hr (k : Int) h kvs
      exact ⟨o, by simp [hd], ho⟩)
    obtain ⟨d, hd, o, rfl, ho⟩ := c19 (n + 2) os
    refine ⟨os, h1, o, hd, (isL_union h2 h3 ho).congr fun L => ?_⟩
    have hsh : ∀ k : Nat, (L : Int) % r.length = ((h : Int) - k + 1) % r.length → seg (wd r) (k : Int) L = seg (wd r) ((h : Int) - L + 1) L := by
      intro k hk
      rw [← seg_mod hp (wd_per r) k, ← seg_mod hp (wd_per r) ((h : Int) - L + 1)]
      congr 1
      rw [Int.emod_eq_emod_iff_emod_sub_eq_zero] at hk ⊢
      rw [← hk]
      congr 1
      omega
    constructor
    · rintro ⟨k, hk, a, b, c, e⟩
      rw [hsh k c] at e
      exact ⟨a, b, e⟩
    · rintro ⟨a, b, c⟩
      have e0 := Int.emod_nonneg ((h : Int) - L + 1) (b := (r.length : Int)) (by omega)
      have e1 := Int.emod_lt_of_pos ((h : Int) - L + 1) (b := (r.length : Int)) (by omega)
      refine ⟨(((h : Int) - L + 1) % (r.length : Int)).toNat, by omega, a, b, ?_, ?_⟩
      · rw [Int.toNat_of_nonneg e0, Int.emod_eq_emod_iff_emod_sub_eq_zero]
        rw [show (L : Int) - ((h : Int) - ((h : Int) - L + 1) % r.length + 1) = ((h : Int) - L + 1) % r.length - ((h : Int) - L + 1) by omega]
        rw [Int.sub_emod, Int.emod_emod_of_dvd _ (Int.dvd_refl _), Int.sub_self, Int.zero_emod]
      · rw [Int.toNat_of_nonneg e0, seg_mod hp (wd_per r)]
        exact c
  refine call_gv (fd := fd20) rfl rfl ?_
  simp [fd20, rngR_ok (show r.length < 4194304 by omega)]
  refine post_rng (fun k ρ => ∃ (os : List (Option Nat)) (o5 o6 : Option D), ρ = [some (tI r), some (.dict kvs), some (.str "all"), some (.int r.length), some (.list (os.map encO)), o5, o6] ∧ os.length = k ∧ ∀ (h : Nat) o, os[h]? = some o → IsL (AllA r kvs h) o) ⟨[], none, none, by simp, rfl, fun h o z => by simp at z⟩ (fun k hk ρ hI => ?_) (fun ρ hI => ?_)
  · obtain ⟨os, o5, o6, rfl, K1, K2⟩ := hI
    obtain ⟨os', s1, o, s2, s3⟩ := step k hk o6 (.list (os.map encO))
    simp at s1
    simp [rngR_ok (show r.length < 4194304 by omega), s1, s2, LIM, show os.length < 16777216 by omega]
    refine ⟨os ++ [o], by simp, by simp [K1], fun h x hx => ?_⟩
    by_cases e : h < os.length
    · rw [List.getElem?_append_left e] at hx
      exact K2 h x hx
    · rw [List.getElem?_append_right (by omega)] at hx
      have : h - os.length = 0 := by
        have := (List.getElem?_eq_some_iff.mp hx).1
        simp at this; omega
      rw [this] at hx
      simp at hx
      subst hx
      rw [show h = k by omega]
      exact s3
  · obtain ⟨os, o5, o6, rfl, K1, K2⟩ := hI
    have hin := cm_in_l (a := .none) fit_none (fitAll_encO os)
    rw [none_in] at hin
    simp [hin]
    by_cases hn : none ∈ os
    · simp [hn]
      exact ⟨os, by simp [allO, hn, encO], K1, K2⟩
    · simp [hn, max_known hn (by intro z; rw [z] at K1; simp at K1; omega)]
      exact ⟨os, rfl, K1, K2⟩
end PV.F77
end
section
set_option Elab.async false
set_option linter.all false
set_option maxRecDepth 100000
/-! M6: k77: roots, pairs of one winding. -/
namespace PV.F77
open PySem PV PV.M
theorem rep_len {α : Type} (xs : List α) (k : Nat) : (rep k xs).length = k * xs.length := by
  simp [rep]
theorem rep_succ {α : Type} (xs : List α) (k : Nat) : rep (k + 1) xs = xs ++ rep k xs := by
  simp [rep, List.replicate_succ]
theorem rep_get {α : Type} (xs : List α) : ∀ (k i : Nat), i < k * xs.length → (rep k xs)[i]? = xs[i % xs.length]?
  | 0, i, h => by omega
  | k + 1, i, h => by
    rw [rep_succ]
    by_cases hi : i < xs.length
    · rw [List.getElem?_append_left hi, Nat.mod_eq_of_lt hi]
    · rw [List.getElem?_append_right (by omega)]
      rw [rep_get xs k (i - xs.length) (by rw [Nat.add_mul] at h; omega), ← Nat.mod_eq_sub_mod (by omega)]
theorem rep_map {α β : Type} (f : α → β) (xs : List α) (k : Nat) : rep k (xs.map f) = (rep k xs).map f := by
  induction k with
  | zero => rfl
  | succ k ih => rw [rep_succ, rep_succ, List.map_append, ih]
theorem wd_nat (r : List Int) (hr : 0 < r.length) (i : Int) : r[(i % (r.length : Int)).toNat]? = some (wd r i) := by
  have e0 := Int.emod_nonneg i (b := (r.length : Int)) (by omega)
  have e1 := Int.emod_lt_of_pos i (b := (r.length : Int)) (by omega)
  unfold wd
  rw [List.getD_eq_getElem?_getD, List.getElem?_eq_getElem (by omega)]
  rfl
theorem rep_per {r : List Int} (hr : 0 < r.length) {s : Nat} (hs : 0 < s) (hd : s ∣ r.length) : rep (r.length / s) (r.take s) = r ↔ Per (wd r) s := by
  have hsl : s ≤ r.length := Nat.le_of_dvd hr hd
  have hlen : (r.take s).length = s := by rw [List.length_take]; omega
  have hdiv : r.length / s * s = r.length := Nat.div_mul_cancel hd
  have h1 : rep (r.length / s) (r.take s) = r ↔ ∀ i, i < r.length → r[i]? = r[i % s]? := by
    constructor
    · intro h i hi
      have := rep_get (r.take s) (r.length / s) i (by rw [hlen, hdiv]; exact hi)
      rw [h, hlen, List.getElem?_take_of_lt (Nat.mod_lt _ hs)] at this
      exact this
    · intro h
      apply List.ext_getElem?
      intro i
      by_cases hi : i < r.length
      · rw [rep_get _ _ _ (by rw [hlen, hdiv]; exact hi), hlen, List.getElem?_take_of_lt (Nat.mod_lt _ hs), h i hi]
      · rw [List.getElem?_eq_none (by rw [rep_len, hlen, hdiv]; omega), List.getElem?_eq_none (by omega)]
  rw [h1]
  constructor
  · intro h i
    have a := wd_nat r hr (i + s)
    have b := wd_nat r hr i
    have e0 := Int.emod_nonneg i (b := (r.length : Int)) (by omega)
    have e1 := Int.emod_lt_of_pos i (b := (r.length : Int)) (by omega)
    have f0 := Int.emod_nonneg (i + s) (b := (r.length : Int)) (by omega)
    have f1 := Int.emod_lt_of_pos (i + s) (b := (r.length : Int)) (by omega)
    rw [h _ (by omega)] at a b
    have key : ((i + s) % (r.length : Int)).toNat % s = (i % (r.length : Int)).toNat % s := by
      have hdI : (s : Int) ∣ (r.length : Int) := Int.natCast_dvd_natCast.mpr hd
      have : ((((i + s) % (r.length : Int)).toNat % s : Nat) : Int) = (((i % (r.length : Int)).toNat % s : Nat) : Int) := by
        rw [Int.natCast_emod, Int.natCast_emod, Int.toNat_of_nonneg e0, Int.toNat_of_nonneg f0, Int.emod_emod_of_dvd _ hdI, Int.emod_emod_of_dvd _ hdI, Int.add_emod_right]
      omega
    rw [key, b] at a
    exact (Option.some.inj a).symm
  · intro h i hi
    have a := wd_nat r hr (i : Int)
    have b := wd_nat r hr ((i % s : Nat) : Int)
    have hm : i % s < s := Nat.mod_lt _ hs
    rw [Int.emod_eq_of_lt (by omega) (by omega), Int.toNat_natCast] at a b
    rw [a, b]
    congr 1
    have := Per.mul h (i / s) ((i % s : Nat) : Int)
    rw [← this]
    congr 1
    have := Nat.mod_add_div i s
    rw [show (i : Int) = ((i % s + s * (i / s) : Nat) : Int) by rw [this]]
    push_cast
    rfl
theorem c17 (n : Nat) (r : List Int) (hr : Rg r) : Gv (callN G XT 0 T (n + 1) 17 [tI r]) fun d => ∃ t, d = tI (r.take t) ∧ RootSz r t := by
  have hp := hr.1
  have h8 := hr.2
  refine call_gv (fd := fd17) rfl rfl ?_
  simp [fd17]
  rw [rngR2_ok (by omega) (by omega) (by omega) (by omega)]
  simp
  refine post_rng (fun k ρ => ∃ o, ρ = [some (tI r), some (.int r.length), o] ∧ ∀ s, 1 ≤ s → s ≤ k → s ∣ r.length → ¬ Per (wd r) s) ⟨none, rfl, by omega⟩ (fun k hk ρ hI => ?_) (fun ρ hI => ?_)
  · obtain ⟨o, rfl, K⟩ := hI
    rw [show (1 : Int) + (k : Int) * 1 = ((k + 1 : Nat) : Int) by push_cast; omega]
    have hpos : (0 : Int) < ((k + 1 : Nat) : Int) := by omega
    have hmod : ((r.length : Int) % ((k + 1 : Nat) : Int)) = ((r.length % (k + 1) : Nat) : Int) := by rw [Int.natCast_emod]
    have hdv : ((r.length : Int) / ((k + 1 : Nat) : Int)) = ((r.length / (k + 1) : Nat) : Int) := by rw [Int.natCast_ediv]
    have hbd : bound r.length ((k + 1 : Nat) : Int) = k + 1 := bound_nat (by omega)
    have hq : r.length / (k + 1) ≤ r.length := Nat.div_le_self _ _
    have hmul : bin2 .mul (.tuple ((r.take (k + 1)).map PyData.int)) (.int ((r.length / (k + 1) : Nat) : Int)) = .ok (tI (rep (r.length / (k + 1)) (r.take (k + 1)))) := by
      rw [b_mul_t (Int.natCast_nonneg _) (Int.ofNat_le.mpr (show r.length / (k + 1) ≤ 64 from Nat.le_trans hq (by omega))) (by simp; omega), rep_map, Int.toNat_natCast]
    simp only [List.set_cons_succ, List.set_cons_zero, List.map_take] at hmul ⊢
    simp [-Int.natCast_add, -Int.natCast_ediv, -Int.natCast_emod, b_mod hpos, hmod, hbd, cut, b_fdiv hpos (show ((k + 1 : Nat) : Int) < 1073741824 by omega), hdv, hmul]
    by_cases hd : r.length % (k + 1) = 0
    · have hdvd : (k + 1) ∣ r.length := Nat.dvd_of_mod_eq_zero hd
      simp [hd]
      by_cases he : rep (r.length / (k + 1)) (r.take (k + 1)) = r
      · simp [he]
        exact ⟨k + 1, by simp, hdvd, (rep_per hp (by omega) hdvd).mp he, fun s hs1 hs2 => by
          have s0 : 0 < s := Nat.pos_of_dvd_of_pos hs1 hp
          by_cases h : k + 1 ≤ s
          · exact h
          · exact absurd hs2 (K s s0 (by omega) hs1)⟩
      · simp [he]
        intro s h1 h2 h3
        by_cases h : s ≤ k
        · exact K s h1 h h3
        · have : s = k + 1 := by omega
          subst this
          exact fun z => he ((rep_per hp (by omega) hdvd).mpr z)
    · have hd' : ¬ (((r.length % (k + 1) : Nat) : Int) = 0) := by omega
      simp [hd]
      intro s h1 h2 h3
      by_cases h : s ≤ k
      · exact K s h1 h h3
      · have : s = k + 1 := by omega
        subst this
        exact absurd (Nat.mod_eq_zero_of_dvd h3) hd
  · obtain ⟨o, rfl, K⟩ := hI
    simp
    refine ⟨r.length, (List.take_of_length_le (by simp)).symm, Nat.dvd_refl _, wd_per r, fun s hs1 hs2 => ?_⟩
    have s0 : 0 < s := Nat.pos_of_dvd_of_pos hs1 hp
    by_cases h : r.length ≤ s
    · exact h
    · exact absurd hs2 (K s s0 (by omega) hs1)
theorem wd_take {r : List Int} (hp : 0 < r.length) {t : Nat} (R : RootSz r t) : wd (r.take t) = wd r := by
  have t0 : 0 < t := Nat.pos_of_dvd_of_pos R.dv hp
  have tl : t ≤ r.length := Nat.le_of_dvd hp R.dv
  have hlen : (r.take t).length = t := by rw [List.length_take]; omega
  funext i
  have e0 := Int.emod_nonneg i (b := (t : Int)) (by omega)
  have e1 := Int.emod_lt_of_pos i (b := (t : Int)) (by omega)
  have a := wd_nat (r.take t) (by omega) i
  rw [hlen, List.getElem?_take_of_lt (by omega)] at a
  have b := wd_nat r hp (i % (t : Int))
  rw [Int.emod_eq_of_lt e0 (by omega)] at b
  rw [b] at a
  rw [← Option.some.inj a]
  have c := seg_mod t0 R.per i 1
  rw [seg_eq] at c
  have := c 0 (by omega)
  simpa using this
/-- least_turn(root(ring)) -/
theorem c2r (n : Nat) (r : List Int) (hr : Rg r) : ∃ t m, callN G XT 0 T (n + 3) 17 [tI r] = .ok (tI (r.take t)) ∧ callN G XT 0 T (n + 3) 2 [tI (r.take t)] = .ok (tI m) ∧ RootSz r t ∧ IsMin (Segs r t) m := by
  obtain ⟨d, hd, t, rfl, R⟩ := c17 (n + 2) r hr
  have t0 : 0 < t := Nat.pos_of_dvd_of_pos R.dv hr.1
  have tl : t ≤ r.length := Nat.le_of_dvd hr.1 R.dv
  have hlen : (r.take t).length = t := by rw [List.length_take]; omega
  have h8 := hr.2
  obtain ⟨d, hd2, m, rfl, M⟩ := c2 n (r.take t) (by omega) (by omega)
  refine ⟨t, m, hd, hd2, R, M.congr fun x => ?_⟩
  rw [trns_segs (by omega), hlen]
  unfold Segs
  rw [wd_take hr.1 R]

/-! the double walk for a pair -/
def encP : Option (List Int × List Int) → D
  | none => .none
  | some (x, y) => .tuple [tI x, tI y]
def PairI (n : Nat) (rs : List (List Int)) (Bad : Nat → Nat → Prop) : Option (List Int × List Int) → Prop
  | none => ∀ i j, i < n → j < n → ¬ Bad i j
  | some (x, y) => ∃ i j, i < n ∧ j < n ∧ x = rs.getD i [] ∧ y = rs.getD j [] ∧ Bad i j ∧ ∀ i' j', i' < n → j' < n → (i' < i ∨ i' = i ∧ j' < j) → ¬ Bad i' j'
theorem PairI.uniq {n : Nat} {rs : List (List Int)} {Bad : Nat → Nat → Prop} : ∀ {o o' : Option (List Int × List Int)}, PairI n rs Bad o → PairI n rs Bad o' → o = o'
  | none, none, _, _ => rfl
  | none, some (x, y), h, ⟨i, j, hi, hj, _, _, hb, _⟩ => absurd hb (h i j hi hj)
  | some (x, y), none, ⟨i, j, hi, hj, _, _, hb, _⟩, h => absurd hb (h i j hi hj)
  | some (x, y), some (x', y'), ⟨i, j, hi, hj, e1, e2, hb, hm⟩, ⟨i', j', hi', hj', e1', e2', hb', hm'⟩ => by
    have a : ¬ (i < i' ∨ i = i' ∧ j < j') := fun z => hm' i j hi hj z hb
    have b : ¬ (i' < i ∨ i' = i ∧ j' < j) := fun z => hm i' j' hi' hj' z hb'
    have e : i = i' := by omega
    have e' : j = j' := by omega
    subst e; subst e'
    rw [e1, e2, e1', e2']
theorem PairI.congr {n : Nat} {rs : List (List Int)} {Bad Bad' : Nat → Nat → Prop} (h : ∀ i j, i < n → j < n → (Bad i j ↔ Bad' i j)) : ∀ {o : Option (List Int × List Int)}, PairI n rs Bad o → PairI n rs Bad' o
  | none, z => fun i j hi hj b => z i j hi hj ((h i j hi hj).mpr b)
  | some (x, y), ⟨i, j, hi, hj, e1, e2, hb, hm⟩ => ⟨i, j, hi, hj, e1, e2, (h i j hi hj).mp hb, fun i' j' hi' hj' z b => hm i' j' hi' hj' z ((h i' j' hi' hj').mpr b)⟩
theorem idx_lI {W : List (List Int)} {i : Nat} (h : i < W.length) : index2 (.list (W.map tI)) (.int (i : Int)) = .ok (tI (W.getD i [])) := by
  rw [idx_l (by omega) (by simp; omega)]
  simp [h]
theorem idx_tIs {W : List (List Int)} {i : Nat} (h : i < W.length) : index2 (tR W) (.int (i : Int)) = .ok (tI (W.getD i [])) := by
  rw [idx_t (by omega) (by simp; omega)]
  simp [h]
theorem idx_li {A : List Int} {i : Nat} (h : i < A.length) : index2 (.list (A.map PyData.int)) (.int (i : Int)) = .ok (.int (A.getD i 0)) := by
  rw [idx_l (by omega) (by simp; omega)]
  simp [h]
def pairLoop : Ss := (.cons (.for_ 4 (.rng1 (.f1 .len (.v 0)))
      (.cons (.for_ 5 (.rng1 (.f1 .len (.v 0)))
      (.cons (.ite (.and (.cons (.cmp .eq (.ix (.v 2) (.v 4)) (.ix (.v 2) (.v 5))) (.cons (.cmp .ne (.ix (.v 3) (.v 4)) (.ix (.v 3) (.v 5))) .nil)))
      (.cons (.ret [] (.tup (.cons (.ix (.v 0) (.v 4)) (.cons (.ix (.v 0) (.v 5)) .nil)))) .nil)
      .nil) .nil) []) .nil) []) (.cons (.ret [] .none) .nil))
theorem pair_loop {C : Nat → List D → R D} (rs W : List (List Int)) (A : List Int) (hn : rs.length ≤ 2000) (hW : W.length = rs.length) (hA : A.length = rs.length) (q : D) (o4 o5 : Option D) (tl : Env) {N Ct B : Env → Prop} {V Ex : D → Prop}
    (hV : ∀ o, PairI rs.length rs (fun i j => W.getD i [] = W.getD j [] ∧ A.getD i 0 ≠ A.getD j 0) o → V (encP o)) :
    Post N Ct B V Ex (evSs G XT 0 C pairLoop (some (tR rs) :: some q :: some (.list (W.map tI)) :: some (.list (A.map .int)) :: o4 :: o5 :: tl)) := by
  simp [pairLoop, rngR_ok (show rs.length < 4194304 by omega)]
  refine post_rng (fun k ρ => ∃ o4 o5, ρ = (some (tR rs) :: some q :: some (.list (W.map tI)) :: some (.list (A.map .int)) :: o4 :: o5 :: tl) ∧ ∀ i j, i < k → j < rs.length → ¬ (W.getD i [] = W.getD j [] ∧ A.getD i 0 ≠ A.getD j 0)) ⟨o4, o5, rfl, by omega⟩ (fun k hk ρ hI => ?_) (fun ρ hI => ?_)
  · obtain ⟨o4, o5, rfl, K⟩ := hI
    simp [rngR_ok (show rs.length < 4194304 by omega)]
    refine post_rng (fun l ρ => ∃ o5, ρ = (some (tR rs) :: some q :: some (.list (W.map tI)) :: some (.list (A.map .int)) :: some (.int (k : Int)) :: o5 :: tl) ∧ ∀ j, j < l → ¬ (W.getD k [] = W.getD j [] ∧ A.getD k 0 ≠ A.getD j 0)) ⟨o5, rfl, by omega⟩ (fun l hl ρ hI => ?_) (fun ρ hI => ?_)
    · obtain ⟨o5, rfl, K2⟩ := hI
      simp [idx_lI (show k < W.length by omega), idx_lI (show l < W.length by omega), idx_li (show k < A.length by omega), idx_li (show l < A.length by omega), idx_tIs hk, idx_tIs hl, -List.getD_eq_getElem?_getD]
      by_cases h1 : W.getD k [] = W.getD l []
      · by_cases h2 : A.getD k 0 = A.getD l 0
        · simp [h1, h2, -List.getD_eq_getElem?_getD]
          intro j hj z
          by_cases e : j < l
          · exact Classical.byContradiction fun ne => K2 j e ⟨h1.trans z, by rw [h2]; exact ne⟩
          · have : j = l := by omega
            subst this
            rfl
        · simp [h1, h2, -List.getD_eq_getElem?_getD]
          refine hV (some (rs.getD k [], rs.getD l [])) ⟨k, l, hk, hl, rfl, rfl, ⟨h1, h2⟩, fun i' j' hi hj z => ?_⟩
          rcases z with z | ⟨rfl, z⟩
          · exact K i' j' z hj
          · exact K2 j' z
      · simp [h1, -List.getD_eq_getElem?_getD]
        intro j hj
        by_cases e : j < l
        · exact fun z => by
            have := K2 j e
            simp only [not_and, Classical.not_not] at this
            exact this z
        · have : j = l := by omega
          subst this
          exact fun z => absurd z h1
    · obtain ⟨o5, rfl, K2⟩ := hI
      simp [-List.getD_eq_getElem?_getD]
      intro i j hi hj
      by_cases e : i < k
      · have := K i j e hj
        simp only [not_and, Classical.not_not] at this
        exact this
      · have : i = k := by omega
        subst this
        have := K2 j hj
        simp only [not_and, Classical.not_not] at this
        exact this
  · obtain ⟨o4, o5, rfl, K⟩ := hI
    simp
    exact hV none K
end PV.F77
end
section
set_option Elab.async false
set_option linter.all false
set_option maxRecDepth 100000
/-! M7: k77: the program's pair, soonest, fewest_rounds; the law's rows and pair. -/
namespace PV.F77
open PySem PV PV.M
def BadS (rs : List (List Int)) (an : List Int → Int) (i j : Nat) : Prop := SW (rs.getD i []) (rs.getD j []) ∧ an (rs.getD i []) ≠ an (rs.getD j [])
theorem getD_of {α : Type} {xs : List α} {i : Nat} {d : α} (h : i < xs.length) : xs[i]? = some (xs.getD i d) := by simp [h]
theorem comp_ans {q : D} {an : List Int → Int} (rs : List (List Int)) (f : D → R D) (h : ∀ r ∈ rs, f (tI r) = .ok (.int (an r))) : mapR f (rs.map tI) = .ok ((rs.map an).map PyData.int) := mapR_map h
theorem c18 (n : Nat) {q : D} {an : List Int → Int} (Q : Ques q an) (rs : List (List Int)) (hrs : ∀ r ∈ rs, Rg r) (hm : rs.length ≤ 2000) : Gv (callN G XT 0 T (n + 11) 18 [tR rs, q]) fun d => ∃ o, d = encP o ∧ PairI rs.length rs (BadS rs an) o := by
  obtain ⟨W, w1, w2, w3⟩ := mapR_ex (f := fun d => (evE G (callN G XT 0 T (n + 10)) (.call 2 (.cons (.call 17 (.cons (.v 6) .nil) .nil []) .nil) .nil []) [some (tR rs), some q, none, none, none, none, some d]).noEx) (e := tI) (e' := tI) (P := fun r m => ∃ t, RootSz r t ∧ IsMin (Segs r t) m) rs (fun r hr => by
    obtain ⟨t, m, h1, h2, h3, h4⟩ := c2r (n + 7) r (hrs r hr)
    exact ⟨m, by simp [h1, h2], t, h3, h4⟩)
  have wa := comp_ans (q := q) (an := an) rs (fun d => (evE G (callN G XT 0 T (n + 10)) (.call 11 (.cons (.v 1) (.cons (.v 6) .nil)) .nil []) [some (tR rs), some q, some (.list (W.map tI)), none, none, none, some d]).noEx) (fun r hr => by simp [Q.prog n r (hrs r hr)])
  refine call_gv (fd := fd18) rfl rfl ?_
  simp [fd18]
  simp at w1 wa
  rw [w1]
  simp
  rw [wa]
  simp
  have := pair_loop (C := callN G XT 0 T (n + 10)) rs W (rs.map an) hm w2 (by simp) q none none [none] (N := fun _ => False) (Ct := fun _ => False) (B := fun _ => False) (Ex := fun _ => False) (V := fun d => ∃ o, d = encP o ∧ PairI rs.length rs (BadS rs an) o) (fun o ho => ⟨o, rfl, ho.congr fun i j hi hj => by
    obtain ⟨t, ht, hm⟩ := w3 i _ _ (getD_of (d := []) hi) (getD_of (d := []) (by omega))
    obtain ⟨t', ht', hm'⟩ := w3 j _ _ (getD_of (d := []) hj) (getD_of (d := []) (by omega))
    have ri := hrs _ (List.mem_of_getElem? (getD_of (d := []) hi))
    have rj := hrs _ (List.mem_of_getElem? (getD_of (d := []) hj))
    unfold BadS
    rw [rootmin ri rj ht ht' hm hm']
    have a : ∀ k, k < rs.length → (rs.map an).getD k 0 = an (rs.getD k []) := fun k hk => by simp [hk]
    rw [a i hi, a j hj]⟩)
  simpa [pairLoop] using this

/-! dues -/
def StL (rs : List (List Int)) (an : List Int → Int) (r : List Int) (s : Int) (L : Nat) : Prop := St rs an (an r) (seg (wd r) s L)
def DueS (rs : List (List Int)) (an : List Int → Int) (r : List Int) (o : Option Nat) : Prop := IsL (fun L => 1 ≤ L ∧ L ≤ 14 ∧ ∃ s, StL rs an r s L) o
def DueA (rs : List (List Int)) (an : List Int → Int) (r : List Int) (os : List (Option Nat)) : Prop := os.length = r.length ∧ ∀ (h : Nat) o, os[h]? = some o → IsL (fun L => 1 ≤ L ∧ L ≤ 14 ∧ StL rs an r ((h : Int) - L + 1) L) o
theorem DueA.uniq {rs : List (List Int)} {an : List Int → Int} {r : List Int} {os os' : List (Option Nat)} (h : DueA rs an r os) (h' : DueA rs an r os') : os = os' := by
  apply List.ext_getElem?
  intro i
  by_cases hi : i < os.length
  · have a : os[i]? = some (os.getD i none) := by simp [hi]
    have b : os'[i]? = some (os'.getD i none) := getD_of (by rw [h'.1, ← h.1]; exact hi)
    rw [a, b, (h.2 i _ a).uniq (h'.2 i _ b)]
  · rw [List.getElem?_eq_none (by omega), List.getElem?_eq_none (by rw [h'.1, ← h.1]; omega)]
def Due (rs : List (List Int)) (an : List Int → Int) (b : Bool) (r : List Int) (o : Option Nat) : Prop := if b = true then ∃ os, DueA rs an r os ∧ o = allO os else DueS rs an r o
theorem Due.uniq {rs : List (List Int)} {an : List Int → Int} {b : Bool} {r : List Int} {o o' : Option Nat} (h : Due rs an b r o) (h' : Due rs an b r o') : o = o' := by
  unfold Due at h h'
  cases b with
  | true =>
    simp only [if_true] at h h'
    obtain ⟨os, d, rfl⟩ := h
    obtain ⟨os', d', rfl⟩ := h'
    rw [d.uniq d']
  | false =>
    simp only [Bool.false_eq_true, if_false] at h h'
    exact h.uniq h'
theorem stl_long {rs : List (List Int)} {an : List Int → Int} (hrs : ∀ r ∈ rs, Rg r) {r : List Int} (hr : r ∈ rs) (s : Int) {L : Nat} (hL : 14 ≤ L) : StL rs an r s L ↔ Clr rs an r := st_long hrs hr hL
theorem due_clear {rs : List (List Int)} {an : List Int → Int} (hrs : ∀ r ∈ rs, Rg r) {r : List Int} (hr : r ∈ rs) (hc : Clr rs an r) {b : Bool} {o : Option Nat} (h : Due rs an b r o) : o ≠ none := by
  unfold Due at h
  cases b with
  | true =>
    simp only [if_true] at h
    obtain ⟨os, d, rfl⟩ := h
    have hn : none ∉ os := fun z => by
      obtain ⟨i, hi⟩ := List.getElem?_of_mem z
      exact d.2 i none hi 14 ⟨by omega, by omega, (stl_long hrs hr _ (by omega)).mpr hc⟩
    unfold allO
    rw [if_neg hn]
    cases hk : os.filterMap id with
    | nil =>
      exfalso
      cases os with
      | nil => have := d.1; have := (hrs r hr).1; simp at *; omega
      | cons x xs =>
        cases x with
        | none => exact hn (List.mem_cons_self ..)
        | some m => simp at hk
    | cons x xs => simp
  | false =>
    simp only [Bool.false_eq_true, if_false] at h
    rintro rfl
    exact h 14 ⟨by omega, by omega, 0, (stl_long hrs hr _ (by omega)).mpr hc⟩
theorem clr_of_pair {rs : List (List Int)} {an : List Int → Int} (h : PairI rs.length rs (BadS rs an) none) {r : List Int} (hr : r ∈ rs) : Clr rs an r := by
  intro r' hr' sw
  obtain ⟨i, hi⟩ := List.getElem?_of_mem hr
  obtain ⟨j, hj⟩ := List.getElem?_of_mem hr'
  have hil := (List.getElem?_eq_some_iff.mp hi).1
  have hjl := (List.getElem?_eq_some_iff.mp hj).1
  have ei : rs.getD i [] = r := by rw [List.getD_eq_getElem?_getD, hi]; rfl
  have ej : rs.getD j [] = r' := by rw [List.getD_eq_getElem?_getD, hj]; rfl
  have := h i j hil hjl
  unfold BadS at this
  rw [ei, ej] at this
  exact Classical.byContradiction fun ne => this ⟨sw, fun z => ne z.symm⟩
theorem tab_sd {rs : List (List Int)} {an : List Int → Int} {m : Nat} {kvs : List (D × D)} (t : Tab (OcR rs an 21) m kvs) {r : List Int} (hr : r ∈ rs) (s : Int) {L : Nat} (h1 : 1 ≤ L) (h2 : L ≤ 21) : Sd kvs (seg (wd r) s L) = true ↔ StL rs an r s L := by
  have v := t.val (seg (wd r) s L)
  have ha : OcR rs an 21 (seg (wd r) s L) (an r) := ⟨r, hr, ⟨by simpa using h1, by simpa using h2, occ_seg r s L⟩, rfl⟩
  have hs : StL rs an r s L ↔ ∀ b, OcR rs an 21 (seg (wd r) s L) b → b = an r := by
    constructor
    · rintro h b ⟨r', hr', i, rfl⟩
      exact h r' hr' i.2.2
    · intro h r' hr' o
      exact h _ ⟨r', hr', ⟨by simpa using h1, by simpa using h2, o⟩, rfl⟩
  rw [hs]
  unfold Sd
  cases hd : dget kvs (tI (seg (wd r) s L)) with
  | none => rw [hd] at v; exact absurd ha (v _)
  | some d =>
    rw [hd] at v
    rcases TabV.kind v with ⟨a, rfl⟩ | rfl
    · simp only [TabV] at v
      simp
      intro b hb
      rw [v.2 b hb, ← v.2 _ ha]
    · simp only [TabV] at v
      obtain ⟨x, y, hne, hx, hy⟩ := v
      simp
      exact Classical.byContradiction fun z => hne (by
        have : ∀ b, OcR rs an 21 (seg (wd r) s L) b → b = an r := fun b hb => Classical.byContradiction fun ne => z ⟨b, hb, ne⟩
        rw [this x hx, this y hy])
theorem isL_cutS {rs : List (List Int)} {an : List Int → Int} (hrs : ∀ r ∈ rs, Rg r) {r : List Int} (hr : r ∈ rs) {N : Nat} (hN : 14 ≤ N) {h : Nat} {o : Option Nat} (z : IsL (fun L => 1 ≤ L ∧ L ≤ N ∧ StL rs an r ((h : Int) - L + 1) L) o) : IsL (fun L => 1 ≤ L ∧ L ≤ 14 ∧ StL rs an r ((h : Int) - L + 1) L) o :=
  IsL.cut hN (fun L hL => by rw [stl_long hrs hr _ hL, stl_long hrs hr _ (Nat.le_refl 14)]) z
/-- the word told -/
def tw (b : Bool) : D := if b = true then .str "all" else .str "some"
theorem due20 (n : Nat) {rs : List (List Int)} {an : List Int → Int} (hrs : ∀ r ∈ rs, Rg r) {r : List Int} (hr : r ∈ rs) {m : Nat} {kvs : List (D × D)} (t : Tab (OcR rs an 21) m kvs) (b : Bool) : ∃ o, callN G XT 0 T (n + 4) 20 [tI r, .dict kvs, tw b] = .ok (encO o) ∧ Due rs an b r o := by
  cases b with
  | false =>
    obtain ⟨d, hd, o, rfl, ho⟩ := c20s n r (hrs r hr) kvs
    refine ⟨o, hd, ?_⟩
    unfold Due
    simp only [Bool.false_eq_true, if_false]
    refine IsL.congr (fun L => ?_) ho
    unfold SomeA
    constructor
    · rintro ⟨a, b, s, c⟩
      exact ⟨a, b, s, (tab_sd t hr s a (by omega)).mp c⟩
    · rintro ⟨a, b, s, c⟩
      exact ⟨a, b, s, (tab_sd t hr s a (by omega)).mpr c⟩
  | true =>
    obtain ⟨d, hd, os, rfl, h1, h2⟩ := c20a n r (hrs r hr) kvs
    refine ⟨_, hd, ?_⟩
    unfold Due
    simp only [if_true]
    refine ⟨os, ⟨h1, fun h o ho => isL_cutS hrs hr (N := 21) (by omega) (IsL.congr (fun L => ?_) (h2 h o ho))⟩, rfl⟩
    unfold AllA
    constructor
    · rintro ⟨a, b, c⟩
      exact ⟨a, b, (tab_sd t hr _ a b).mp c⟩
    · rintro ⟨a, b, c⟩
      exact ⟨a, b, (tab_sd t hr _ a b).mpr c⟩
theorem c21 (n : Nat) {q : D} {an : List Int → Int} (Q : Ques q an) (rs : List (List Int)) (hrs : ∀ r ∈ rs, Rg r) (hm : rs.length ≤ 2000) {r : List Int} (hr : r ∈ rs) (b : Bool) : ∃ o, callN G XT 0 T (n + 12) 21 [tI r, tR rs, q, tw b] = .ok (encO o) ∧ Due rs an b r o := by
  obtain ⟨d, hd, kvs, rfl, t⟩ := c12 n Q rs hrs hm 21 (by omega)
  obtain ⟨o, ho, du⟩ := due20 (n + 7) hrs hr t b
  refine ⟨o, call_ok (fd := fd21) rfl rfl ?_, du⟩
  simp at hd
  simp [fd21, mfa, hd, ho]
def notClear (x y : List Int) : D := .dict [(.none, .str "NotClear"), (.str "one", tI x), (.str "two", tI y)]
theorem c22 (n : Nat) {q : D} {an : List Int → Int} (Q : Ques q an) (rs : List (List Int)) (hrs : ∀ r ∈ rs, Rg r) (hm : rs.length ≤ 2000) (hne : rs ≠ []) (b : Bool) : ∃ o, PairI rs.length rs (BadS rs an) o ∧ match o with
    | none => ∃ os, callN G XT 0 T (n + 12) 22 [tR rs, q, tw b] = .ok (encO (allO os)) ∧ os.length = rs.length ∧ none ∉ os ∧ ∀ (i : Nat) r o, rs[i]? = some r → os[i]? = some o → Due rs an b r o
    | some (x, y) => callN G XT 0 T (n + 12) 22 [tR rs, q, tw b] = .ex (notClear x y) := by
  obtain ⟨d, hd, o, rfl, ho⟩ := c18 n Q rs hrs hm
  refine ⟨o, ho, ?_⟩
  cases o with
  | none =>
    simp only
    obtain ⟨d, hk, kvs, rfl, t⟩ := c12 n Q rs hrs hm 21 (by omega)
    obtain ⟨os, s1, s2, s3⟩ := mapR_ex (f := fun d => (evE G (callN G XT 0 T (n + 11)) (.call 20 (.cons (.v 5) (.cons (.v 4) (.cons (.v 2) .nil))) .nil []) [some (tR rs), some q, some (tw b), some .none, some (.dict kvs), some d]).noEx) (e := tI) (e' := encO) (P := fun r o => Due rs an b r o) rs (fun r hr => by
      obtain ⟨o, h1, h2⟩ := due20 (n + 7) hrs hr t b
      exact ⟨o, by simp [h1], h2⟩)
    have hn : none ∉ os := fun z => by
      obtain ⟨i, hi⟩ := List.getElem?_of_mem z
      have hil : i < rs.length := by rw [← s2]; exact (List.getElem?_eq_some_iff.mp hi).1
      have hr := getD_of (d := []) hil
      have hmem := List.mem_of_getElem? hr
      exact due_clear hrs hmem (clr_of_pair ho hmem) (s3 i _ _ hr hi) rfl
    have hos : os ≠ [] := fun z => hne (by
      rw [z] at s2; exact List.length_eq_zero_iff.mp s2.symm)
    refine ⟨os, call_ok (fd := fd22) rfl rfl ?_, s2, hn, s3⟩
    simp at hd hk
    simp at s1
    simp [fd22, hd, encP, mfa, hk, s1, max_known hn hos]
  | some p =>
    obtain ⟨x, y⟩ := p
    simp only
    rw [call_eq (fd := fd22) (n + 11) rfl rfl]
    have e0 : index2 (.tuple [tI x, tI y]) (.int 0) = .ok (tI x) := by rw [idx_t (by omega) (by simp)]; rfl
    have e1 : index2 (.tuple [tI x, tI y]) (.int 1) = .ok (tI y) := by rw [idx_t (by omega) (by simp)]; rfl
    simp [fd22, hd, encP]
    have ra : ∀ (ρ : Env) (as : Es) (ds : List D), evEs G (callN G XT 0 T (n + 11)) as ρ = .ok ds → ds.length = 2 → evS G XT 0 (callN G XT 0 T (n + 11)) (.raise 2 as) ρ = .ex (.dict ((.none, .str "NotClear") :: ([("one" : Str), "two"].map PyData.str).zip ds)) ρ := fun ρ as ds h hl => by
      show (match XT 2 with | some x => ((evEs G (callN G XT 0 T (n + 11)) as ρ).bind (mkX x)).out ρ fun d => Out.ex d ρ | none => Out.bad) = _
      rw [h]
      show (mkX ⟨"NotClear", ["one", "two"], true⟩ ds).out ρ (fun d => Out.ex d ρ) = _
      unfold mkX
      rw [if_pos (by simpa using hl)]
      rfl
    rw [ra _ _ [tI x, tI y] (by simp [e0, e1]) rfl]
    simp [notClear]
end PV.F77
end
section
set_option Elab.async false
set_option linter.all false
set_option maxRecDepth 100000
/-! M8: k77: the law's own side. -/
namespace PV.F77
open PySem PV PV.M
theorem c28 (n : Nat) (r : List Int) (hr : 0 < r.length) (h : Int) (L : Nat) (hL : L ≤ 1000) : callN G XT 0 T (n + 1) 28 [tI r, .int h, .int L] = .ok (tI (seg (wd r) (h - L + 1) L)) := by
  refine call_ok (fd := fd28) rfl rfl ?_
  have hp : (0 : Int) < r.length := by omega
  simp [fd28, rngR_ok (show L < 4194304 by omega)]
  rw [mapR_rng (e' := PyData.int) (g := fun k => wd r (h - L + 1 + k)) (fun k hk => by
    simp [b_mod hp, idx_mod hr])]
  simp [seg]
theorem noneFree_tI (rs : List (List Int)) : noneFree (rs.map tI) = true := by simp [noneFree]
theorem alikeL_tI (rs : List (List Int)) : alikeL (rs.map tI) = true := by simp [alikeL, alike_tI]
theorem minD_tI (x : List Int) (xs : List (List Int)) : ∃ m, minD (tI x) (xs.map tI) = tI m ∧ m ∈ x :: xs ∧ ∀ y ∈ x :: xs, ¬ y < m := by
  unfold minD
  induction xs generalizing x with
  | nil => exact ⟨x, rfl, List.mem_cons_self .., fun y hy => by
      simp at hy; subst hy; exact List.lt_irrefl y⟩
  | cons y xs ih =>
    simp only [List.map_cons, List.foldl_cons, lt_tI]
    by_cases h : y < x
    · rw [if_pos (by simpa using h)]
      obtain ⟨m, h1, h2, h3⟩ := ih y
      refine ⟨m, h1, List.mem_cons_of_mem _ h2, fun z hz => ?_⟩
      rcases List.mem_cons.mp hz with rfl | hz
      · exact fun hlt => h3 y (List.mem_cons_self ..) (List.lt_trans h hlt)
      · exact h3 z hz
    · rw [if_neg (by simpa using h)]
      obtain ⟨m, h1, h2, h3⟩ := ih x
      refine ⟨m, h1, ?_, fun z hz => ?_⟩
      · rcases List.mem_cons.mp h2 with rfl | h2
        · exact List.mem_cons_self ..
        · exact List.mem_cons_of_mem _ (List.mem_cons_of_mem _ h2)
      · rcases List.mem_cons.mp hz with rfl | hz
        · exact h3 _ (List.mem_cons_self ..)
        · rcases List.mem_cons.mp hz with rfl | hz
          · have h4 := h3 x (List.mem_cons_self ..)
            exact fun hlt => h4 (List.lt_of_le_of_lt (List.not_lt.mp h) hlt)
          · exact h3 z (List.mem_cons_of_mem _ hz)
theorem min_tI {rows : List (List Int)} (h : rows ≠ []) : ∃ m, call1 .min (.list (rows.map tI)) = .ok (tI m) ∧ IsMin (· ∈ rows) m := by
  cases rows with
  | nil => exact absurd rfl h
  | cons x xs =>
    obtain ⟨m, h1, h2, h3⟩ := minD_tI x xs
    refine ⟨m, ?_, h2, h3⟩
    show (if (alikeL ((x :: xs).map tI) && noneFree ((x :: xs).map tI) && fitAll ((x :: xs).map tI)) = true then R.ok (minD (tI x) (xs.map tI)) else .bad) = _
    rw [alikeL_tI, noneFree_tI, fitAll_tI, if_pos (by rfl), h1]
theorem segs_rows {r : List Int} (hr : 0 < r.length) (L : Nat) (x : List Int) : x ∈ (List.range r.length).map (fun (h : Nat) => seg (wd r) ((h : Int) - L + 1) L) ↔ Segs r L x := by
  simp only [List.mem_map, List.mem_range, Segs]
  constructor
  · rintro ⟨h, _, rfl⟩
    exact ⟨_, rfl⟩
  · rintro ⟨s, rfl⟩
    have e0 := Int.emod_nonneg (s + L - 1) (b := (r.length : Int)) (by omega)
    have e1 := Int.emod_lt_of_pos (s + L - 1) (b := (r.length : Int)) (by omega)
    refine ⟨((s + L - 1) % (r.length : Int)).toNat, by omega, ?_⟩
    rw [Int.toNat_of_nonneg e0, show ∀ a b : Int, a - b + 1 = a + (1 - b) by intros; omega, seg_shift hr]
    rw [show s + (L : Int) - 1 + (1 - L) = s by omega]
theorem c43 (n : Nat) {q : D} {an : List Int → Int} (Q : Ques q an) (rs : List (List Int)) (hrs : ∀ r ∈ rs, Rg r) (hm : rs.length ≤ 2000) : Gv (callN G XT 0 T (n + 11) 43 [tR rs, q]) fun d => ∃ o, d = encP o ∧ PairI rs.length rs (BadS rs an) o := by
  obtain ⟨W, w1, w2, w3⟩ := mapR_ex (f := fun d => (evE G (callN G XT 0 T (n + 10)) (.f1 .min (.comp (.call 28 (.cons (.v 6) (.cons (.v 7) (.cons (.int 24) .nil))) .nil []) 7 (.rng1 (.f1 .len (.v 6))))) [some (tR rs), some q, none, none, none, none, some d, none]).noEx) (e := tI) (e' := tI) (P := fun r m => IsMin (Segs r 24) m) rs (fun r hr => by
    have R := hrs r hr
    have hp := R.1
    have h8 := R.2
    obtain ⟨m, h1, h2⟩ := min_tI (rows := (List.range r.length).map (fun (h : Nat) => seg (wd r) ((h : Int) - (24 : Nat) + 1) 24)) (by
      intro z
      have := congrArg List.length z
      have : r.length = 0 := by simpa using this
      omega)
    refine ⟨m, ?_, h2.congr (segs_rows hp 24)⟩
    simp [rngR_ok (show r.length < 4194304 by omega)]
    rw [mapR_rng (e' := tI) (g := fun h => seg (wd r) ((h : Int) - (24 : Nat) + 1) 24) (fun k hk => by
      have := c28 (n + 9) r hp (k : Int) 24 (by omega)
      simp at this
      simp [this])]
    simp at h1
    simp [h1])
  have wa := comp_ans (q := q) (an := an) rs (fun d => (evE G (callN G XT 0 T (n + 10)) (.call 38 (.cons (.v 1) (.cons (.v 6) .nil)) .nil []) [some (tR rs), some q, some (.list (W.map tI)), none, none, none, some d, none]).noEx) (fun r hr => by simp [Q.law n r (hrs r hr)])
  refine call_gv (fd := fd43) rfl rfl ?_
  simp [fd43]
  simp at w1 wa
  rw [w1]
  simp
  rw [wa]
  simp
  have := pair_loop (C := callN G XT 0 T (n + 10)) rs W (rs.map an) hm w2 (by simp) q none none [none, none] (N := fun _ => False) (Ct := fun _ => False) (B := fun _ => False) (Ex := fun _ => False) (V := fun d => ∃ o, d = encP o ∧ PairI rs.length rs (BadS rs an) o) (fun o ho => ⟨o, rfl, ho.congr fun i j hi hj => by
    have hm := w3 i _ _ (getD_of (d := []) hi) (getD_of (d := []) (by omega))
    have hm' := w3 j _ _ (getD_of (d := []) hj) (getD_of (d := []) (by omega))
    have ri := hrs _ (List.mem_of_getElem? (getD_of (d := []) hi))
    have rj := hrs _ (List.mem_of_getElem? (getD_of (d := []) hj))
    unfold BadS
    rw [min24 ri rj hm hm']
    have a : ∀ k, k < rs.length → (rs.map an).getD k 0 = an (rs.getD k []) := fun k hk => by simp [hk]
    rw [a i hi, a j hj]⟩)
  simpa [pairLoop] using this
theorem c44 (n : Nat) (o : Option Nat) : callN G XT 0 T (n + 2) 44 [encO o, encO o] = .ok (.bool true) := by
  have h23 : ∀ i : Int, callN G XT 0 T (n + 1) 23 [.int i] = .ok (.bool true) := fun i => by
    refine call_ok (fd := fd23) rfl rfl ?_
    simp [fd23, PyData.plain, isTy]
  refine call_ok (fd := fd44) rfl rfl ?_
  cases o with
  | none => simp [fd44, encO]
  | some m => simp [fd44, encO, h23]

/-! the law's table -/
def encL (b : Bool) (a : Int) : D := .tuple [.bool b, .int a]
def TabLV (A : Int → Prop) : Option D → Prop
  | none => ∀ a, ¬ A a
  | some d => ∃ b a, d = encL b a ∧ A a ∧ (b = true → ∀ c, A c → c = a) ∧ (b = false → ∃ c, c ≠ a ∧ A c)
structure TabL (Oc : List Int → Int → Prop) (m : Nat) (kvs : List (D × D)) : Prop where
  tk : Tks kvs
  len : kvs.length ≤ m
  val : ∀ row, TabLV (Oc row) (dget kvs (tI row))
theorem TabLV.congr {A B : Int → Prop} (h : ∀ a, A a ↔ B a) {o : Option D} (t : TabLV A o) : TabLV B o := by
  have : A = B := funext fun a => propext (h a)
  rw [← this]; exact t
theorem TabL.congr {Oc Oc' : List Int → Int → Prop} {m : Nat} {kvs : List (D × D)} (h : ∀ row a, Oc row a ↔ Oc' row a) (t : TabL Oc m kvs) : TabL Oc' m kvs := ⟨t.tk, t.len, fun row => (t.val row).congr (h row)⟩
theorem TabL.mono {Oc : List Int → Int → Prop} {m m' : Nat} {kvs : List (D × D)} (t : TabL Oc m kvs) (h : m ≤ m') : TabL Oc m' kvs := ⟨t.tk, Nat.le_trans t.len h, t.val⟩
theorem TabL.nil : TabL (fun _ _ => False) 0 [] := ⟨fun p h => (nomatch h), Nat.le_refl _, fun row => by simp [dget, TabLV]⟩
theorem TabL.new {Oc : List Int → Int → Prop} {m : Nat} {kvs : List (D × D)} (t : TabL Oc m kvs) {r : List Int} (a : Int) (h : dget kvs (tI r) = none) : TabL (fun row b => Oc row b ∨ (row = r ∧ b = a)) (m + 1) (dput kvs (tI r) (encL true a)) := by
  refine ⟨dput_keys t.tk, Nat.le_trans (dput_len ..) (Nat.succ_le_succ t.len), fun row => ?_⟩
  rw [dget_dput t.tk]
  have v := t.val row
  by_cases e : r = row
  · subst e
    rw [h] at v
    simp only [if_true, TabLV] at v ⊢
    exact ⟨true, a, rfl, .inr ⟨trivial, rfl⟩, fun _ b hb => by
      rcases hb with hb | ⟨_, rfl⟩
      · exact absurd hb (v b)
      · rfl, fun z => (nomatch z)⟩
  · rw [if_neg e]
    exact v.congr fun b => by simp [Ne.symm e]
theorem TabL.same {Oc : List Int → Int → Prop} {m : Nat} {kvs : List (D × D)} (t : TabL Oc m kvs) {r : List Int} {b : Bool} {a : Int} (h : dget kvs (tI r) = some (encL b a)) : TabL (fun row b => Oc row b ∨ (row = r ∧ b = a)) (m + 1) kvs := by
  refine ⟨t.tk, Nat.le_succ_of_le t.len, fun row => ?_⟩
  have v := t.val row
  by_cases e : row = r
  · subst e
    rw [h] at v ⊢
    obtain ⟨b', a', e', h1, h2, h3⟩ := v
    simp [encL] at e'
    obtain ⟨rfl, rfl⟩ := e'
    refine ⟨b, a, rfl, .inl h1, fun hb c hc => ?_, fun hb => ?_⟩
    · rcases hc with hc | ⟨_, rfl⟩
      · exact h2 hb c hc
      · rfl
    · obtain ⟨c, c1, c2⟩ := h3 hb
      exact ⟨c, c1, .inl c2⟩
  · exact v.congr fun b => by simp [e]
theorem TabL.clash {Oc : List Int → Int → Prop} {m : Nat} {kvs : List (D × D)} (t : TabL Oc m kvs) {r : List Int} {a c : Int} {b : Bool} (h : dget kvs (tI r) = some (encL b c)) (hd : c ≠ a) : TabL (fun row b => Oc row b ∨ (row = r ∧ b = a)) (m + 1) (dput kvs (tI r) (encL false c)) := by
  refine ⟨dput_keys t.tk, Nat.le_trans (dput_len ..) (Nat.succ_le_succ t.len), fun row => ?_⟩
  rw [dget_dput t.tk]
  have v := t.val row
  by_cases e : r = row
  · subst e
    rw [h] at v
    simp only [if_true]
    obtain ⟨b', a', e', h1, h2, h3⟩ := v
    simp [encL] at e'
    obtain ⟨rfl, rfl⟩ := e'
    exact ⟨false, c, rfl, .inl h1, fun z => (nomatch z), fun _ => ⟨a, Ne.symm hd, .inr ⟨trivial, rfl⟩⟩⟩
  · rw [if_neg e]
    exact v.congr fun b => by simp [Ne.symm e]
theorem c40 (n : Nat) {q : D} {an : List Int → Int} (Q : Ques q an) (rs : List (List Int)) (hrs : ∀ r ∈ rs, Rg r) (hm : rs.length ≤ 2000) (m : Nat) (hm21 : m ≤ 21) :
    Gv (callN G XT 0 T (n + 11) 40 [tR rs, q, .int m]) fun d => ∃ kvs, d = .dict kvs ∧ TabL (OcR rs an m) 400000 kvs := by
  refine call_gv (fd := fd40) rfl rfl ?_
  simp [fd40]
  refine post_for (e := tI) (fun k ρ => ∃ kvs o4 o5 o6 o7 o8 o9, ρ = [some (tR rs), some q, some (.int m), some (.dict kvs), o4, o5, o6, o7, o8, o9] ∧ TabL (OcR (rs.take k) an m) (168 * k) kvs) ⟨[], none, none, none, none, none, none, rfl, TabL.nil.congr (by simp [OcR])⟩ (fun k r hk ρ hI => ?_) (fun ρ hI => ?_)
  · obtain ⟨kvs, o4, o5, o6, o7, o8, o9, rfl, K⟩ := hI
    have hr : Rg r := hrs r (List.mem_of_getElem? hk)
    have hp := hr.1
    have h8 := hr.2
    have hkl : k < rs.length := (List.getElem?_eq_some_iff.mp hk).1
    simp [Q.law n r hr, rngR_ok (show r.length < 4194304 by omega)]
    refine post_rng (fun j ρ => ∃ kvs o6 o7 o8 o9, ρ = [some (tR rs), some q, some (.int m), some (.dict kvs), some (tI r), some (.int (an r)), o6, o7, o8, o9] ∧ TabL (fun row a => OcR (rs.take k) an m row a ∨ ((∃ L, 1 ≤ L ∧ L ≤ m ∧ ∃ h, h < j ∧ row = seg (wd r) ((h : Int) - L + 1) L) ∧ a = an r)) (168 * k + 21 * j) kvs) ⟨kvs, o6, o7, o8, o9, rfl, K.congr fun row a => by
        constructor
        · exact .inl
        · rintro (h | ⟨⟨L, _, _, h, hh, _⟩, _⟩)
          · exact h
          · omega⟩ (fun j hj ρ hI => ?_) (fun ρ hI => ?_)
    · obtain ⟨kvs, o6, o7, o8, o9, rfl, K⟩ := hI
      have h28 := c28 (n + 9) r hp (j : Int) m (by omega)
      simp [h28]
      rw [rngR2_ok (by omega) (by omega) (by omega) (by omega)]
      simp
      refine post_rng (fun i ρ => ∃ kvs o8 o9, ρ = [some (tR rs), some q, some (.int m), some (.dict kvs), some (tI r), some (.int (an r)), some (.int (j : Int)), some (tI (seg (wd r) ((j : Int) - m + 1) m)), o8, o9] ∧ TabL (fun row a => (OcR (rs.take k) an m row a ∨ ((∃ L, 1 ≤ L ∧ L ≤ m ∧ ∃ h, h < j ∧ row = seg (wd r) ((h : Int) - L + 1) L) ∧ a = an r)) ∨ (∃ L, 1 ≤ L ∧ L ≤ i ∧ row = seg (wd r) ((j : Int) - L + 1) L) ∧ a = an r) (168 * k + 21 * j + i) kvs) ⟨kvs, o8, o9, rfl, K.congr fun row a => by
        constructor
        · exact .inl
        · rintro (h | ⟨⟨L, _, _, _⟩, _⟩)
          · exact h
          · omega⟩ (fun i hi ρ hI => ?_) (fun ρ hI => ?_)
      · obtain ⟨kvs, o8, o9, rfl, K⟩ := hI
        have hl := K.len
        have hL : kvs.length < 16777216 := by omega
        have hrow : slice3 (tI (seg (wd r) ((j : Int) - m + 1) m)) (fun n => bound n ((m : Int) - (1 + (i : Int)))) (fun n => n) = .ok (tI (seg (wd r) ((j : Int) - ((i + 1 : Nat) : Int) + 1) (i + 1))) := by
          rw [sl_t]
          refine congrArg R.ok (congrArg PyData.tuple ?_)
          rw [show (m : Int) - (1 + (i : Int)) = ((m - (i + 1) : Nat) : Int) by omega]
          simp only [List.length_map, seg_len]
          rw [bound_nat (by omega)]
          unfold cut
          rw [List.take_of_length_le (by simp), ← List.map_drop]
          refine congrArg (List.map PyData.int) ?_
          apply List.ext_getElem
          · simp; omega
          intro x hx1 hx2
          rw [List.getElem_drop, seg_get, seg_get]
          exact congrArg (wd r) (by omega)
        have fin : ∀ (row : List Int) (a : Int), ((OcR (rs.take k) an m row a ∨ ((∃ L, 1 ≤ L ∧ L ≤ m ∧ ∃ h, h < j ∧ row = seg (wd r) ((h : Int) - L + 1) L) ∧ a = an r)) ∨ (∃ L, 1 ≤ L ∧ L ≤ i ∧ row = seg (wd r) ((j : Int) - L + 1) L) ∧ a = an r) ∨ (row = seg (wd r) ((j : Int) - ((i + 1 : Nat) : Int) + 1) (i + 1) ∧ a = an r) ↔ (OcR (rs.take k) an m row a ∨ ((∃ L, 1 ≤ L ∧ L ≤ m ∧ ∃ h, h < j ∧ row = seg (wd r) ((h : Int) - L + 1) L) ∧ a = an r)) ∨ (∃ L, 1 ≤ L ∧ L ≤ i + 1 ∧ row = seg (wd r) ((j : Int) - L + 1) L) ∧ a = an r := by
          intro row a
          constructor
          · rintro ((h1 | ⟨⟨L, l1, l2, e⟩, ea⟩) | ⟨e, ea⟩)
            · exact .inl h1
            · exact .inr ⟨⟨L, l1, by omega, e⟩, ea⟩
            · exact .inr ⟨⟨i + 1, by omega, by omega, e⟩, ea⟩
          · rintro (h1 | ⟨⟨L, l1, l2, e⟩, ea⟩)
            · exact .inl (.inl h1)
            · by_cases z : L = i + 1
              · subst z; exact .inr ⟨e, ea⟩
              · exact .inl (.inr ⟨⟨L, l1, by omega, e⟩, ea⟩)
        rw [show (1 : Int) + (i : Int) * 1 = 1 + (i : Int) by omega]
        simp only [List.set_cons_succ, List.set_cons_zero]
        cases hd : dget kvs (tI (seg (wd r) ((j : Int) - ((i + 1 : Nat) : Int) + 1) (i + 1))) with
        | none =>
          simp only [evss_cons, evss_nil, ev_set, ev_sif, ev_put, ev_slL, ev_v, ev_pk, ev_bin, ev_cmp, ev_ix, ev_tup, evs_cons, evs_nil, ev_bool, ev_int, slot_succ, slot_zero, rb_ok, asInt_int, b_sub_i, hrow, out_ok, clear_nil, List.set_cons_succ, List.set_cons_zero, thn_nx, cm_nin_d (tkey_tI _), hd]
          simp [LIM, hL, hd]
          have := ((K.new (an r) hd).congr fin).mono (m' := 168 * k + 21 * j + (i + 1)) (by omega)
          simpa [encL] using this
        | some d =>
          have kd := K.val (seg (wd r) ((j : Int) - ((i + 1 : Nat) : Int) + 1) (i + 1))
          rw [hd] at kd
          obtain ⟨b, a, rfl, _⟩ := kd
          have i1 : index2 (encL b a) (.int 1) = .ok (.int a) := by unfold encL; rw [idx_t (by omega) (by simp)]; rfl
          simp only [evss_cons, evss_nil, ev_set, ev_sif, ev_put, ev_slL, ev_v, ev_pk, ev_bin, ev_cmp, ev_ix, ev_tup, evs_cons, evs_nil, ev_bool, ev_int, slot_succ, slot_zero, rb_ok, asInt_int, b_sub_i, hrow, out_ok, clear_nil, List.set_cons_succ, List.set_cons_zero, thn_nx, cm_nin_d (tkey_tI _), hd, idx_d (tkey_tI _) hd, i1]
          by_cases he : a = an r
          · subst he
            simp
            have := ((K.same hd).congr fin).mono (m' := 168 * k + 21 * j + (i + 1)) (by omega)
            exact this
          · simp [he, LIM, hL, i1, hd]
            have := ((K.clash hd he).congr fin).mono (m' := 168 * k + 21 * j + (i + 1)) (by omega)
            simpa [encL] using this
      · obtain ⟨kvs, o8, o9, rfl, K⟩ := hI
        simp
        refine (K.congr fun row a => ?_).mono (by omega)
        constructor
        · rintro ((h1 | ⟨⟨L, l1, l2, h, hh, e⟩, ea⟩) | ⟨⟨L, l1, l2, e⟩, ea⟩)
          · exact .inl h1
          · exact .inr ⟨⟨L, l1, l2, h, by omega, e⟩, ea⟩
          · exact .inr ⟨⟨L, l1, l2, j, by omega, e⟩, ea⟩
        · rintro (h1 | ⟨⟨L, l1, l2, h, hh, e⟩, ea⟩)
          · exact .inl (.inl h1)
          · by_cases z : h = j
            · subst z; exact .inr ⟨⟨L, l1, l2, e⟩, ea⟩
            · exact .inl (.inr ⟨⟨L, l1, l2, h, by omega, e⟩, ea⟩)
    · obtain ⟨kvs, o6, o7, o8, o9, rfl, K⟩ := hI
      simp
      refine (K.congr fun row a => ?_).mono (by omega)
      simp only [OcR, mem_take_succ hk]
      rw [← inR_iff hp]
      constructor
      · rintro (⟨r', h1, h2, h3⟩ | ⟨h1, rfl⟩)
        · exact ⟨r', .inl h1, h2, h3⟩
        · exact ⟨r, .inr rfl, h1, rfl⟩
      · rintro ⟨r', h1 | rfl, h2, h3⟩
        · exact .inl ⟨r', h1, h2, h3⟩
        · exact .inr ⟨h2, h3.symm⟩
  · obtain ⟨kvs, o4, o5, o6, o7, o8, o9, rfl, K⟩ := hI
    simp
    rw [List.take_length] at K
    exact K.mono (by omega)
end PV.F77
end
section
set_option Elab.async false
set_option linter.all false
set_option maxRecDepth 100000
/-! M9: k77: the law's dues, one list holds. -/
namespace PV.F77
open PySem PV PV.M
theorem tabL_at {rs : List (List Int)} {an : List Int → Int} {m : Nat} {kvs : List (D × D)} (t : TabL (OcR rs an 16) m kvs) {r : List Int} (hr : r ∈ rs) (s : Int) {L : Nat} (h1 : 1 ≤ L) (h2 : L ≤ 16) : ∃ b a, dget kvs (tI (seg (wd r) s L)) = some (encL b a) ∧ (b = true ↔ StL rs an r s L) := by
  have v := t.val (seg (wd r) s L)
  have ha : OcR rs an 16 (seg (wd r) s L) (an r) := ⟨r, hr, ⟨by simpa using h1, by simpa using h2, occ_seg r s L⟩, rfl⟩
  have hs : StL rs an r s L ↔ ∀ b, OcR rs an 16 (seg (wd r) s L) b → b = an r := by
    constructor
    · rintro h b ⟨r', hr', i, rfl⟩
      exact h r' hr' i.2.2
    · intro h r' hr' o
      exact h _ ⟨r', hr', ⟨by simpa using h1, by simpa using h2, o⟩, rfl⟩
  cases hd : dget kvs (tI (seg (wd r) s L)) with
  | none => rw [hd] at v; exact absurd ha (v _)
  | some d =>
    rw [hd] at v
    obtain ⟨b, a, rfl, g1, g2, g3⟩ := v
    refine ⟨b, a, rfl, ?_⟩
    rw [hs]
    constructor
    · intro hb c hc
      rw [g2 hb c hc, ← g2 hb _ ha]
    · intro h
      cases b with
      | true => rfl
      | false =>
        obtain ⟨c, c1, c2⟩ := g3 rfl
        exact absurd ((h c c2).trans (h a g1).symm) c1
theorem encO_none (o : Option Nat) : encO o = .none ↔ o = none := by cases o <;> simp [encO]
theorem c41 (n : Nat) {rs : List (List Int)} {an : List Int → Int} (hrs : ∀ r ∈ rs, Rg r) {r : List Int} (hr : r ∈ rs) {m : Nat} {kvs : List (D × D)} (t : TabL (OcR rs an 16) m kvs) :
    Gv (callN G XT 0 T (n + 2) 41 [tI r, .dict kvs]) fun d => ∃ os : List (Option Nat), d = .list (os.map encO) ∧ DueA rs an r os := by
  have R := hrs r hr
  have hp := R.1
  have h8 := R.2
  refine call_gv (fd := fd41) rfl rfl ?_
  simp [fd41, rngR_ok (show r.length < 4194304 by omega)]
  refine post_rng (fun k ρ => ∃ (os : List (Option Nat)) (o3 o4 o5 : Option D), ρ = [some (tI r), some (.dict kvs), some (.list (os.map encO)), o3, o4, o5] ∧ os.length = k ∧ ∀ (h : Nat) o, os[h]? = some o → IsL (fun L => 1 ≤ L ∧ L ≤ 14 ∧ StL rs an r ((h : Int) - L + 1) L) o) ⟨[], none, none, none, by simp, rfl, fun h o z => by simp at z⟩ (fun k hk ρ hI => ?_) (fun ρ hI => ?_)
  · obtain ⟨os, o3, o4, o5, rfl, K1, K2⟩ := hI
    have app : ∀ o : Option Nat, IsL (fun L => 1 ≤ L ∧ L ≤ 16 ∧ StL rs an r ((k : Int) - L + 1) L) o → (os ++ [o]).length = k + 1 ∧ ∀ (h : Nat) o', (os ++ [o])[h]? = some o' → IsL (fun L => 1 ≤ L ∧ L ≤ 14 ∧ StL rs an r ((h : Int) - L + 1) L) o' := by
      intro o ho
      refine ⟨by simp [K1], fun h x hx => ?_⟩
      by_cases e : h < os.length
      · rw [List.getElem?_append_left e] at hx
        exact K2 h x hx
      · rw [List.getElem?_append_right (by omega)] at hx
        have : h - os.length = 0 := by
          have := (List.getElem?_eq_some_iff.mp hx).1
          simp at this; omega
        rw [this] at hx
        simp at hx
        subst hx
        rw [show h = k by omega]
        exact isL_cutS hrs hr (by omega) ho
    simp
    rw [rngR2_ok (by omega) (by omega) (by omega) (by omega)]
    simp
    refine post_rng (fun i ρ => ∃ (o5 : Option D), ρ = [some (tI r), some (.dict kvs), some (.list (os.map encO)), some (.int (k : Int)), some .none, o5] ∧ ∀ L, 1 ≤ L → L ≤ i → ¬ StL rs an r ((k : Int) - L + 1) L) ⟨o5, rfl, by omega⟩ (fun i hi ρ hI => ?_) (fun ρ hI => ?_)
    · obtain ⟨o5, rfl, K3⟩ := hI
      have h28 := c28 n r hp (k : Int) (i + 1) (by omega)
      obtain ⟨b, a, hd, hb⟩ := tabL_at t hr ((k : Int) - ((i + 1 : Nat) : Int) + 1) (L := i + 1) (by omega) (by omega)
      have i0 : index2 (encL b a) (.int 0) = .ok (.bool b) := by unfold encL; rw [idx_t (by omega) (by simp)]; rfl
      rw [show (1 : Int) + (i : Int) * 1 = ((i + 1 : Nat) : Int) by push_cast; omega]
      simp only [List.set_cons_succ, List.set_cons_zero]
      simp [-Int.natCast_add, h28, idx_d (tkey_tI _) hd, i0]
      cases b with
      | true =>
        simp [-Int.natCast_add, LIM, show os.length < 16777216 by omega]
        have ho : IsL (fun L => 1 ≤ L ∧ L ≤ 16 ∧ StL rs an r ((k : Int) - L + 1) L) (some (i + 1)) := ⟨⟨by omega, by omega, hb.mp rfl⟩, fun L hL => by
          by_cases h : i + 1 ≤ L
          · exact h
          · exact absurd hL.2.2 (K3 L hL.1 (by omega))⟩
        obtain ⟨a1, a2⟩ := app _ ho
        exact ⟨os ++ [some (i + 1)], by simp [encO], a1, a2⟩
      | false =>
        simp
        intro L h1 h2
        by_cases h : L ≤ i
        · exact K3 L h1 h
        · have : L = i + 1 := by omega
          subst this
          exact fun z => Bool.false_ne_true (hb.mpr z)
    · obtain ⟨o5, rfl, K3⟩ := hI
      simp [LIM, show os.length < 16777216 by omega]
      have ho : IsL (fun L => 1 ≤ L ∧ L ≤ 16 ∧ StL rs an r ((k : Int) - L + 1) L) none := fun L hL => K3 L hL.1 (by omega) hL.2.2
      obtain ⟨a1, a2⟩ := app _ ho
      exact ⟨os ++ [none], by simp [encO], a1, a2⟩
  · obtain ⟨os, o3, o4, o5, rfl, K1, K2⟩ := hI
    simp
    exact ⟨os, rfl, K1, K2⟩
theorem dueS_of {rs : List (List Int)} {an : List Int → Int} {r : List Int} (hp : 0 < r.length) {fs : List (Option Nat)} (h : DueA rs an r fs) {o : Option Nat} (ho : IsL (fun L => some L ∈ fs) o) : DueS rs an r o := by
  refine (isL_union h.1 h.2 ho).congr fun L => ?_
  constructor
  · rintro ⟨k, _, a, b, c⟩
    exact ⟨a, b, _, c⟩
  · rintro ⟨a, b, s, c⟩
    have e0 := Int.emod_nonneg (s + L - 1) (b := (r.length : Int)) (by omega)
    have e1 := Int.emod_lt_of_pos (s + L - 1) (b := (r.length : Int)) (by omega)
    refine ⟨((s + L - 1) % (r.length : Int)).toNat, by omega, a, b, ?_⟩
    unfold StL at c ⊢
    rw [Int.toNat_of_nonneg e0, show ∀ a b : Int, a - b + 1 = a + (1 - b) by intros; omega, seg_shift hp]
    rw [show s + (L : Int) - 1 + (1 - L) = s by omega]
    exact c
theorem c42 (n : Nat) {rs : List (List Int)} {an : List Int → Int} (hrs : ∀ r ∈ rs, Rg r) (hm : rs.length ≤ 2000) {m : Nat} {kvs : List (D × D)} (t : TabL (OcR rs an 16) m kvs) (b : Bool) :
    Gv (callN G XT 0 T (n + 3) 42 [tR rs, .dict kvs, tw b]) fun d => ∃ os : List (Option Nat), d = .list (os.map encO) ∧ os.length = rs.length ∧ ∀ (i : Nat) r o, rs[i]? = some r → os[i]? = some o → Due rs an b r o := by
  refine call_gv (fd := fd42) rfl rfl ?_
  simp [fd42]
  refine post_for (e := tI) (fun k ρ => ∃ (os : List (Option Nat)) (o4 o5 o6 o7 : Option D), ρ = [some (tR rs), some (.dict kvs), some (tw b), some (.list (os.map encO)), o4, o5, o6, o7] ∧ os.length = k ∧ ∀ (i : Nat) r o, rs[i]? = some r → os[i]? = some o → Due rs an b r o) ⟨[], none, none, none, none, by simp, rfl, fun h o z _ w => by simp at w⟩ (fun k r hk ρ hI => ?_) (fun ρ hI => ?_)
  · obtain ⟨os, o4, o5, o6, o7, rfl, K1, K2⟩ := hI
    have hr : r ∈ rs := List.mem_of_getElem? hk
    have hkl : k < rs.length := (List.getElem?_eq_some_iff.mp hk).1
    have hp := (hrs r hr).1
    obtain ⟨d, hd, fs, rfl, hf⟩ := c41 n hrs hr t
    have app : ∀ o : Option Nat, Due rs an b r o → ∃ os' : List (Option Nat), os.map encO ++ [encO o] = os'.map encO ∧ os'.length = k + 1 ∧ ∀ (i : Nat) r o, rs[i]? = some r → os'[i]? = some o → Due rs an b r o := by
      intro o ho
      refine ⟨os ++ [o], by simp, by simp [K1], fun h x y hx hy => ?_⟩
      by_cases e : h < os.length
      · rw [List.getElem?_append_left e] at hy
        exact K2 h x y hx hy
      · rw [List.getElem?_append_right (by omega)] at hy
        have : h - os.length = 0 := by
          have := (List.getElem?_eq_some_iff.mp hy).1
          simp at this; omega
        rw [this] at hy
        simp at hy
        subst hy
        rw [show h = k by omega, hk] at hx
        cases hx
        exact ho
    have hin := cm_in_l (a := .none) fit_none (fitAll_encO fs)
    rw [none_in] at hin
    have hlim : os.length < 16777216 := by omega
    have hfne : fs ≠ [] := fun z => by
      have := hf.1
      rw [z] at this
      simp at this
      omega
    simp only [evss_cons, evss_nil, ev_set, ev_call, evs_cons, evs_nil, ev_v, slot_succ, slot_zero, rb_ok, List.set_cons_succ, List.set_cons_zero, List.nil_append, List.append_nil, List.cons_append, hd, out_ok, clear_nil, thn_nx]
    simp only [ev_compIf, ev_v, slot_succ, slot_zero, rb_ok, items_list, List.set_cons_succ, List.set_cons_zero]
    rw [filterMapR_map (p := fun o => o.isSome) (g := id) (e' := encO) (fun o _ => by simp [isNone_encO]) (fun o _ _ => by simp), List.map_id, ← known_of]
    cases hk : fs.filterMap id with
    | nil =>
      have hnn : ∀ o ∈ fs, o = none := fun o ho => by
        cases o with
        | none => rfl
        | some L =>
          have : L ∈ fs.filterMap id := List.mem_filterMap.mpr ⟨some L, ho, rfl⟩
          rw [hk] at this
          exact nomatch this
      have hnone : none ∈ fs := by
        cases fs with
        | nil => exact absurd rfl hfne
        | cons o fs => have := hnn o (List.mem_cons_self ..); subst this; exact List.mem_cons_self ..
      simp only [List.map_nil, rb_ok, out_ok, clear_nil, thn_nx, List.set_cons_succ, List.set_cons_zero, ev_sif, ev_or, evor_cons, ev_cmp, ev_f1, ev_v, slot_succ, slot_zero, c1_len_l, List.length_nil, ev_int]
      simp [LIM, hlim]
      refine app none ?_
      unfold Due
      cases b with
      | true => simp; exact ⟨fs, hf, by simp [allO, hnone]⟩
      | false =>
        simp
        exact dueS_of hp hf (o := none) fun L hL => by
          have := hnn _ hL
          exact nomatch this
    | cons x xs =>
      have hmx := max_nats x xs
      have hmn := min_nats x xs
      simp only [List.map_cons] at hmx hmn
      simp only [List.map_cons, rb_ok, out_ok, clear_nil, thn_nx, List.set_cons_succ, List.set_cons_zero, ev_sif, ev_or, evor_cons, ev_cmp, ev_f1, ev_v, slot_succ, slot_zero, c1_len_l, List.length_cons, ev_int]
      have hne0 : ¬ (((xs.length + 1 : Nat) : Int) = 0) := by omega
      simp [-Int.natCast_add, hne0]
      cases b with
      | true =>
        simp [tw, hin]
        by_cases hn : none ∈ fs
        · simp [hn, LIM, hlim]
          refine app none ?_
          unfold Due
          simp; exact ⟨fs, hf, by simp [allO, hn]⟩
        · simp [hn, LIM, hlim, hmx]
          refine app (some (xs.foldl max x)) ?_
          unfold Due
          simp; exact ⟨fs, hf, by simp [allO, hn, hk]⟩
      | false =>
        simp [tw, LIM, hlim, hmn]
        refine app (some (xs.foldl min x)) ?_
        unfold Due
        simp
        have mem : ∀ L, some L ∈ fs ↔ L ∈ x :: xs := fun L => by rw [← hk]; simp
        obtain ⟨h1, h2⟩ := foldl_min_le xs x
        exact dueS_of hp hf (o := some _) ⟨(mem _).mpr h1, fun L hL => h2 L ((mem L).mp hL)⟩
  · obtain ⟨os, o4, o5, o6, o7, rfl, K1, K2⟩ := hI
    simp
    exact ⟨os, rfl, K1, K2⟩
end PV.F77
end
section
set_option Elab.async false
set_option linter.all false
set_option maxRecDepth 100000
/-! M10: k77: rounds, one list holds. -/
namespace PV.F77
open PySem PV PV.M
theorem dues_eq {rs : List (List Int)} {an : List Int → Int} {b : Bool} {os os' : List (Option Nat)} (h : os.length = rs.length) (h' : os'.length = rs.length) (d : ∀ (i : Nat) r o, rs[i]? = some r → os[i]? = some o → Due rs an b r o) (d' : ∀ (i : Nat) r o, rs[i]? = some r → os'[i]? = some o → Due rs an b r o) : os = os' := by
  apply List.ext_getElem?
  intro i
  by_cases hi : i < rs.length
  · have a := getD_of (d := (none : Option Nat)) (show i < os.length by omega)
    have b := getD_of (d := (none : Option Nat)) (show i < os'.length by omega)
    have c := getD_of (d := ([] : List Int)) hi
    rw [a, b, (d i _ _ c a).uniq (d' i _ _ c b)]
  · rw [List.getElem?_eq_none (by omega), List.getElem?_eq_none (by omega)]
/-- what fewest_rounds is over the dues, or the error of the pair -/
theorem c22f (n : Nat) {q : D} {an : List Int → Int} (Q : Ques q an) (rs : List (List Int)) (hrs : ∀ r ∈ rs, Rg r) (hm : rs.length ≤ 2000) (hne : rs ≠ []) (b : Bool) {o : Option (List Int × List Int)} (ho : PairI rs.length rs (BadS rs an) o) {os : List (Option Nat)} (h : os.length = rs.length) (d : ∀ (i : Nat) r o, rs[i]? = some r → os[i]? = some o → Due rs an b r o) :
    match o with
    | none => callN G XT 0 T (n + 12) 22 [tR rs, q, tw b] = .ok (encO (allO os)) ∧ none ∉ os
    | some (x, y) => callN G XT 0 T (n + 12) 22 [tR rs, q, tw b] = .ex (notClear x y) := by
  obtain ⟨o', ho', h2⟩ := c22 n Q rs hrs hm hne b
  cases ho.uniq ho'
  cases o with
  | none =>
    obtain ⟨os', e1, e2, e3, e4⟩ := h2
    cases dues_eq h e2 d e4
    exact ⟨e1, e3⟩
  | some p => exact h2
theorem idxO {os : List (Option Nat)} {i : Nat} (h : i < os.length) : index2 (.list (os.map encO)) (.int (i : Int)) = .ok (encO (os.getD i none)) := by
  rw [idx_l (by omega) (by simp; omega)]
  simp [h]
theorem eqv_pair (x y : List Int) : PyData.eqv (.tuple [tI x, tI y]) (.tuple [tI x, tI y]) = true := by
  have := eqv_tI x x
  have := eqv_tI y y
  simp only [PyData.eqv, PyData.eqvAll] at *
  simp_all
theorem fit_pair (x y : List Int) : fit (.tuple [tI x, tI y]) = true := by
  simp [fit, PyData.plain, PyData.plainAll, PyData.depth, PyData.depthAll, plain_ints]
theorem plain_tI (x : List Int) : (tI x).plain = true := by simp [PyData.plain, plain_ints]
theorem ev_fld {G : Gls} {C : Nat → List D → R D} {ρ : Env} {k : Nat} {f : Str} {kvs : List (D × D)} {v : D} (hx : G.x = some (.dict kvs)) (h : dget kvs (.str f) = some v) : evE G C (.fld k f) ρ = .ok v := by
  show (match G.x with | some (.dict kvs) => (match dget kvs (.str f) with | some v => R.ok v | none => .bad) | _ => .bad) = _
  rw [hx]
  simp only [h]
theorem c45 (n : Nat) {q : D} {an : List Int → Int} (Q : Ques q an) (rs : List (List Int)) (hrs : ∀ r ∈ rs, Rg r) (hm : rs.length ≤ 2000) (hne : rs ≠ []) (b : Bool) {o : Option (List Int × List Int)} (ho : PairI rs.length rs (BadS rs an) o) {os : List (Option Nat)} (h : os.length = rs.length) (d : ∀ (i : Nat) r o, rs[i]? = some r → os[i]? = some o → Due rs an b r o) :
    callN G XT 0 T (n + 13) 45 [tR rs, q, tw b, encP o, .list (os.map encO)] = .ok (.bool true) := by
  have hf := c22f n Q rs hrs hm hne b ho h d
  have hos : os ≠ [] := fun z => hne (by
    rw [z] at h; exact List.length_eq_zero_iff.mp h.symm)
  cases o with
  | none =>
    obtain ⟨f1, f2⟩ := hf
    have h44 := c44 (n + 10) (allO os)
    refine call_ok (fd := fd45) rfl rfl ?_
    have tr : ∀ (body : Ss) (c i : Nat) (su : Su) (ρ ρ' : Env), evSs G XT 0 (callN G XT 0 T (n + 12)) body ρ = .nx ρ' → evS G XT 0 (callN G XT 0 T (n + 12)) (.try_ body c i su) ρ = .nx ρ' := fun body c i su ρ ρ' e => by
      rw [evS, e]
    simp only [fd45, evss_cons, List.map_cons, List.map_nil]
    rw [tr _ _ _ _ _ [some (tR rs), some q, some (tw b), some .none, some (.list (os.map encO)), none, some (encO (allO os))] (by simp [f1, encP])]
    simp [max_known f2 hos, h44]
  | some p =>
    obtain ⟨x, y⟩ := p
    refine call_ok (fd := fd45) rfl rfl ?_
    have tr : ∀ (body : Ss) (i : Nat) (su : Su) (ρ ρ' : Env), evSs G XT 0 (callN G XT 0 T (n + 12)) body ρ = .ex (notClear x y) ρ' → evS G XT 0 (callN G XT 0 T (n + 12)) (.try_ body 2 i su) ρ = evSu { G with x := some (notClear x y) } (callN G XT 0 T (n + 12)) su (ρ'.set i none) := fun body i su ρ ρ' e => by
      rw [evS, e]
      simp only
      have e1 : clsX (notClear x y) = "NotClear" := rfl
      have e2 : G.id "NotClear" = some 2 := by decide +kernel
      rw [e1, e2]
      have e3 : XT 2 = some ⟨"NotClear", ["one", "two"], true⟩ := rfl
      have e4 : G.sub "NotClear" 2 = true := by decide +kernel
      simp only [e3, if_true, e4]
    simp only [fd45, evss_cons, List.map_cons, List.map_nil]
    rw [tr _ _ _ _ [some (tR rs), some q, some (tw b), some (encP (some (x, y))), some (.list (os.map encO)), none, none] (by simp [hf])]
    have i : ∀ (C : Nat → List D → R D) (c : Nat) (s : Str) (ρ : Env), evE { G with x := some (notClear x y) } C (.isaC c s) ρ = .ok (.bool (G.sub "NotClear" c)) := fun C c s ρ => rfl
    have s0 : G.sub "NotClear" 0 = true := by decide +kernel
    have s1 : G.sub "NotClear" 1 = false := by decide +kernel
    have s3 : G.sub "NotClear" 3 = false := by decide +kernel
    have s4 : G.sub "NotClear" 4 = false := by decide +kernel
    have s5 : G.sub "NotClear" 5 = true := by decide +kernel
    have g1 : dget [((PyData.none : D), (PyData.str "NotClear" : D)), (.str "one", tI x), (.str "two", tI y)] (.str "one") = some (tI x) := by
      simp [dget, PyData.eqv]
    have g2 : dget [((PyData.none : D), (PyData.str "NotClear" : D)), (.str "one", tI x), (.str "two", tI y)] (.str "two") = some (tI y) := by
      simp [dget, PyData.eqv]
    have f1 : ∀ (C : Nat → List D → R D) (k : Nat) (ρ : Env), evE { G with x := some (notClear x y) } C (.fld k "one") ρ = .ok (tI x) := fun C k ρ => by
      exact ev_fld rfl g1
    have f2 : ∀ (C : Nat → List D → R D) (k : Nat) (ρ : Env), evE { G with x := some (notClear x y) } C (.fld k "two") ρ = .ok (tI y) := fun C k ρ => by
      exact ev_fld rfl g2
    simp [evSu, i, s0, s1, s3, s4, s5, f1, f2, encP, plain_tI, isTy, fit_pair, eqv_pair, cm_eq (fit_pair x y) (fit_pair x y)]
theorem tw_some : tw false = .str "some" := rfl
theorem c46 (n : Nat) {q : D} {an : List Int → Int} (Q : Ques q an) (rs : List (List Int)) (hrs : ∀ r ∈ rs, Rg r) (hm : rs.length ≤ 2000) (hne : rs ≠ []) (ps : List Int) :
    callN G XT 0 T (n + 14) 46 [tR rs, q, .list (ps.map .int)] = .ok (.bool true) := by
  have hpos : (0 : Int) < rs.length := by
    cases rs with
    | nil => exact absurd rfl hne
    | cons x xs => simp
  obtain ⟨d, hk, kvs, rfl, t⟩ := c40 (n + 2) Q rs hrs hm 16 (by omega)
  obtain ⟨d, hp, o, rfl, ho⟩ := c43 (n + 2) Q rs hrs hm
  have dues : ∀ b, ∃ os : List (Option Nat), callN G XT 0 T (n + 13) 42 [tR rs, .dict kvs, tw b] = .ok (.list (os.map encO)) ∧ os.length = rs.length ∧ ∀ (i : Nat) r o, rs[i]? = some r → os[i]? = some o → Due rs an b r o := fun b => by
    obtain ⟨d, hd, os, rfl, h⟩ := c42 (n + 10) hrs hm t b
    exact ⟨os, hd, h⟩
  simp at hk hp
  refine call_ok (fd := fd46) rfl rfl ?_
  simp [fd46, hk, hp]
  rw [show [PyData.str "some", PyData.str "all"] = [false, true].map tw from rfl]
  refine post_for (e := tw) (fun k ρ => ∃ o5 o6 o7 o8, ρ = [some (tR rs), some q, some (.list (ps.map .int)), some (.dict kvs), some (encP o), o5, o6, o7, o8]) ⟨none, none, none, none, rfl⟩ (fun k b hb ρ hI => ?_) (fun ρ hI => ?_)
  · obtain ⟨o5, o6, o7, o8, rfl⟩ := hI
    obtain ⟨os, h1, h2, h3⟩ := dues b
    simp [h1]
    refine post_for (e := PyData.int) (fun j ρ => ∃ o7 o8, ρ = [some (tR rs), some q, some (.list (ps.map .int)), some (.dict kvs), some (encP o), some (tw b), some (.list (os.map encO)), o7, o8]) ⟨o7, o8, rfl⟩ (fun j p hj ρ hI => ?_) (fun ρ hI => ?_)
    · obtain ⟨o7, o8, rfl⟩ := hI
      have e0 := Int.emod_nonneg p (b := (rs.length : Int)) (by omega)
      have e1 := Int.emod_lt_of_pos p hpos
      obtain ⟨a, ha⟩ : ∃ a : Nat, p % (rs.length : Int) = a := ⟨(p % (rs.length : Int)).toNat, by omega⟩
      have hal : a < rs.length := by omega
      have hr := getD_of (d := ([] : List Int)) hal
      have hmem := List.mem_of_getElem? hr
      have hdue : ∀ (b : Bool) (os : List (Option Nat)), os.length = rs.length → (∀ (i : Nat) r o, rs[i]? = some r → os[i]? = some o → Due rs an b r o) → callN G XT 0 T (n + 13) 21 [tI (rs.getD a []), tR rs, q, tw b] = .ok (encO (os.getD a none)) := fun b os h2 h3 => by
        obtain ⟨o', g1, g2⟩ := c21 (n + 1) Q rs hrs hm hmem b
        rw [g1, g2.uniq (h3 a _ _ hr (getD_of (by omega)))]
      have hda := hdue b os h2 h3
      have h44 := c44 (n + 11) (os.getD a none)
      simp [b_mod hpos, ha, idx_tIs hal, idxO (show a < os.length by omega), -List.getD_eq_getElem?_getD, hda, h44]
      cases b with
      | true => simp [tw]
      | false =>
        rw [tw_some] at hda
        simp [tw, -List.getD_eq_getElem?_getD, hda, h44, idx_tIs hal, idxO (show a < os.length by omega)]
    · obtain ⟨o7, o8, rfl⟩ := hI
      simp [c45 n Q rs hrs hm hne b ho h2 h3]
  · obtain ⟨o5, o6, o7, o8, rfl⟩ := hI
    cases o with
    | some p => obtain ⟨x, y⟩ := p; simp [encP]
    | none =>
      obtain ⟨os, h1, h2, h3⟩ := dues false
      have hf := c22f (n + 1) Q rs hrs hm hne false ho h2 h3
      obtain ⟨f1, f2⟩ := hf
      have hos : os ≠ [] := fun z => hne (by
        rw [z] at h2; exact List.length_eq_zero_iff.mp h2.symm)
      rw [tw_some] at f1 h1
      have h44 := c44 (n + 11) (allO os)
      simp [encP, f1, h1, max_known f2 hos, h44]
end PV.F77
end
section
set_option Elab.async false
set_option linter.all false
set_option maxRecDepth 100000
/-! M11: questions, as the program and as the law answer them. -/
namespace PV.F77
open PySem PV PV.M
@[simp] theorem ix0 (x : D) (xs : List D) : index2 (.tuple (x :: xs)) (.int 0) = .ok x := by
  rw [idx_t (by omega) (by simp)]; rfl
@[simp] theorem ix1 (x y : D) (xs : List D) : index2 (.tuple (x :: y :: xs)) (.int 1) = .ok y := by
  rw [idx_t (by omega) (by simp; omega)]; rfl
@[simp] theorem ix2 (x y z : D) (xs : List D) : index2 (.tuple (x :: y :: z :: xs)) (.int 2) = .ok z := by
  rw [idx_t (by omega) (by simp; omega)]; rfl
@[simp] theorem ix3 (x y z w : D) (xs : List D) : index2 (.tuple (x :: y :: z :: w :: xs)) (.int 3) = .ok w := by
  rw [idx_t (by omega) (by simp; omega)]; rfl
inductive Pt where
  | number (i : Int) | me | next | ahead
inductive Ts where
  | odd (p : Pt) | below (p q : Pt) | alike (p q : Pt)
inductive Wo where
  | greatest | least | houses | kinds | total
inductive Op where
  | plus | minus | times | rest | less | same
inductive Qn where
  | number (i : Int) | wo (w : Wo) | count (t : Ts) | bin (o : Op) (a b : Qn) | choose (a b c : Qn)
def Pt.enc : Pt → D
  | number i => .tuple [.str "number", .int i]
  | me => .tuple [.str "me"]
  | next => .tuple [.str "next"]
  | ahead => .tuple [.str "ahead"]
def Ts.enc : Ts → D
  | odd p => .tuple [.str "odd", p.enc]
  | below p q => .tuple [.str "below", p.enc, q.enc]
  | alike p q => .tuple [.str "alike", p.enc, q.enc]
def Wo.str : Wo → D
  | greatest => .str "greatest"
  | least => .str "least"
  | houses => .str "houses"
  | kinds => .str "kinds"
  | total => .str "total"
def Op.str : Op → D
  | plus => .str "plus"
  | minus => .str "minus"
  | times => .str "times"
  | rest => .str "rest"
  | less => .str "less"
  | same => .str "same"
def Qn.enc : Qn → D
  | number i => .tuple [.str "number", .int i]
  | wo w => .tuple [w.str]
  | count t => .tuple [.str "count", t.enc]
  | bin o a b => .tuple [o.str, a.enc, b.enc]
  | choose a b c => .tuple [.str "choose", a.enc, b.enc, c.enc]
def Qn.dp : Qn → Nat
  | number _ => 0
  | wo _ => 0
  | count _ => 0
  | bin _ a b => max a.dp b.dp + 1
  | choose a b c => max a.dp (max b.dp c.dp) + 1
def Pt.val (r : List Int) (h : Nat) : Pt → Int
  | number i => i
  | me => wd r h
  | next => wd r ((h : Int) + 1)
  | ahead => wd r ((h : Int) - 1)
def Ts.val (r : List Int) (h : Nat) : Ts → Bool
  | odd p => decide (p.val r h % 2 = 1)
  | below p q => decide (p.val r h < q.val r h)
  | alike p q => decide (p.val r h = q.val r h)
def maxI : List Int → Int
  | [] => 0
  | x :: xs => xs.foldl max x
def minI : List Int → Int
  | [] => 0
  | x :: xs => xs.foldl min x
def Wo.val (r : List Int) : Wo → Int
  | greatest => maxI r
  | least => minI r
  | houses => r.length
  | kinds => distinct r
  | total => r.sum
def lim (i : Int) : Int := if (if i < 999999 then i else 999999) > -999999 then (if i < 999999 then i else 999999) else -999999
def Op.val : Op → Int → Int → Int
  | plus, i, j => lim (i + j)
  | minus, i, j => lim (i - j)
  | times, i, j => lim (i * j)
  | rest, i, j => if 0 < j then i % j else 0
  | less, i, j => if i < j then 1 else 0
  | same, i, j => if i = j then 1 else 0
def Qn.val (r : List Int) : Qn → Int
  | number i => i
  | wo w => w.val r
  | count t => ((List.range r.length).filter fun h => t.val r h).length
  | bin o a b => o.val (a.val r) (b.val r)
  | choose a b c => if a.val r = 0 then c.val r else b.val r
/-- the products are never of two great numbers -/
def Qn.fair : Qn → Prop
  | bin .times a b => a.fair ∧ b.fair ∧ ∀ r, (b.val r).natAbs ≤ 1000000000000000
  | bin _ a b => a.fair ∧ b.fair
  | choose a b c => a.fair ∧ b.fair ∧ c.fair
  | _ => True

theorem limg {G : Gls} {C : Nat → List D → R D} (h : G.g "LIMIT" = some (.int 999999)) : evE G C (.glob "LIMIT") ρ = .ok (.int 999999) := ev_glob h
theorem c5 (n : Nat) (i : Int) : callN G XT 0 T (n + 1) 5 [.int i] = .ok (.int (lim i)) := by
  have hl := limg (G := G) (C := callN G XT 0 T n) (ρ := [some (.int i)]) rfl
  refine call_ok (fd := fd5) rfl rfl ?_
  simp [fd5, hl, lim]
theorem c35 (n : Nat) (i : Int) : callN G XT 0 T (n + 1) 35 [.int i] = .ok (.int (lim i)) := by
  refine call_ok (fd := fd35) rfl rfl ?_
  simp [fd35, lim]
theorem c7 (n : Nat) {r : List Int} {h : Nat} (hh : h < r.length) (p : Pt) : callN G XT 0 T (n + 1) 7 [p.enc, tI r, .int h] = .ok (.int (p.val r h)) := by
  have hr : 0 < r.length := by omega
  have hp : (0 : Int) < r.length := by omega
  refine call_ok (fd := fd7) rfl rfl ?_
  cases p with
  | number i => simp [fd7, Pt.enc, Pt.val]
  | me => simp [fd7, Pt.enc, Pt.val, idx_tI (show (0 : Int) ≤ (h : Int) by omega) (show (h : Int) < r.length by omega)]
  | next => simp [fd7, Pt.enc, Pt.val, b_mod hp, idx_mod hr]
  | ahead => simp [fd7, Pt.enc, Pt.val, b_mod hp, idx_mod hr]
theorem c36 (n : Nat) {r : List Int} {h : Nat} (hh : h < r.length) (p : Pt) : callN G XT 0 T (n + 1) 36 [p.enc, tI r, .int h] = .ok (.int (p.val r h)) := by
  have hr : 0 < r.length := by omega
  have hp : (0 : Int) < r.length := by omega
  refine call_ok (fd := fd36) rfl rfl ?_
  cases p with
  | number i => simp [fd36, Pt.enc, Pt.val]
  | me => simp [fd36, Pt.enc, Pt.val, idx_tI (show (0 : Int) ≤ (h : Int) by omega) (show (h : Int) < r.length by omega)]
  | next => simp [fd36, Pt.enc, Pt.val, b_mod hp, idx_mod hr]
  | ahead => simp [fd36, Pt.enc, Pt.val, b_mod hp, idx_mod hr]
theorem c8 (n : Nat) {r : List Int} {h : Nat} (hh : h < r.length) (t : Ts) : callN G XT 0 T (n + 2) 8 [t.enc, tI r, .int h] = .ok (.bool (t.val r h)) := by
  refine call_ok (fd := fd8) rfl rfl ?_
  cases t with
  | odd p => simp [fd8, Ts.enc, Ts.val, c7 n hh, b_mod]
  | below p q => simp [fd8, Ts.enc, Ts.val, c7 n hh]
  | alike p q => simp [fd8, Ts.enc, Ts.val, c7 n hh]
theorem c37 (n : Nat) {r : List Int} {h : Nat} (hh : h < r.length) (t : Ts) : callN G XT 0 T (n + 2) 37 [t.enc, tI r, .int h] = .ok (.bool (t.val r h)) := by
  refine call_ok (fd := fd37) rfl rfl ?_
  cases t with
  | odd p => simp [fd37, Ts.enc, Ts.val, c36 n hh, b_mod]
  | below p q => simp [fd37, Ts.enc, Ts.val, c36 n hh]
  | alike p q => simp [fd37, Ts.enc, Ts.val, c36 n hh]
theorem max_r {r : List Int} (hr : 0 < r.length) : call1 .max (tI r) = .ok (.int (maxI r)) := by
  cases r with
  | nil => simp at hr
  | cons x xs => exact c1_max_t
theorem min_r {r : List Int} (hr : 0 < r.length) : call1 .min (tI r) = .ok (.int (minI r)) := by
  cases r with
  | nil => simp at hr
  | cons x xs => exact c1_min_t
theorem lenset_r {G : Gls} {C : Nat → List D → R D} {a : E} {r : List Int} (h : evE G C a ρ = .ok (tI r)) (h8 : r.length < 64) : evE G C (.lenset a) ρ = .ok (.int (distinct r)) := by
  show (evE G C a ρ).bind _ = _
  rw [h]
  show (match ints? (r.map PyData.int) with | some ns => if ns.length < 64 then R.ok (PyData.int (distinct ns)) else R.bad | none => R.bad) = _
  rw [ints_map]
  simp only
  rw [if_pos h8]
theorem c9 (n : Nat) {r : List Int} (hr : 0 < r.length) (h8 : r.length ≤ 60) (w : Wo) : callN G XT 0 T (n + 1) 9 [w.str, tI r] = .ok (.int (w.val r)) := by
  have hl := lenset_r (G := G) (C := callN G XT 0 T n) (ρ := [some (.str "kinds"), some (tI r)]) (a := .v 1) (r := r) rfl (by omega)
  refine call_ok (fd := fd9) rfl rfl ?_
  cases w <;> simp [fd9, Wo.str, Wo.val, max_r hr, min_r hr, hl]
theorem c6 (n : Nat) (i j : Int) : callN G XT 0 T (n + 1) 6 [.int i, .int j] = .ok (.int (Op.rest.val i j)) := by
  refine call_ok (fd := fd6) rfl rfl ?_
  by_cases h : 0 < j
  · simp [fd6, h, b_mod h, Op.val]
  · simp [fd6, h, Op.val]
theorem c10 (n : Nat) (o : Op) (i j : Int) (h : o = .times → j.natAbs ≤ 1000000000000000) : callN G XT 0 T (n + 2) 10 [o.str, .int i, .int j] = .ok (.int (o.val i j)) := by
  refine call_ok (fd := fd10) rfl rfl ?_
  cases o with
  | plus => simp [fd10, Op.str, Op.val, c5]
  | minus => simp [fd10, Op.str, Op.val, c5]
  | times => simp [fd10, Op.str, Op.val, c5, b_mul_r (h rfl)]
  | rest => simp [fd10, Op.str, c6]
  | less => by_cases h : i < j <;> simp [fd10, Op.str, Op.val, h]
  | same => by_cases h : i = j <;> simp [fd10, Op.str, Op.val, h]
theorem filt_rng {c : D → R Bool} {f : D → R D} {p : Nat → Bool} {n : Nat} (h : ∀ k : Nat, k < n → c (PyData.int (0 + (k : Int) * 1)) = .ok (p k)) (h' : ∀ d, f d = .ok d) : ∃ ds, filterMapR c f (rngD 0 n 1) = .ok ds ∧ ds.length = ((List.range n).filter p).length := by
  rw [rng_map]
  refine ⟨_, filterMapR_map (p := p) (g := fun (k : Nat) => k) (e := fun (k : Nat) => PyData.int (0 + (k : Int) * 1)) (e' := fun (k : Nat) => PyData.int (0 + (k : Int) * 1)) (fun k hk => h k (List.mem_range.mp hk)) (fun k _ _ => h' _), by simp⟩
theorem Op.str_ne (o : Op) (s : String) : (o.str = .str s) = (o.str = PyData.str s) := rfl
/-- answer_of -/
theorem c11 {r : List Int} (hr : 0 < r.length) (h8 : r.length ≤ 60) : ∀ (q : Qn), q.fair → ∀ n, q.dp + 4 ≤ n → callN G XT 0 T n 11 [q.enc, tI r] = .ok (.int (q.val r))
  | .number i, _, n, hn => by
    obtain ⟨n, rfl⟩ : ∃ m, n = m + 1 := ⟨n - 1, by simp [Qn.dp] at hn; omega⟩
    refine call_ok (fd := fd11) rfl rfl ?_
    simp [fd11, Qn.enc, Qn.val]
  | .wo w, _, n, hn => by
    obtain ⟨n, rfl⟩ : ∃ m, n = m + 2 := ⟨n - 2, by simp [Qn.dp] at hn; omega⟩
    have := c9 n hr h8 w
    refine call_ok (fd := fd11) rfl rfl ?_
    cases w <;> simp [Wo.str] at this <;> simp [fd11, Qn.enc, Qn.val, Wo.str, this]
  | .count t, _, n, hn => by
    obtain ⟨n, rfl⟩ : ∃ m, n = m + 3 := ⟨n - 3, by simp [Qn.dp] at hn; omega⟩
    obtain ⟨ds, h1, h2⟩ := filt_rng (c := fun d => ((evE G (callN G XT 0 T (n + 2)) (.call 8 (.cons (.ix (.v 0) (.int 1)) (.cons (.v 1) (.cons (.v 3) .nil))) .nil []) [some (Qn.count t).enc, some (tI r), some (.str "count"), some d]).bind asBool).noEx) (f := fun d => (evE G (callN G XT 0 T (n + 2)) (.v 3) [some (Qn.count t).enc, some (tI r), some (.str "count"), some d]).noEx) (n := r.length) (p := fun h => t.val r h) (fun k hk => by
      simp [Qn.enc, c8 n hk]) (fun d => by simp)
    refine call_ok (fd := fd11) rfl rfl ?_
    simp [Qn.enc] at h1
    simp [fd11, Qn.enc, Qn.val, rngR_ok (show r.length < 4194304 by omega), h1, h2]
  | .bin o a b, hf, n, hn => by
    obtain ⟨n, rfl⟩ : ∃ m, n = m + 3 := ⟨n - 3, by simp [Qn.dp] at hn; omega⟩
    have fa : a.fair := by cases o <;> exact hf.1
    have fb : b.fair := by
      cases o
      case times => exact hf.2.1
      all_goals exact hf.2
    have ha := c11 hr h8 a fa (n + 2) (by simp [Qn.dp] at hn; omega)
    have hb := c11 hr h8 b fb (n + 2) (by simp [Qn.dp] at hn; omega)
    have hc := c10 n o (a.val r) (b.val r) (fun h => by subst h; exact hf.2.2 r)
    refine call_ok (fd := fd11) rfl rfl ?_
    cases o <;> simp [Op.str] at hc <;> simp [fd11, Qn.enc, Qn.val, Op.str, ha, hb, hc]
  | .choose a b c, hf, n, hn => by
    obtain ⟨n, rfl⟩ : ∃ m, n = m + 3 := ⟨n - 3, by simp [Qn.dp] at hn; omega⟩
    have ha := c11 hr h8 a hf.1 (n + 2) (by simp [Qn.dp] at hn; omega)
    have hb := c11 hr h8 b hf.2.1 (n + 2) (by simp [Qn.dp] at hn; omega)
    have hc := c11 hr h8 c hf.2.2 (n + 2) (by simp [Qn.dp] at hn; omega)
    refine call_ok (fd := fd11) rfl rfl ?_
    by_cases h : a.val r = 0 <;> simp [fd11, Qn.enc, Qn.val, ha, hb, hc, h]
theorem distinct_snoc (x : Int) : ∀ r : List Int, distinct (r ++ [x]) = distinct r + if x ∈ r then 0 else 1
  | [] => by simp [distinct]
  | y :: r => by
    have ih := distinct_snoc x r
    simp only [List.cons_append, distinct, List.mem_append, List.mem_cons, List.not_mem_nil, or_false]
    by_cases h1 : y ∈ r
    · simp only [h1, true_or, if_true, ih]
      by_cases h2 : x = y
      · subst h2; simp [h1]
      · simp [h2]
    · by_cases h2 : y = x
      · subst h2
        simp [h1, ih]
      · by_cases h3 : x ∈ r
        · simp [h1, h2, h3, ih]
        · simp [h1, h2, h3, ih, Ne.symm h2]
theorem filter_snoc (r : List Int) (x : Int) (s : List Int) : ((List.range r.length).filter fun k => decide ((r ++ s).getD k 0 ∉ (r ++ s).take k)).length = ((List.range r.length).filter fun k => decide (r.getD k 0 ∉ r.take k)).length := by
  congr 1
  apply List.filter_congr
  intro k hk
  have hk' := List.mem_range.mp hk
  have a : (r ++ s).getD k 0 = r.getD k 0 := by simp [List.getElem?_append_left hk', hk']
  have b : (r ++ s).take k = r.take k := by rw [List.take_append_of_le_length (by omega)]
  rw [a, b]
theorem kinds_eq (r : List Int) : ((List.range r.length).filter fun k => decide (r.getD k 0 ∉ r.take k)).length = distinct r := by
  suffices h : ∀ s : List Int, ((List.range s.reverse.length).filter fun k => decide (s.reverse.getD k 0 ∉ s.reverse.take k)).length = distinct s.reverse by
    have := h r.reverse
    rwa [List.reverse_reverse] at this
  intro s
  induction s with
  | nil => rfl
  | cons x s ih =>
    rw [List.reverse_cons, distinct_snoc, List.length_append, List.length_singleton, List.range_succ, List.filter_append, List.length_append, filter_snoc _ x, ih]
    congr 1
    by_cases h : x ∈ s.reverse
    · have h' : x ∈ s := by simpa using h
      simp [h']
    · have h' : x ∉ s := by simpa using h
      simp [h']
/-- the law's answer -/
theorem c38 {r : List Int} (hr : 0 < r.length) (h8 : r.length ≤ 60) : ∀ (q : Qn), q.fair → ∀ n, q.dp + 4 ≤ n → callN G XT 0 T n 38 [q.enc, tI r] = .ok (.int (q.val r))
  | .number i, _, n, hn => by
    obtain ⟨n, rfl⟩ : ∃ m, n = m + 1 := ⟨n - 1, by simp [Qn.dp] at hn; omega⟩
    refine call_ok (fd := fd38) rfl rfl ?_
    simp [fd38, Qn.enc, Qn.val]
  | .wo w, _, n, hn => by
    obtain ⟨n, rfl⟩ : ∃ m, n = m + 2 := ⟨n - 2, by simp [Qn.dp] at hn; omega⟩
    obtain ⟨ds, h1, h2⟩ := filt_rng (c := fun d => ((evE G (callN G XT 0 T (n + 1)) (.cmp .nin (.ix (.v 1) (.v 5)) (.slH (.v 1) (.v 5))) [some (Qn.wo .kinds).enc, some (tI r), some (.str "kinds"), none, none, some d, none]).bind asBool).noEx) (f := fun d => (evE G (callN G XT 0 T (n + 1)) (.v 5) [some (Qn.wo .kinds).enc, some (tI r), some (.str "kinds"), none, none, some d, none]).noEx) (n := r.length) (p := fun k => decide (r.getD k 0 ∉ r.take k)) (fun k hk => by
      have e : index2 (tI r) (.int (k : Int)) = .ok (.int (r.getD k 0)) := by
        rw [idx_t (by omega) (by simp; omega)]
        simp [hk]
      have s : slice3 (tI r) (fun _ => 0) (fun n => bound n (k : Int)) = .ok (tI (r.take k)) := by
        rw [sl_t, List.length_map, bound_nat (by omega)]
        simp [cut]
      have m := cm_nin_t (a := .int (r.getD k 0)) (ys := (r.take k).map PyData.int) (fit_int _) (fitAll_ints _)
      rw [any_int] at m
      simp only [ev_cmp, ev_ix, ev_slH, ev_v, slot_succ, slot_zero, rb_ok, Int.zero_add, Int.mul_one, asInt_int, e, s, m, b2_ok, asBool_bool, noEx_okV]
      simp) (fun d => by simp)
    refine call_ok (fd := fd38) rfl rfl ?_
    cases w <;> simp [fd38, Qn.enc, Qn.val, Wo.str, Wo.val, max_r hr, min_r hr]
    simp [Qn.enc, Wo.str] at h1
    rw [rngR_ok (show r.length < 4194304 by omega)]
    simp [h1, h2]
    have := congrArg (fun n : Nat => (n : Int)) (kinds_eq r)
    simpa using this
  | .count t, _, n, hn => by
    obtain ⟨n, rfl⟩ : ∃ m, n = m + 3 := ⟨n - 3, by simp [Qn.dp] at hn; omega⟩
    obtain ⟨ds, h1, h2⟩ := filt_rng (c := fun d => ((evE G (callN G XT 0 T (n + 2)) (.call 37 (.cons (.ix (.v 0) (.int 1)) (.cons (.v 1) (.cons (.v 6) .nil))) .nil []) [some (Qn.count t).enc, some (tI r), some (.str "count"), none, none, none, some d]).bind asBool).noEx) (f := fun d => (evE G (callN G XT 0 T (n + 2)) (.v 6) [some (Qn.count t).enc, some (tI r), some (.str "count"), none, none, none, some d]).noEx) (n := r.length) (p := fun h => t.val r h) (fun k hk => by
      simp [Qn.enc, c37 n hk]) (fun d => by simp)
    refine call_ok (fd := fd38) rfl rfl ?_
    simp [Qn.enc] at h1
    simp [fd38, Qn.enc, Qn.val, rngR_ok (show r.length < 4194304 by omega), h1, h2]
  | .bin o a b, hf, n, hn => by
    obtain ⟨n, rfl⟩ : ∃ m, n = m + 3 := ⟨n - 3, by simp [Qn.dp] at hn; omega⟩
    have fa : a.fair := by cases o <;> exact hf.1
    have fb : b.fair := by
      cases o
      case times => exact hf.2.1
      all_goals exact hf.2
    have ha := c38 hr h8 a fa (n + 2) (by simp [Qn.dp] at hn; omega)
    have hb := c38 hr h8 b fb (n + 2) (by simp [Qn.dp] at hn; omega)
    refine call_ok (fd := fd38) rfl rfl ?_
    cases o with
    | plus => simp [fd38, Qn.enc, Qn.val, Op.str, Op.val, ha, hb, c35]
    | minus => simp [fd38, Qn.enc, Qn.val, Op.str, Op.val, ha, hb, c35]
    | times => simp [fd38, Qn.enc, Qn.val, Op.str, Op.val, ha, hb, c35, b_mul_r (hf.2.2 r)]
    | rest =>
      by_cases h : 0 < b.val r
      · simp [fd38, Qn.enc, Qn.val, Op.str, Op.val, ha, hb, h, b_mod h]
      · simp [fd38, Qn.enc, Qn.val, Op.str, Op.val, ha, hb, h]
    | less => by_cases h : a.val r < b.val r <;> simp [fd38, Qn.enc, Qn.val, Op.str, Op.val, ha, hb, h]
    | same => by_cases h : a.val r = b.val r <;> simp [fd38, Qn.enc, Qn.val, Op.str, Op.val, ha, hb, h]
  | .choose a b c, hf, n, hn => by
    obtain ⟨n, rfl⟩ : ∃ m, n = m + 3 := ⟨n - 3, by simp [Qn.dp] at hn; omega⟩
    have ha := c38 hr h8 a hf.1 (n + 2) (by simp [Qn.dp] at hn; omega)
    have hb := c38 hr h8 b hf.2.1 (n + 2) (by simp [Qn.dp] at hn; omega)
    have hc := c38 hr h8 c hf.2.2 (n + 2) (by simp [Qn.dp] at hn; omega)
    refine call_ok (fd := fd38) rfl rfl ?_
    by_cases h : a.val r = 0 <;> simp [fd38, Qn.enc, Qn.val, ha, hb, hc, h]
theorem ques {q : Qn} (hf : q.fair) (hd : q.dp ≤ 6) : Ques q.enc (fun r => q.val r) :=
  ⟨fun n r R => c11 R.1 (by have := R.2; omega) q hf (n + 10) (by omega), fun n r R => c38 R.1 (by have := R.2; omega) q hf (n + 10) (by omega)⟩
end PV.F77
end
section
set_option Elab.async false
set_option linter.all false
set_option maxRecDepth 100000
/-! M12: k77: cells, digits, lists of rings. -/
namespace PV.F77
open PySem PV PV.M
abbrev tL (r : List Int) : D := .list (r.map PyData.int)
abbrev tLR (rs : List (List Int)) : D := .list (rs.map tI)
theorem c24 (n : Nat) (ns : List Int) (k : Nat) (hk : k ≤ 1000) : Gv (callN G XT 0 T (n + 1) 24 [tL ns, .int k]) fun d => ∃ c : Int, d = .int c := by
  refine call_gv (fd := fd24) rfl rfl ?_
  simp [fd24]
  by_cases h : k < ns.length
  · simp [h, idx_li h]
  · simp [h]
    refine post_for (e := PyData.int) (fun j ρ => ∃ (s : Int) (o : Option D), ρ = [some (tL ns), some (.int k), some (.int s), o]) ⟨17, none, rfl⟩ (fun j x hj ρ hI => ?_) (fun ρ hI => ?_)
    · obtain ⟨s, o, rfl⟩ := hI
      simp [b_mul_r (i := s) (j := 31) (by omega), b_mod]
    · obtain ⟨s, o, rfl⟩ := hI
      simp [b_mul_r (i := s + 7) (j := (k : Int) + 3) (by omega), b_mul_r (i := (s + 7) * ((k : Int) + 3)) (j := 69621) (by omega), b_mod]
/-- digits: one below each size -/
def Dig (sizes row : List Int) : Prop := row.length = sizes.length ∧ ∀ (i : Nat) s x, sizes[i]? = some s → row[i]? = some x → 0 ≤ x ∧ x < s
theorem Dig.at {sizes row : List Int} (h : Dig sizes row) {i : Nat} {s : Int} (hs : sizes[i]? = some s) : ∃ x, row[i]? = some x ∧ index2 (tL row) (.int (i : Int)) = .ok (.int x) ∧ 0 ≤ x ∧ x < s := by
  have hi : i < row.length := by rw [h.1]; exact (List.getElem?_eq_some_iff.mp hs).1
  have hx := getD_of (d := (0 : Int)) hi
  exact ⟨row.getD i 0, hx, idx_li hi, h.2 i s _ hs hx⟩
theorem pow18 : bin2 .pow (.int 10) (.int 18) = .ok (.int 1000000000000000000) := by
  show (if 0 ≤ (18 : Int) ∧ (18 : Int) ≤ 1000 ∧ (10 : Int).natAbs < 2 ^ 64 then R.ok (PyData.int ((10 : Int) ^ (18 : Int).toNat)) else R.bad) = _
  rw [if_pos (by decide)]
  rfl
theorem c25 (n : Nat) (c : Int) (sizes : List Int) (hl : sizes.length ≤ 1000) (hs : ∀ s ∈ sizes, 0 < s ∧ s < 1000000) : Gv (callN G XT 0 T (n + 1) 25 [.int c, tL sizes]) fun d => ∃ row : List Int, d = tL row ∧ Dig sizes row := by
  have snoc : ∀ (row : List Int) (k : Nat) (s x : Int), row.length = k → sizes[k]? = some s → (∀ (i : Nat) s x, sizes[i]? = some s → row[i]? = some x → 0 ≤ x ∧ x < s) → 0 ≤ x → x < s → ∀ (i : Nat) s' x', sizes[i]? = some s' → (row ++ [x])[i]? = some x' → 0 ≤ x' ∧ x' < s' := by
    intro row k s x hk hs' h h0 h1 i s' x' hs2 hx
    by_cases e : i < row.length
    · rw [List.getElem?_append_left e] at hx
      exact h i s' x' hs2 hx
    · rw [List.getElem?_append_right (by omega)] at hx
      have : i - row.length = 0 := by
        have := (List.getElem?_eq_some_iff.mp hx).1
        simp at this; omega
      rw [this] at hx
      simp at hx
      subst hx
      rw [show i = k by omega, hs'] at hs2
      cases hs2
      exact ⟨h0, h1⟩
  refine call_gv (fd := fd25) rfl rfl ?_
  simp [fd25, pow18]
  refine (Classical.em ((1000000000000000000 : Int) ≤ c)).symm.elim (fun h => ?_) (fun h => ?_)
  · simp [h, b_mod, rngR_ok (show sizes.length < 4194304 by omega)]
    refine post_rng (fun k ρ => ∃ (row : List Int) (seed : Int) (o5 o6 o7 : Option D), ρ = [some (.int c), some (tL sizes), some (tL row), some (.int c), some (.int seed), o5, o6, o7] ∧ row.length = k ∧ (∀ (i : Nat) s x, sizes[i]? = some s → row[i]? = some x → 0 ≤ x ∧ x < s) ∧ 0 ≤ seed ∧ seed < 2147483647) ⟨[], c % 2147483629, none, none, none, rfl, rfl, fun i s x _ z => by simp at z, Int.emod_nonneg _ (by omega), by have := Int.emod_lt_of_pos c (show (0 : Int) < 2147483629 by omega); omega⟩ (fun k hk ρ hI => ?_) (fun ρ hI => ?_)
    · obtain ⟨row, seed, o5, o6, o7, rfl, K1, K2, K3, K4⟩ := hI
      have hsz := getD_of (d := (0 : Int)) hk
      have hsp := hs _ (List.mem_of_getElem? hsz)
      have e1 := Int.emod_nonneg (seed * 48271 + 974711 * (k : Int) + 12345) (b := 2147483647) (by omega)
      have e2 := Int.emod_lt_of_pos (seed * 48271 + 974711 * (k : Int) + 12345) (show (0 : Int) < 2147483647 by omega)
      simp [b_mul_r (i := seed) (j := 48271) (by omega), b_mul (mulOk_l (i := 974711) (j := (k : Int)) (by omega)), b_mod, b_fdiv, idx_li hk, LIM, show row.length < 16777216 by omega, -List.getD_eq_getElem?_getD]
      generalize hg : (seed * 48271 + 974711 * (k : Int) + 12345) % 2147483647 = s2 at *
      simp [b_mul (mulOk_l (i := s2) (j := s2 / 65537 + 3) (by omega)), b_mod, b_fdiv, b_mod hsp.1, idx_li hk, LIM, show row.length < 16777216 by omega, -List.getD_eq_getElem?_getD]
      refine ⟨row ++ [s2 * (s2 / 65537 + 3) % 2147483629 / 19 % sizes.getD k 0], ⟨s2, by simp, ?_⟩⟩
      exact ⟨by simp [K1], snoc row k _ _ K1 hsz K2 (Int.emod_nonneg _ (by omega)) (Int.emod_lt_of_pos _ hsp.1), e1, e2⟩
    · obtain ⟨row, seed, o5, o6, o7, rfl, K1, K2, K3, K4⟩ := hI
      simp
      exact ⟨row, rfl, K1, K2⟩
  · simp [h]
    rw [thn_thn]
    refine post_for (e := PyData.int) (fun k ρ => ∃ (row : List Int) (rest : Int) (o4 o5 o6 o7 : Option D), ρ = [some (.int c), some (tL sizes), some (tL row), some (.int rest), o4, o5, o6, o7] ∧ row.length = k ∧ (∀ (i : Nat) s x, sizes[i]? = some s → row[i]? = some x → 0 ≤ x ∧ x < s)) ⟨[], _, none, none, none, none, rfl, rfl, fun i s x _ z => by simp at z⟩ (fun k s hk ρ hI => ?_) (fun ρ hI => ?_)
    · obtain ⟨row, rest, o4, o5, o6, o7, rfl, K1, K2⟩ := hI
      have hsp := hs _ (List.mem_of_getElem? hk)
      have hkl : k < sizes.length := (List.getElem?_eq_some_iff.mp hk).1
      simp [b_mod hsp.1, b_fdiv hsp.1 (show s < 1073741824 by omega), LIM, show row.length < 16777216 by omega]
      exact ⟨row ++ [rest % s], by simp, by simp [K1], snoc row k _ _ K1 hk K2 (Int.emod_nonneg _ (by omega)) (Int.emod_lt_of_pos _ hsp.1)⟩
    · obtain ⟨row, rest, o4, o5, o6, o7, rfl, K1, K2⟩ := hI
      simp
      exact ⟨row, rfl, K1, K2⟩
/-- the law's least turn -/
def lstF (r : List Int) : List Int := (List.range r.length).foldl (fun b h => if r.drop h ++ r.take h < b then r.drop h ++ r.take h else b) r
theorem lst_len (r : List Int) : (lstF r).length = r.length := by
  unfold lstF
  suffices h : ∀ (xs : List Nat) (b : List Int), (∀ x ∈ xs, x ≤ r.length) → b.length = r.length → (xs.foldl (fun b h => if r.drop h ++ r.take h < b then r.drop h ++ r.take h else b) b).length = r.length from
    h _ r (fun x hx => Nat.le_of_lt (List.mem_range.mp hx)) rfl
  intro xs
  induction xs with
  | nil => intro b _ hb; exact hb
  | cons x xs ih =>
    intro b hx hb
    simp only [List.foldl_cons]
    refine ih _ (fun y hy => hx y (List.mem_cons_of_mem _ hy)) ?_
    have := hx x (List.mem_cons_self ..)
    split
    · simp; omega
    · exact hb
theorem c27 (n : Nat) (r : List Int) (h8 : r.length ≤ 64) : callN G XT 0 T (n + 1) 27 [tI r] = .ok (tI (lstF r)) := by
  refine call_ok (fd := fd27) rfl rfl ?_
  simp [fd27, rngR_ok (show r.length < 4194304 by omega)]
  refine post_rng (fun k ρ => ∃ o2 o3, ρ = [some (tI r), some (tI ((List.range k).foldl (fun b h => if r.drop h ++ r.take h < b then r.drop h ++ r.take h else b) r)), o2, o3]) ⟨none, none, rfl⟩ (fun k hk ρ hI => ?_) (fun ρ hI => ?_)
  · obtain ⟨o2, o3, rfl⟩ := hI
    generalize hb : (List.range k).foldl (fun b h => if r.drop h ++ r.take h < b then r.drop h ++ r.take h else b) r = b
    have hadd : bin2 .add (.tuple ((r.drop k).map PyData.int)) (.tuple ((r.take k).map PyData.int)) = .ok (tI (r.drop k ++ r.take k)) := b_add_tI (by simp; omega)
    have s1 : slice3 (tI r) (fun n => bound n (k : Int)) (fun n => n) = .ok (tI (r.drop k)) := by
      rw [sl_t, List.length_map, bound_nat (by omega)]
      simp [cut, List.take_of_length_le]
    have s2 : slice3 (tI r) (fun _ => 0) (fun n => bound n (k : Int)) = .ok (tI (r.take k)) := by
      rw [sl_t, List.length_map, bound_nat (by omega)]
      simp [cut]
    simp only [evss_cons, evss_nil, ev_set, ev_sif, ev_slL, ev_slH, ev_v, ev_bin, ev_cmp, slot_succ, slot_zero, rb_ok, asInt_int, Int.zero_add, Int.mul_one, s1, s2, hadd, out_ok, clear_nil, List.set_cons_succ, List.set_cons_zero, thn_nx, cm_lt (ltOk_tI _ _), lt_tI, b2_ok, asBool_bool]
    rw [List.range_succ, List.foldl_append, hb]
    by_cases h : r.drop k ++ r.take k < b
    · simp [h]
    · simp [h]
  · obtain ⟨o2, o3, rfl⟩ := hI
    simp [lstF]
theorem lenKey_map (rs : List (List Int)) : mapR lenKey (rs.map tI) = .ok (rs.map fun r => .tuple [.int r.length, tI r]) := by
  rw [mapR_map (e' := fun r => PyData.tuple [.int r.length, tI r]) (g := id) (fun r _ => by simp [lenKey]), List.map_id]
def gk (r : List Int) : D := .tuple [.int r.length, tI r]
theorem gk_plain : ∀ rs : List (List Int), PyData.plainAll (rs.map gk) = true
  | [] => rfl
  | r :: rs => by
    have ih := gk_plain rs
    simp only [List.map_cons, PyData.plainAll, ih, Bool.and_true]
    simp [gk, PyData.plain, PyData.plainAll, plain_ints]
theorem gk_depth : ∀ rs : List (List Int), PyData.depthAll (rs.map gk) ≤ 2
  | [] => by simp [PyData.depthAll]
  | r :: rs => by
    have ih := gk_depth rs
    simp only [List.map_cons, PyData.depthAll]
    have : (gk r).depth ≤ 2 := by simp [gk, PyData.depth, PyData.depthAll]
    omega
theorem noLst_ints : ∀ r : List Int, noLstAll (r.map PyData.int) = true
  | [] => rfl
  | x :: r => by simp [noLstAll, noLst, noLst_ints r]
theorem gk_noLst : ∀ rs : List (List Int), noLstAll (rs.map gk) = true
  | [] => rfl
  | r :: rs => by
    have ih := gk_noLst rs
    simp only [List.map_cons, noLstAll, ih, Bool.and_true]
    simp [gk, noLst, noLstAll, noLst_ints]
theorem gk_zip : ∀ rs : List (List Int), (rs.map tI).zip (rs.map gk) = rs.map fun r => (tI r, gk r)
  | [] => rfl
  | r :: rs => by simp [gk_zip rs]
theorem sortk_rs {C : Nat → List D → R D} {f : Str} {a : E} {rs : List (List Int)} (h : evE G C a ρ = .ok (tLR rs)) (hl : rs.length ≤ 16777216) : ∃ ys, evE G C (.sortk f a) ρ = .ok (tLR ys) ∧ ys.Perm rs := by
  have e : evE G C (.sortk f a) ρ = (mapR lenKey (rs.map tI)).bind fun ks => if sortOk ks = true ∧ noLstAll ks = true then .ok (.list ((((rs.map tI).zip ks).mergeSort (PySem.W.dataLe false Prod.snd)).map Prod.fst)) else .bad := by
    show (evE G C a ρ).bind _ = _
    rw [h]
    rfl
  have ok : sortOk (rs.map gk) = true := by
    have a : alikeL (rs.map gk) = true := by simp [alikeL, gk, PySem.W.alike, PySem.W.alikeAll, PySem.W.alike_ints]
    have b : tupsOf (rs.map gk) = true := by simp [tupsOf, gk]
    have c : fitAll (rs.map gk) = true := by
      have := gk_depth rs
      simp [fitAll, gk_plain]; omega
    simp only [sortOk, a, b, c, Bool.true_or, Bool.true_and, List.length_map, decide_eq_true_eq]
    exact hl
  have m := List.map_mergeSort (r := fun a b => PySem.W.dataLe false Prod.snd (tI a, gk a) (tI b, gk b)) (s := PySem.W.dataLe false Prod.snd) (f := fun r => (tI r, gk r)) (l := rs) (fun a _ b _ => rfl)
  refine ⟨rs.mergeSort fun a b => PySem.W.dataLe false Prod.snd (tI a, gk a) (tI b, gk b), ?_, List.mergeSort_perm _ _⟩
  rw [e, lenKey_map]
  show (if sortOk (rs.map gk) = true ∧ noLstAll (rs.map gk) = true then _ else _) = _
  rw [if_pos ⟨ok, gk_noLst rs⟩, show (rs.map fun r => PyData.tuple [.int r.length, tI r]) = rs.map gk from rfl, gk_zip, ← m, List.map_map]
  rfl
theorem c29 (n : Nat) (rs : List (List Int)) (hrs : ∀ r ∈ rs, Rg r) (hm : rs.length ≤ 100000) : Gv (callN G XT 0 T (n + 2) 29 [tLR rs]) fun d => ∃ ys, d = tR ys ∧ ys.length ≤ rs.length ∧ ∀ x, x ∈ ys ↔ ∃ r ∈ rs, x = lstF r := by
  refine call_gv (fd := fd29) rfl rfl ?_
  simp [fd29]
  refine post_for (e := tI) (fun k ρ => ∃ kvs o, ρ = [some (tLR rs), some (.dict kvs), o] ∧ Keys (fun x => ∃ r ∈ rs.take k, x = lstF r) k kvs) ⟨[], none, rfl, Keys.nil.congr (by simp)⟩ (fun k r hk ρ hI => ?_) (fun ρ hI => ?_)
  · obtain ⟨kvs, o, rfl, K⟩ := hI
    have hl := K.len
    have hkl : k < rs.length := (List.getElem?_eq_some_iff.mp hk).1
    have h8 := (hrs r (List.mem_of_getElem? hk)).2
    simp [c27 n r (by omega), LIM, show kvs.length < 16777216 by omega]
    refine (K.put (lstF r) (.bool true)).congr fun x => ?_
    constructor
    · rintro (⟨y, hy, rfl⟩ | rfl)
      · exact ⟨y, (mem_take_succ hk y).mpr (.inl hy), rfl⟩
      · exact ⟨r, (mem_take_succ hk r).mpr (.inr rfl), rfl⟩
    · rintro ⟨y, hy, rfl⟩
      rcases (mem_take_succ hk y).mp hy with hy | rfl
      · exact .inl ⟨y, hy, rfl⟩
      · exact .inr rfl
  · obtain ⟨kvs, o, rfl, K⟩ := hI
    obtain ⟨ks, h1, h2, h3⟩ := K.list
    have hcomp : evE G (callN G XT 0 T (n + 1)) (.compD (.v 2) 2 1) [some (tLR rs), some (.dict kvs), o] = .ok (tLR ks) := by
      simp [h1]
      rw [mapR_map (e' := tI) (g := id) (fun r _ => by simp)]
      simp
    obtain ⟨ys, e1, e2⟩ := sortk_rs (f := "_law_key") hcomp (by omega)
    simp [e1]
    refine ⟨ys, rfl, by rw [e2.length_eq]; exact h2, fun x => ?_⟩
    rw [e2.mem_iff, h3, List.take_length]
end PV.F77
end
section
set_option Elab.async false
set_option linter.all false
set_option maxRecDepth 100000
/-! M13: k77: lots, wheels, near rings. -/
namespace PV.F77
open PySem PV PV.M
theorem c32 (n : Nat) (row : List Int) (hne : row ≠ []) (hl : row.length ≤ 100) : Gv (callN G XT 0 T (n + 1) 32 [tL row]) fun d => ∃ lot : List Int, d = tI lot ∧ lot.length = row.length := by
  have hpos : 0 < row.length := List.length_pos_iff.mpr hne
  refine call_gv (fd := fd32) rfl rfl ?_
  simp [fd32]
  refine post_for (e := PyData.int) (fun k ρ => ∃ (x : Int) (lot : List Int) (o : Option D), ρ = [some (tL row), some (.int x), some (tL lot), o] ∧ lot.length = k) ⟨0, [], none, rfl, rfl⟩ (fun k g hk ρ hI => ?_) (fun ρ hI => ?_)
  · obtain ⟨x, lot, o, rfl, K⟩ := hI
    have hkl : k < row.length := (List.getElem?_eq_some_iff.mp hk).1
    simp [b_mod, LIM, show lot.length < 16777216 by omega]
    exact ⟨x + 1 + g % 8, lot ++ [x + 1 + g % 8], by simp, by simp [K]⟩
  · obtain ⟨x, lot, o, rfl, K⟩ := hI
    have i0 := idx_li (A := row) (i := 0) hpos
    simp only [Int.natCast_zero] at i0
    have il := idx_li (A := lot) (i := lot.length - 1) (by omega)
    rw [show ((lot.length - 1 : Nat) : Int) = (lot.length : Int) - 1 by omega] at il
    simp [i0, b_mod, -List.getD_eq_getElem?_getD]
    by_cases h : row.getD 0 0 % 8 = 7
    · simp [h, -List.getD_eq_getElem?_getD]
      rw [mapR_map (e' := PyData.int) (g := fun y => 999 - lot.getD (lot.length - 1) 0 + y) (fun y hy => by simp [il, -List.getD_eq_getElem?_getD])]
      simp [-List.getD_eq_getElem?_getD]
      exact ⟨lot.map fun y => 999 - lot.getD (lot.length - 1) 0 + y, by simp, by simp [K]⟩
    · simp [h, -List.getD_eq_getElem?_getD]
      exact ⟨lot, rfl, K⟩
theorem sl_to {r : List Int} {k : Nat} (hk : k ≤ r.length) : slice3 (tI r) (fun _ => 0) (fun n => bound n (k : Int)) = .ok (tI (r.take k)) := by
  rw [sl_t, List.length_map, bound_nat hk]
  simp [cut]
theorem sl_from {r : List Int} {k : Nat} (hk : k ≤ r.length) : slice3 (tI r) (fun n => bound n (k : Int)) (fun n => n) = .ok (tI (r.drop k)) := by
  rw [sl_t, List.length_map, bound_nat hk]
  simp [cut, List.take_of_length_le]
theorem add_tI (a b : List Int) (h : a.length + b.length ≤ 1000) : bin2 .add (.tuple (a.map PyData.int)) (.tuple (b.map PyData.int)) = .ok (tI (a ++ b)) := b_add_tI (by omega)
theorem add_one (a : List Int) (x : Int) (h : a.length ≤ 1000) : bin2 .add (.tuple (a.map PyData.int)) (.tuple [.int x]) = .ok (tI (a ++ [x])) := add_tI' a [x] (by simp; omega)
where
  add_tI' (a b : List Int) (h : a.length + b.length ≤ 2000) : bin2 .add (.tuple (a.map PyData.int)) (.tuple (b.map PyData.int)) = .ok (tI (a ++ b)) := b_add_tI (by omega)
theorem c33 (n : Nat) (r : List Int) (hr : Rg r) (kind place name : Int) : Gv (callN G XT 0 T (n + 1) 33 [tI r, .int kind, .int place, .int name]) fun d => ∃ x, d = tI x ∧ Rg x := by
  have hp := hr.1
  have h8 := hr.2
  have hpos : (0 : Int) < r.length := by omega
  have e0 := Int.emod_nonneg place (b := (r.length : Int)) (by omega)
  have e1 := Int.emod_lt_of_pos place hpos
  obtain ⟨a, ha⟩ : ∃ a : Nat, place % (r.length : Int) = a := ⟨(place % (r.length : Int)).toNat, by omega⟩
  have hal : a < r.length := by omega
  have s1 := sl_to (r := r) (k := a) (by omega)
  have s2 := sl_from (r := r) (k := a) (by omega)
  have s3 := sl_from (r := r) (k := a + 1) (by omega)
  rw [show ((a + 1 : Nat) : Int) = (a : Int) + 1 by push_cast; rfl] at s3
  have a1 : bin2 .add (tI (r.take a)) (tI (r.drop (a + 1))) = .ok (tI (r.take a ++ r.drop (a + 1))) := add_tI _ _ (by simp; omega)
  have a2 : bin2 .add (tI (r.take a)) (.tuple [.int name]) = .ok (tI (r.take a ++ [name])) := add_one _ _ (by simp; omega)
  have a3 : bin2 .add (tI (r.take a ++ [name])) (tI (r.drop a)) = .ok (tI (r.take a ++ [name] ++ r.drop a)) := add_tI _ _ (by simp; omega)
  have a4 : bin2 .add (tI (r.take a ++ [name])) (tI (r.drop (a + 1))) = .ok (tI (r.take a ++ [name] ++ r.drop (a + 1))) := add_tI _ _ (by simp; omega)
  have a5 : bin2 .add (tI r) (tI r) = .ok (tI (r ++ r)) := add_tI _ _ (by omega)
  have rc : mapR (fun d => (evE G (callN G XT 0 T n) (.ix (.v 0) (.bin .sub (.bin .sub (.v 4) (.int 1)) (.v 6))) [some (tI r), some (.int kind), some (.int place), some (.int name), some (.int r.length), some (.int a), some d]).noEx) (rngD 0 r.length 1) = .ok (((List.range r.length).map fun (k : Nat) => wd r ((r.length : Int) - 1 - k)).map PyData.int) := mapR_rng fun k hk => by
    simp [idx_tI (show (0 : Int) ≤ (r.length : Int) - 1 - k by omega) (show (r.length : Int) - 1 - k < r.length by omega)]
  simp at rc
  refine call_gv (fd := fd33) rfl rfl ?_
  simp only [fd33, List.map_cons, List.map_nil, List.replicate, List.cons_append, List.nil_append, evss_cons, evss_nil, ev_set, ev_sif, ev_f1, ev_v, slot_succ, slot_zero, rb_ok, c1_len_t, List.length_map, out_ok, clear_nil, List.set_cons_succ, List.set_cons_zero, thn_nx, ev_bin, c1_int, b_mod hpos, ha]
  by_cases k1 : kind = 1
  · subst k1
    by_cases k2 : (1 : Int) < r.length
    · simp [-sl_t, k2, s1, s3, a1]
      refine ⟨r.take a ++ r.drop (a + 1), by simp, ?_, ?_⟩ <;> simp <;> omega
    · simp [-sl_t, k2, s1, s3, a2, a4]
      refine ⟨r.take a ++ [name] ++ r.drop (a + 1), by simp, ?_, ?_⟩ <;> simp <;> omega
  · by_cases k2 : kind = 2
    · subst k2
      by_cases k3 : (r.length : Int) < 8
      · simp [-sl_t, k3, s1, s2, a2, a3]
        refine ⟨r.take a ++ [name] ++ r.drop a, by simp, ?_, ?_⟩ <;> simp <;> omega
      · simp [-sl_t, k3, s1, s3, a2, a4]
        refine ⟨r.take a ++ [name] ++ r.drop (a + 1), by simp, ?_, ?_⟩ <;> simp <;> omega
    · by_cases k3 : kind = 3
      · subst k3
        by_cases k4 : (r.length : Int) ≤ 4
        · simp [-sl_t, k4, show ¬ (4 : Int) < r.length by omega, a5]
          refine ⟨r ++ r, by simp, ?_, ?_⟩ <;> simp <;> omega
        · simp [-sl_t, k4, show (4 : Int) < r.length by omega, s1, s3, a2, a4]
          refine ⟨r.take a ++ [name] ++ r.drop (a + 1), by simp, ?_, ?_⟩ <;> simp <;> omega
      · by_cases k4 : kind = 4
        · subst k4
          simp [-sl_t, rngR_ok (show r.length < 4194304 by omega), rc]
          refine ⟨(List.range r.length).map fun (k : Nat) => wd r ((r.length : Int) - 1 - k), by simp, ?_, ?_⟩ <;> simp <;> omega
        · simp [-sl_t, k1, k2, k3, k4, s1, s3, a2, a4]
          refine ⟨r.take a ++ [name] ++ r.drop (a + 1), by simp, ?_, ?_⟩ <;> simp <;> omega
theorem pow4 {k : Nat} (h : k ≤ 3) : 4 ^ k ≤ 64 ∧ 4 ^ (k + 1) = 4 * 4 ^ k := by
  have : k = 0 ∨ k = 1 ∨ k = 2 ∨ k = 3 := by omega
  rcases this with rfl | rfl | rfl | rfl <;> decide
theorem c31 (n : Nat) (lot : List Int) (l1 : 1 ≤ lot.length) (l4 : lot.length ≤ 4) (size : Nat) (s1 : 1 ≤ size) (s4 : size ≤ 4) : Gv (callN G XT 0 T (n + 1) 31 [tI lot, .int size]) fun d => ∃ rs : List (List Int), d = tLR rs ∧ rs ≠ [] ∧ (∀ r ∈ rs, r.length = size) ∧ rs.length ≤ 256 := by
  refine call_gv (fd := fd31) rfl rfl ?_
  simp [fd31, rngR_ok (show size < 4194304 by omega)]
  refine post_rng (fun k ρ => ∃ (rows : List (List Int)) (o3 o4 o5 o6 : Option D), ρ = [some (tI lot), some (.int size), some (tLR rows), o3, o4, o5, o6] ∧ rows ≠ [] ∧ (∀ r ∈ rows, r.length = k) ∧ rows.length ≤ 4 ^ k) ⟨[[]], none, none, none, none, rfl, by simp, by simp, by simp⟩ (fun k hk ρ hI => ?_) (fun ρ hI => ?_)
  · obtain ⟨rows, o3, o4, o5, o6, rfl, K1, K2, K3⟩ := hI
    obtain ⟨p1, p2⟩ := pow4 (k := k) (by omega)
    simp
    refine post_for (e := tI) (fun i ρ => ∃ (g : List (List Int)) (o5 o6 : Option D), ρ = [some (tI lot), some (.int size), some (tLR rows), some (.int (k : Int)), some (tLR g), o5, o6] ∧ (1 ≤ i → g ≠ []) ∧ (∀ r ∈ g, r.length = k + 1) ∧ g.length ≤ 4 * i) ⟨[], o5, o6, by simp, by omega, by simp, by simp⟩ (fun i row hi ρ hI => ?_) (fun ρ hI => ?_)
    · obtain ⟨g, o5, o6, rfl, G1, G2, G3⟩ := hI
      have hil : i < rows.length := (List.getElem?_eq_some_iff.mp hi).1
      have hrow : row.length = k := K2 row (List.mem_of_getElem? hi)
      simp
      refine post_for (e := PyData.int) (fun j ρ => ∃ (g : List (List Int)) (o6 : Option D), ρ = [some (tI lot), some (.int size), some (tLR rows), some (.int (k : Int)), some (tLR g), some (tI row), o6] ∧ (1 ≤ j → g ≠ []) ∧ (∀ r ∈ g, r.length = k + 1) ∧ g.length ≤ 4 * i + j) ⟨g, o6, rfl, by omega, G2, by omega⟩ (fun j x hj ρ hI => ?_) (fun ρ hI => ?_)
      · obtain ⟨g, o6, rfl, H1, H2, H3⟩ := hI
        have hjl : j < lot.length := (List.getElem?_eq_some_iff.mp hj).1
        simp [add_one row x (by omega), LIM, show g.length < 16777216 by omega]
        refine ⟨g ++ [row ++ [x]], by simp, by simp, ?_, by simp; omega⟩
        intro r hr
        rcases List.mem_append.mp hr with hr | hr
        · exact H2 r hr
        · simp at hr; subst hr; simp [hrow]
      · obtain ⟨g, o6, rfl, H1, H2, H3⟩ := hI
        simp
        exact ⟨g, rfl, H1 l1, H2, by omega⟩
    · obtain ⟨g, o5, o6, rfl, G1, G2, G3⟩ := hI
      simp
      have : 1 ≤ rows.length := List.length_pos_iff.mpr K1
      exact ⟨g, rfl, G1 this, G2, by omega⟩
  · obtain ⟨rows, o3, o4, o5, o6, rfl, K1, K2, K3⟩ := hI
    obtain ⟨p1, p2⟩ := pow4 (k := size - 1) (by omega)
    rw [show size - 1 + 1 = size by omega] at p2
    simp
    exact ⟨rows, rfl, K1, K2, by omega⟩
theorem c30 (n : Nat) (lot : List Int) (l1 : 1 ≤ lot.length) (l4 : lot.length ≤ 4) : Gv (callN G XT 0 T (n + 1) 30 [tI lot]) fun d => ∃ rs : List (List Int), d = tLR rs ∧ rs ≠ [] ∧ (∀ r ∈ rs, Rg r) ∧ rs.length ≤ 1024 := by
  refine call_gv (fd := fd30) rfl rfl ?_
  simp [fd30, rngR_ok (show lot.length < 4194304 by omega)]
  refine post_rng (fun k ρ => ∃ (rows found : List (List Int)) (o3 o4 o5 o6 : Option D), ρ = [some (tI lot), some (tLR rows), some (tLR found), o3, o4, o5, o6] ∧ (k = 0 → rows = [[]]) ∧ (1 ≤ k → found ≠ []) ∧ (∀ r ∈ rows, r.length = k) ∧ rows.length ≤ 4 ^ k ∧ (∀ r ∈ found, Rg r) ∧ found.length ≤ 256 * k) ⟨[[]], [], none, none, none, none, rfl, by simp, by omega, by simp, by simp, by simp, by simp⟩ (fun k hk ρ hI => ?_) (fun ρ hI => ?_)
  · obtain ⟨rows, found, o3, o4, o5, o6, rfl, K0, K1, K2, K3, K4, K5⟩ := hI
    obtain ⟨p1, p2⟩ := pow4 (k := k) (by omega)
    simp
    refine post_for (e := tI) (fun i ρ => ∃ (g : List (List Int)) (o5 o6 : Option D), ρ = [some (tI lot), some (tLR rows), some (tLR found), some (.int (k : Int)), some (tLR g), o5, o6] ∧ (k = 0 → 1 ≤ i → g ≠ []) ∧ (∀ r ∈ g, r.length = k + 1) ∧ g.length ≤ 4 * i) ⟨[], o5, o6, by simp, by omega, by simp, by simp⟩ (fun i row hi ρ hI => ?_) (fun ρ hI => ?_)
    · obtain ⟨g, o5, o6, rfl, G1, G2, G3⟩ := hI
      have hil : i < rows.length := (List.getElem?_eq_some_iff.mp hi).1
      have hrow : row.length = k := K2 row (List.mem_of_getElem? hi)
      simp
      refine post_for (e := PyData.int) (fun j ρ => ∃ (g : List (List Int)) (o6 : Option D), ρ = [some (tI lot), some (tLR rows), some (tLR found), some (.int (k : Int)), some (tLR g), some (tI row), o6] ∧ (k = 0 → 1 ≤ j → g ≠ []) ∧ (∀ r ∈ g, r.length = k + 1) ∧ g.length ≤ 4 * i + j) ⟨g, o6, rfl, by omega, G2, by omega⟩ (fun j x hj ρ hI => ?_) (fun ρ hI => ?_)
      · obtain ⟨g, o6, rfl, H1, H2, H3⟩ := hI
        have hjl : j < lot.length := (List.getElem?_eq_some_iff.mp hj).1
        have hnin := cm_nin_t (a := .int x) (ys := row.map PyData.int) (fit_int _) (fitAll_ints _)
        rw [any_int] at hnin
        simp [hnin]
        by_cases hx : x ∈ row
        · simp [hx]
          refine ⟨g, rfl, fun h0 _ => ?_, H2, by omega⟩
          subst h0
          rw [List.length_eq_zero_iff.mp hrow] at hx
          exact nomatch hx
        · simp [hx, add_one row x (by omega), LIM, show g.length < 16777216 by omega]
          refine ⟨g ++ [row ++ [x]], by simp, by simp, ?_, by simp; omega⟩
          intro r hr
          rcases List.mem_append.mp hr with hr | hr
          · exact H2 r hr
          · simp at hr; subst hr; simp [hrow]
      · obtain ⟨g, o6, rfl, H1, H2, H3⟩ := hI
        simp
        exact ⟨g, rfl, fun h => H1 h l1, H2, by omega⟩
    · obtain ⟨g, o5, o6, rfl, G1, G2, G3⟩ := hI
      have comp : ∀ o3 o4 o6 : Option D, filterMapR (fun d => ((evE G (callN G XT 0 T n) (.cmp .eq (.ix (.v 5) (.int 0)) (.f1 .min (.v 5))) [some (tI lot), some (tLR g), some (tLR found), o3, o4, some d, o6]).bind asBool).noEx) (fun d => (evE G (callN G XT 0 T n) (.v 5) [some (tI lot), some (tLR g), some (tLR found), o3, o4, some d, o6]).noEx) (g.map tI) = .ok ((g.filter fun r => decide (r.getD 0 0 = minI r)).map tI) := by
        intro o3 o4 o6
        rw [filterMapR_map (p := fun r => decide (r.getD 0 0 = minI r)) (g := id) (e' := tI) (fun r hr => by
          have hl := G2 r hr
          have i0 : index2 (tI r) (.int 0) = .ok (.int (r.getD 0 0)) := by
            rw [idx_t (by omega) (by simp; omega)]
            simp [show 0 < r.length by omega]
          simp [i0, min_r (show 0 < r.length by omega), -List.getD_eq_getElem?_getD]) (fun r _ _ => by simp)]
        simp
      simp at comp
      simp [comp]
      rw [b_add_l (by
        have := List.length_filter_le (fun r => decide (r.getD 0 0 = minI r)) g
        simp at this ⊢
        omega), ← List.map_append]
      simp
      have hfl := List.length_filter_le (fun r : List Int => decide (r.getD 0 0 = minI r)) g
      refine ⟨g, found ++ (g.filter fun r => decide (r.getD 0 0 = minI r)), by simp, ?_, ?_, by omega, ?_, by simp at hfl ⊢; omega⟩
      · by_cases h0 : k = 0
        · have hg := G1 h0 (by rw [K0 h0]; simp)
          obtain ⟨x, xs, rfl⟩ := List.exists_cons_of_ne_nil hg
          have hx := G2 x (List.mem_cons_self ..)
          rw [h0] at hx
          obtain ⟨y, rfl⟩ : ∃ y, x = [y] := by
            cases x with
            | nil => simp at hx
            | cons y x => simp at hx; subst hx; exact ⟨y, rfl⟩
          simp [minI]
        · have := K1 (by omega)
          simp [this]
      · intro r hr
        exact G2 r hr
      · intro r hr
        rcases List.mem_append.mp hr with hr | hr
        · exact K4 r hr
        · have := G2 r (List.mem_filter.mp hr).1
          exact ⟨by omega, by omega⟩
  · obtain ⟨rows, found, o3, o4, o5, o6, rfl, K0, K1, K2, K3, K4, K5⟩ := hI
    simp
    exact ⟨found, rfl, K1 l1, K4, by omega⟩
def RL (d : D) : Prop := ∃ ys : List (List Int), d = tR ys ∧ ys ≠ [] ∧ (∀ y ∈ ys, Rg y) ∧ ys.length ≤ 1500
theorem c29r (n : Nat) {rs : List (List Int)} (hne : rs ≠ []) (hrs : ∀ r ∈ rs, Rg r) (hm : rs.length ≤ 1500) : Gv (callN G XT 0 T (n + 2) 29 [tLR rs]) RL := by
  obtain ⟨d, hd, ys, rfl, h1, h2⟩ := c29 n rs hrs (by omega)
  refine ⟨_, hd, ys, rfl, ?_, ?_, by omega⟩
  · obtain ⟨x, xs, rfl⟩ := List.exists_cons_of_ne_nil hne
    intro z
    have := (h2 (lstF x)).mpr ⟨x, List.mem_cons_self .., rfl⟩
    rw [z] at this
    exact nomatch this
  · intro y hy
    obtain ⟨r, hr, rfl⟩ := (h2 y).mp hy
    unfold Rg
    rw [lst_len]
    exact hrs r hr
end PV.F77
end
section
set_option Elab.async false
set_option linter.all false
set_option maxRecDepth 100000
/-! M14: k77: the drawn list, the drawn question. -/
namespace PV.F77
open PySem PV PV.M
theorem Dig.ix {sizes row : List Int} (h : Dig sizes row) (i : Nat) {s : Int} (hs : sizes[i]? = some s) : ∃ x, index2 (tL row) (.int (i : Int)) = .ok (.int x) ∧ row[i]? = some x ∧ 0 ≤ x ∧ x < s := by
  obtain ⟨x, h1, h2, h3, h4⟩ := h.at hs
  exact ⟨x, h2, h1, h3, h4⟩
def sz39 : List Int := [18, 6, 6]
theorem c39 (n : Nat) (row : List Int) (D0 : Dig sz39 row) : Gv (callN G XT 0 T (n + 1) 39 [tL row]) fun d => ∃ q : Qn, d = q.enc ∧ q.fair ∧ q.dp ≤ 6 := by
  obtain ⟨x0, i0, _, l0, u0⟩ := D0.ix 0 (s := 18) rfl
  obtain ⟨x1, i1, _, l1, u1⟩ := D0.ix 1 (s := 6) rfl
  obtain ⟨x2, i2, _, l2, u2⟩ := D0.ix 2 (s := 6) rfl
  simp only [Int.natCast_zero, Int.natCast_one, Int.cast_ofNat_Int] at i0 i1 i2
  refine call_gv (fd := fd39) rfl rfl ?_
  simp only [fd39, List.map_cons, List.map_nil, List.replicate, List.cons_append, List.nil_append, evss_cons, evss_nil, ev_set, ev_f1, ev_v, ev_ix, ev_int, slot_succ, slot_zero, rb_ok, out_ok, clear_nil, List.set_cons_succ, List.set_cons_zero, thn_nx, ev_bin, c1_int, i0, i1, b_mod (show (0 : Int) < 18 by omega), b_mod (show (0 : Int) < 6 by omega), ev_tup, evs_cons, evs_nil, ev_str, b_add_i]
  rw [show x0 % 18 = x0 by omega]
  have hx : x0 = 0 ∨ x0 = 1 ∨ x0 = 2 ∨ x0 = 3 ∨ x0 = 4 ∨ x0 = 5 ∨ x0 = 6 ∨ x0 = 7 ∨ x0 = 8 ∨ x0 = 9 ∨ x0 = 10 ∨ x0 = 11 ∨ x0 = 12 ∨ x0 = 13 ∨ x0 = 14 ∨ x0 = 15 ∨ x0 = 16 ∨ x0 = 17 := by omega
  clear i0
  rcases hx with rfl | rfl | rfl | rfl | rfl | rfl | rfl | rfl | rfl | rfl | rfl | rfl | rfl | rfl | rfl | rfl | rfl | rfl
  · simp; exact ⟨.wo .greatest, rfl, trivial, by simp [Qn.dp]⟩
  · simp; exact ⟨.wo .greatest, rfl, trivial, by simp [Qn.dp]⟩
  · simp; exact ⟨.wo .greatest, rfl, trivial, by simp [Qn.dp]⟩
  · simp; exact ⟨.wo .greatest, rfl, trivial, by simp [Qn.dp]⟩
  · simp; exact ⟨.wo .least, rfl, trivial, by simp [Qn.dp]⟩
  · simp; exact ⟨.wo .houses, rfl, trivial, by simp [Qn.dp]⟩
  · simp; exact ⟨.wo .houses, rfl, trivial, by simp [Qn.dp]⟩
  · simp; exact ⟨.wo .total, rfl, trivial, by simp [Qn.dp]⟩
  · simp; exact ⟨.bin .less (.number (1 + x1 % 6)) (.wo .greatest), rfl, ⟨trivial, trivial⟩, by simp [Qn.dp]⟩
  · simp; exact ⟨.count (.odd .me), rfl, trivial, by simp [Qn.dp]⟩
  · simp; exact ⟨.count (.below .me .next), rfl, trivial, by simp [Qn.dp]⟩
  · simp [i1, b_mod]; exact ⟨.bin .rest (.wo .total) (.number (2 + x1 % 3)), rfl, ⟨trivial, trivial⟩, by simp [Qn.dp]⟩
  · simp; exact ⟨.bin .plus (.bin .times (.wo .greatest) (.number 3)) (.wo .houses), rfl, ⟨⟨trivial, trivial, fun r => by simp [Qn.val]⟩, trivial⟩, by simp [Qn.dp]⟩
  · simp; exact ⟨.wo .kinds, rfl, trivial, by simp [Qn.dp]⟩
  · simp [i2, b_mod]; exact ⟨.choose (.bin .less (.wo .houses) (.number (2 + x2 % 3))) (.wo .least) (.wo .greatest), rfl, ⟨⟨trivial, trivial⟩, trivial, trivial⟩, by simp [Qn.dp]⟩
  · simp; exact ⟨.bin .same (.count (.alike .ahead .next)) (.bin .minus (.wo .houses) (.wo .kinds)), rfl, ⟨trivial, trivial, trivial⟩, by simp [Qn.dp]⟩
  · simp; exact ⟨.bin .minus (.wo .greatest) (.wo .least), rfl, ⟨trivial, trivial⟩, by simp [Qn.dp]⟩
  · simp; exact ⟨.number (1 + x1 % 6), rfl, trivial, by simp [Qn.dp]⟩
end PV.F77
end
section
set_option Elab.async false
set_option linter.all false
set_option maxRecDepth 100000
/-! M15: k77: the drawn list. -/
namespace PV.F77
open PySem PV PV.M
def sz34 : List Int := [12, 8, 8, 8, 8, 7, 3, 3, 3, 3, 3, 3, 3, 3, 5, 8, 4, 5, 8, 4, 5, 8, 4, 5, 8, 4]
theorem hsz {C : Nat → List D → R D} {ρ : Env} : evE G C (.bin .add (.bin .add (.bin .add (.bin .add (.lst (.cons (.int 12) .nil)) (.bin .mul (.lst (.cons (.int 8) .nil)) (.int 4))) (.lst (.cons (.int 7) .nil))) (.bin .mul (.lst (.cons (.int 3) .nil)) (.int 8))) (.bin .mul (.lst (.cons (.int 5) (.cons (.int 8) (.cons (.int 4) .nil)))) (.int 4))) ρ = .ok (tL sz34) := rfl
theorem sl_mid {xs : List D} {a b : Nat} (hb : b ≤ xs.length) (hab : a ≤ b) : slice3 (.list xs) (fun n => bound n (a : Int)) (fun n => bound n (b : Int)) = .ok (.list ((xs.drop a).take (b - a))) := by
  rw [sl_l, bound_nat hb, bound_nat (by omega)]
  rfl
theorem add_lR (a b : List (List Int)) (h : a.length + b.length ≤ 100000) : bin2 .add (tLR a) (tLR b) = .ok (tLR (a ++ b)) := by
  rw [b_add_l (by simp; omega), ← List.map_append]
theorem rep_one (x : Int) (k : Int) (h0 : 0 ≤ k) (h8 : k ≤ 8) : bin2 .mul (.tuple [.int x]) (.int k) = .ok (tI (rep k.toNat [x])) := by
  rw [b_mul_t h0 (by omega) (by simp)]
  have := rep_map PyData.int [x] k.toNat
  simp only [List.map_cons, List.map_nil] at this
  rw [this]
theorem rep_two (x y : Int) (k : Int) (h0 : 0 ≤ k) (h8 : k ≤ 8) : bin2 .mul (.tuple [.int x, .int y]) (.int k) = .ok (tI (rep k.toNat [x, y])) := by
  rw [b_mul_t h0 (by omega) (by simp)]
  have := rep_map PyData.int [x, y] k.toNat
  simp only [List.map_cons, List.map_nil] at this
  rw [this]
theorem c34 (n : Nat) (ns : List Int) (hns : ns.length ≤ 1000) : Gv (callN G XT 0 T (n + 3) 34 [tL ns]) RL := by
  obtain ⟨d, h24, c, rfl⟩ := c24 (n + 1) ns 0 (by omega)
  obtain ⟨d, h25, row, rfl, D0⟩ := c25 (n + 1) c sz34 (by decide) (by decide)
  have hrow : row.length = 26 := D0.1
  obtain ⟨d, h32, lot, rfl, hlot⟩ := c32 (n + 1) ((row.drop 1).take 4) (by intro z; have := congrArg List.length z; simp [hrow] at this) (by simp [hrow])
  have hlot4 : lot.length = 4 := by rw [hlot]; simp [hrow]
  obtain ⟨x0, i0, _, l0, u0⟩ := D0.ix 0 (s := 12) rfl
  obtain ⟨x5, i5, _, l5, u5⟩ := D0.ix 5 (s := 7) rfl
  obtain ⟨x14, i14, _, l14, u14⟩ := D0.ix 14 (s := 5) rfl
  obtain ⟨x15, i15, _, l15, u15⟩ := D0.ix 15 (s := 8) rfl
  obtain ⟨x18, i18, _, l18, u18⟩ := D0.ix 18 (s := 8) rfl
  obtain ⟨x23, i23, _, l23, u23⟩ := D0.ix 23 (s := 5) rfl
  obtain ⟨x24, i24, _, l24, u24⟩ := D0.ix 24 (s := 8) rfl
  obtain ⟨x25, i25, _, l25, u25⟩ := D0.ix 25 (s := 4) rfl
  simp only [Int.natCast_zero, Int.natCast_one, Int.cast_ofNat_Int] at i0 i5 i14 i15 i18 i23 i24 i25 h24
  obtain ⟨y5, rfl⟩ : ∃ y : Nat, x5 = y := ⟨x5.toNat, by omega⟩
  have hsl := sl_mid (xs := row.map PyData.int) (a := 1) (b := 5) (by simp [hrow]) (by omega)
  rw [← List.map_drop, ← List.map_take] at hsl
  simp only [Int.natCast_one, Int.cast_ofNat_Int] at hsl
  have l3 : ∀ k : Nat, 1 ≤ k → k ≤ 4 → (lot.take k).length = k := fun k _ h => by simp [hlot4, h]
  have st : ∀ k : Nat, k ≤ 4 → slice3 (tI lot) (fun _ => 0) (fun n => bound n (k : Int)) = .ok (tI (lot.take k)) := fun k h => sl_to (by omega)
  have st2 := st 2 (by omega)
  have st3 := st 3 (by omega)
  have st4 := st 4 (by omega)
  simp only [Int.cast_ofNat_Int] at st2 st3 st4
  -- any_rings
  have any : ∀ m k : Nat, 1 ≤ m → m ≤ 4 → 1 ≤ k → k ≤ 4 → ∃ rs : List (List Int), callN G XT 0 T (n + 2) 31 [tI (lot.take m), .int (k : Int)] = .ok (tLR rs) ∧ rs ≠ [] ∧ (∀ r ∈ rs, Rg r) ∧ rs.length ≤ 256 := by
    intro m k m1 m4 k1 k4
    obtain ⟨d, h, rs, rfl, a, b, c⟩ := c31 (n + 1) (lot.take m) (by rw [l3 m m1 m4]; omega) (by rw [l3 m m1 m4]; omega) k k1 k4
    exact ⟨rs, h, a, fun r hr => ⟨by rw [b r hr]; omega, by rw [b r hr]; omega⟩, c⟩
  have whe : ∀ m : Nat, 1 ≤ m → m ≤ 4 → Gv ((callN G XT 0 T (n + 2) 30 [tI (lot.take m)]).bind fun d => callN G XT 0 T (n + 2) 29 [d]) RL := by
    intro m m1 m4
    obtain ⟨d, h, rs, rfl, a, b, c⟩ := c30 (n + 1) (lot.take m) (by rw [l3 m m1 m4]; omega) (by rw [l3 m m1 m4]; omega)
    rw [h]
    exact c29r n a b (by omega)
  refine call_gv (fd := fd34) rfl rfl ?_
  simp only [fd34, List.map_cons, List.map_nil, List.replicate, List.cons_append, List.nil_append, List.append_nil, evss_cons, evss_nil, ev_set, ev_f1, ev_v, ev_ix, ev_int, slot_succ, slot_zero, rb_ok, out_ok, clear_nil, List.set_cons_succ, List.set_cons_zero, thn_nx, c1_int, ↓hsz, ev_call, evs_cons, evs_nil, h24, h25, ev_sl, asInt_int, hsl, h32, i0, ev_sif, ev_and, evand_one, evand_cons, ev_cmp, cm_eq (fit_int _) (fit_int _), eqv_int, b2_ok, asBool_bool, i5]
  by_cases k3 : x0 = 3 ∧ (y5 : Int) = 0
  · obtain ⟨e1, e2⟩ := k3
    subst e1
    simp [e2]
    rw [rngR2_ok (by omega) (by omega) (by omega) (by omega)]
    simp
    rw [thn_thn]
    refine post_rng (fun k ρ => ∃ (rs : List (List Int)) (o : Option D), ρ = [some (tL ns), some (tL row), some (.int 3), some (tI lot), none, some (tLR rs), none, o, none, none, none, none, none] ∧ (1 ≤ k → rs ≠ []) ∧ (∀ r ∈ rs, Rg r) ∧ rs.length ≤ 256 * k) ⟨[], none, by simp, by omega, by simp, by simp⟩ (fun k hk ρ hI => ?_) (fun ρ hI => ?_)
    · obtain ⟨rs, o, rfl, K1, K2, K3⟩ := hI
      obtain ⟨as, a1, a2, a3, a4⟩ := any 3 (k + 1) (by omega) (by omega) (by omega) (by omega)
      rw [show ((k + 1 : Nat) : Int) = 1 + (k : Int) by push_cast; omega] at a1
      simp [-sl_t, st3, a1, add_lR rs as (by omega)]
      refine ⟨rs ++ as, by simp, by simp [a2], ?_, by simp; omega⟩
      intro r hr
      rcases List.mem_append.mp hr with hr | hr
      · exact K2 r hr
      · exact a3 r hr
    · obtain ⟨rs, o, rfl, K1, K2, K3⟩ := hI
      obtain ⟨d, hd, R⟩ := c29r n (K1 (by omega)) K2 (by omega)
      simp [hd]
      exact R
  · have k3' : ¬ (x0 = 3 ∧ y5 = 0) := fun z => k3 ⟨z.1, by omega⟩
    by_cases kk : x0 ≤ 3
    · have hx : x0 = 0 ∨ x0 = 1 ∨ x0 = 2 ∨ x0 = 3 := by omega
      obtain ⟨w2, hw2, R2⟩ := whe 2 (by omega) (by omega)
      obtain ⟨w3, hw3, R3⟩ := whe 3 (by omega) (by omega)
      obtain ⟨w4, hw4, R4⟩ := whe 4 (by omega) (by omega)
      have y0 : x0 = 3 → ¬ y5 = 0 := fun a b => k3' ⟨a, b⟩
      have q0 : index2 (.list [.int 2, .int 3, .int 3, .int 4]) (.int 0) = .ok (.int 2) := rfl
      have q1 : index2 (.list [.int 2, .int 3, .int 3, .int 4]) (.int 1) = .ok (.int 3) := rfl
      have q2 : index2 (.list [.int 2, .int 3, .int 3, .int 4]) (.int 2) = .ok (.int 3) := rfl
      have q3 : index2 (.list [.int 2, .int 3, .int 3, .int 4]) (.int 3) = .ok (.int 4) := rfl
      have rw2 : ∀ {α : Type} (r : R α) (f : α → R D), (r.bind fun x => R.ok [x]) = (r.bind fun x => R.ok [x]) := fun _ _ => rfl
      have bb : ∀ (r : R D), ((r.bind fun x => R.ok [x]).bind fun xs => callN G XT 0 T (n + 2) 29 xs) = r.bind fun d => callN G XT 0 T (n + 2) 29 [d] := fun r => by cases r <;> rfl
      rcases hx with rfl | rfl | rfl | rfl
      · simp [-sl_t, q0, st2, bb, hw2]; exact R2
      · simp [-sl_t, q1, st3, bb, hw3]; exact R3
      · simp [-sl_t, q2, st3, bb, hw3]; exact R3
      · simp [-sl_t, y0 rfl, q3, st4, bb, hw4]; exact R4
    · have n3 : ¬ x0 = 3 := by omega
      by_cases k4 : x0 = 4
      · subst k4
        obtain ⟨a, a1, a2, a3, a4⟩ := any 2 1 (by omega) (by omega) (by omega) (by omega)
        obtain ⟨b, b1, b2, b3, b4⟩ := any 2 2 (by omega) (by omega) (by omega) (by omega)
        obtain ⟨c, c1, c2, c3, c4⟩ := any 2 3 (by omega) (by omega) (by omega) (by omega)
        simp only [Int.natCast_one, Int.cast_ofNat_Int] at a1 b1 c1
        obtain ⟨d, hd, RR⟩ := c29r n (rs := a ++ b ++ c) (by simp [a2]) (by
          intro r hr
          rcases List.mem_append.mp hr with hr | hr
          · rcases List.mem_append.mp hr with hr | hr
            · exact a3 r hr
            · exact b3 r hr
          · exact c3 r hr) (by simp; omega)
        have e1 := add_lR a b (by omega)
        have e2 := add_lR (a ++ b) c (by simp; omega)
        simp [-sl_t, -List.map_append, -List.append_assoc, st2, a1, b1, c1, e1, e2, hd]
        exact RR
      · -- the base
        have hbs := sl_mid (xs := row.map PyData.int) (a := 6) (b := 8 + y5) (by simp [hrow]; omega) (by omega)
        rw [← List.map_drop, ← List.map_take, show ((8 + y5 : Nat) : Int) = 8 + (y5 : Int) by push_cast; rfl] at hbs
        simp only [Int.cast_ofNat_Int] at hbs
        rw [show 8 + y5 - 6 = 2 + y5 by omega] at hbs
        generalize hns6 : (row.drop 6).take (2 + y5) = nm at hbs
        have hnm : nm.length = 2 + y5 := by rw [← hns6]; simp [hrow]; omega
        have hnmv : ∀ x ∈ nm, 0 ≤ x ∧ x < 3 := by
          intro x hx
          obtain ⟨i, hi⟩ := List.getElem?_of_mem hx
          have hil : i < 2 + y5 := by rw [← hnm]; exact (List.getElem?_eq_some_iff.mp hi).1
          rw [← hns6, List.getElem?_take_of_lt hil, List.getElem?_drop] at hi
          have hs : sz34[6 + i]? = some 3 := by
            have : i = 0 ∨ i = 1 ∨ i = 2 ∨ i = 3 ∨ i = 4 ∨ i = 5 ∨ i = 6 ∨ i = 7 := by omega
            rcases this with rfl | rfl | rfl | rfl | rfl | rfl | rfl | rfl <;> rfl
          exact D0.2 _ _ _ hs hi
        obtain ⟨base, hbase⟩ : ∃ b : List Int, b = nm.map (wd lot) := ⟨_, rfl⟩
        have hbl : base.length = 2 + y5 := by rw [hbase]; simp [hnm]
        have hcomp : ∀ o1 o2 : Option D, mapR (fun d => (evE G (callN G XT 0 T (n + 2)) (.ix (.v 3) (.v 11)) [some (tL ns), some (tL row), some (.int x0), some (tI lot), none, none, none, none, none, none, none, some d, none]).noEx) (nm.map PyData.int) = .ok (base.map PyData.int) := fun _ _ => by
          rw [hbase]
          exact mapR_map fun x hx => by
            have := hnmv x hx
            simp [idx_tI this.1 (show x < lot.length by omega)]
        have hcomp := hcomp none none
        simp at hcomp
        have Rb : Rg base := ⟨by omega, by omega⟩
        simp [-sl_l, -sl_t, n3, k4, show ¬ x0 ≤ 3 by omega, show 3 < x0 by omega, i5, hbs, hcomp]
        by_cases k6 : x0 ≤ 6
        · have e0 := Int.emod_nonneg (y5 : Int) (b := 3) (by omega)
          have e1 := Int.emod_lt_of_pos (y5 : Int) (show (0 : Int) < 3 by omega)
          obtain ⟨z5, hz5⟩ : ∃ z : Nat, (y5 : Int) % 3 = z := ⟨((y5 : Int) % 3).toNat, by omega⟩
          have hz : z5 ≤ y5 := by omega
          have hst := sl_to (r := base) (k := 2 + z5) (by omega)
          rw [show ((2 + z5 : Nat) : Int) = 2 + (z5 : Int) by push_cast; rfl] at hst
          have hrl : (base.take (2 + z5)).length = 2 + z5 := by simp; omega
          generalize hroot : base.take (2 + z5) = rt at *
          have hp : 0 < rt.length := by omega
          simp [-sl_l, -sl_t, k6, show ¬ 6 < x0 by omega, b_mod, hz5, hst, rngR_ok (show rt.length < 4194304 by omega)]
          rw [thn_thn]
          obtain ⟨z14, hz14⟩ : ∃ z : Nat, 5 + x14 % 4 = z := ⟨(5 + x14 % 4).toNat, by omega⟩
          obtain ⟨z15, hz15⟩ : ∃ z : Nat, 3 + x15 % 6 = z := ⟨(3 + x15 % 6).toNat, by omega⟩
          refine post_rng (fun k ρ => ∃ (rs : List (List Int)) (o : Option D), ρ = [some (tL ns), some (tL row), some (.int x0), some (tI lot), some (tI base), some (tLR rs), none, none, some (tI rt), o, none, none, none] ∧ rs ≠ [] ∧ (∀ r ∈ rs, Rg r) ∧ rs.length ≤ 1 + 2 * k) ⟨[rt], none, by simp, by simp, by intro r hr; simp at hr; subst hr; exact ⟨by omega, by omega⟩, by simp⟩ (fun k hk ρ hI => ?_) (fun ρ hI => ?_)
          · obtain ⟨rs, o, rfl, K1, K2, K3⟩ := hI
            have g1 := c28 (n + 1) rt hp (k : Int) z14 (by omega)
            have g2 := c28 (n + 1) rt hp (k : Int) z15 (by omega)
            simp [i14, i15, b_mod, hz14, hz15, g1, g2, LIM, show rs.length < 16777216 by omega, show rs.length + 1 < 16777216 by omega]
            refine ⟨rs ++ [seg (wd rt) ((k : Int) - z14 + 1) z14] ++ [seg (wd rt) ((k : Int) - z15 + 1) z15], by simp, by simp, ?_, by simp; omega⟩
            intro r hr
            rcases List.mem_append.mp hr with hr | hr
            · rcases List.mem_append.mp hr with hr | hr
              · exact K2 r hr
              · simp at hr; subst hr; exact ⟨by simp; omega, by simp; omega⟩
            · simp at hr; subst hr; exact ⟨by simp; omega, by simp; omega⟩
          · obtain ⟨rs, o, rfl, K1, K2, K3⟩ := hI
            obtain ⟨d, hd, RR⟩ := c29r n K1 K2 (by omega)
            simp [hd]
            exact RR
        · simp [-sl_l, -sl_t, k6, show 6 < x0 by omega]
          have L0 : index2 (tI lot) (.int 0) = .ok (.int (wd lot 0)) := idx_tI (by omega) (by omega)
          have L1 : index2 (tI lot) (.int 1) = .ok (.int (wd lot 1)) := idx_tI (by omega) (by omega)
          have fin3 : ∀ a b c : List Int, Rg a → Rg b → Rg c → Gv (callN G XT 0 T (n + 2) 29 [.list [tI a, tI b, tI c]]) RL := fun a b c ha hb hc => by
            have := c29r n (rs := [a, b, c]) (by simp) (by
              intro r hr
              simp at hr
              rcases hr with rfl | rfl | rfl <;> assumption) (by simp)
            exact this
          by_cases k7 : x0 = 7
          · subst k7
            have pw : ∀ k : Int, 0 ≤ k → k < 8 → bin2 .mul (.tuple [.int (wd lot 0)]) (.int k) = .ok (tI (rep k.toNat [wd lot 0])) ∧ bin2 .add (tI (rep k.toNat [wd lot 0])) (.tuple [.int (wd lot 1)]) = .ok (tI (rep k.toNat [wd lot 0] ++ [wd lot 1])) ∧ Rg (rep k.toNat [wd lot 0] ++ [wd lot 1]) := fun k h0 h8 => ⟨rep_one _ _ h0 (by omega), add_one _ _ (by rw [rep_len]; simp; omega), by simp [rep_len], by simp [rep_len]; omega⟩
            obtain ⟨p1, p2, p3⟩ := pw x15 (by omega) (by omega)
            obtain ⟨p4, p5, p6⟩ := pw ((x15 + 1) % 8) (Int.emod_nonneg _ (by omega)) (Int.emod_lt_of_pos _ (by omega))
            obtain ⟨p7, p8, p9⟩ := pw x18 (by omega) (by omega)
            simp [-sl_l, -sl_t, i14, i15, i18, b_mod, mapR, L0, L1, p1, p2, p4, p5, p7, p8]
            by_cases g14 : (2 : Int) < x14
            · have e0 := Int.emod_nonneg x15 (b := 2) (by omega)
              have e1 := Int.emod_lt_of_pos x15 (show (0 : Int) < 2 by omega)
              obtain ⟨p1, p2, p3⟩ := pw (2 + x15 % 2) (by omega) (by omega)
              have q : ∀ k : Nat, k < 3 → bin2 .mul (.tuple [.int (wd lot 0), .int (wd lot 1)]) (.int k) = .ok (tI (rep k [wd lot 0, wd lot 1])) ∧ bin2 .add (tI (rep (2 + x15 % 2).toNat [wd lot 0] ++ [wd lot 1])) (tI (rep k [wd lot 0, wd lot 1])) = .ok (tI (rep (2 + x15 % 2).toNat [wd lot 0] ++ [wd lot 1] ++ rep k [wd lot 0, wd lot 1])) ∧ Rg (rep (2 + x15 % 2).toNat [wd lot 0] ++ [wd lot 1] ++ rep k [wd lot 0, wd lot 1]) := fun k hk => ⟨by
                have := rep_two (wd lot 0) (wd lot 1) (k : Int) (by omega) (by omega)
                rw [Int.toNat_natCast] at this
                exact this, add_tI _ _ (by simp [rep_len]; omega), by simp [rep_len]; omega, by simp [rep_len]; omega⟩
              obtain ⟨q1, q2, q3⟩ := q 0 (by omega)
              obtain ⟨q4, q5, q6⟩ := q 1 (by omega)
              obtain ⟨q7, q8, q9⟩ := q 2 (by omega)
              obtain ⟨d, hd, RR⟩ := fin3 _ _ _ q3 q6 q9
              simp only [Int.natCast_zero, Int.natCast_one, Int.cast_ofNat_Int] at q1 q4 q7
              have r3 : rngR 3 = .ok (.list [.int 0, .int 1, .int 2]) := rfl
              simp [-sl_l, -sl_t, -List.map_append, -List.append_assoc, -List.map_cons, g14, r3, mapR, L0, L1, i15, b_mod, p1, p2, q1, q2, q4, q5, q7, q8, hd]
              exact RR
            · obtain ⟨d, hd, RR⟩ := fin3 _ _ _ p3 p6 p9
              simp [-sl_l, -sl_t, -List.map_append, -List.append_assoc, g14, hd]
              exact RR
          · simp [-sl_l, -sl_t, k7]
            have near : ∀ k p x : Int, 0 ≤ x → x < 4 → ∀ r : List Int, Rg r → ∃ y, callN G XT 0 T (n + 2) 33 [tI r, .int k, .int p, .int (wd lot x)] = .ok (tI y) ∧ Rg y := fun k p x _ _ r hr => by
              obtain ⟨d, hd, y, rfl, ry⟩ := c33 (n + 1) r hr k p (wd lot x)
              exact ⟨y, hd, ry⟩
            have r3 : rngR 3 = .ok (.list (rngD 0 3 1)) := rfl
            simp [-sl_l, -sl_t, r3]
            refine post_rng (fun k ρ => ∃ (rs : List (List Int)) (o : Option D), ρ = [some (tL ns), some (tL row), some (.int x0), some (tI lot), some (tI base), some (tLR rs), o, none, none, none, none, none, none] ∧ rs.length = k + 1 ∧ (∀ r ∈ rs, Rg r)) ⟨[base], none, by simp, by simp, by simp [Rb]⟩ (fun k hk ρ hI => ?_) (fun ρ hI => ?_)
            · obtain ⟨rs, o, rfl, K1, K2⟩ := hI
              have hk3 : k = 0 ∨ k = 1 ∨ k = 2 := by omega
              obtain ⟨a, j1, _, _, _⟩ := D0.ix (14 + 3 * k) (s := 5) (by rcases hk3 with rfl | rfl | rfl <;> rfl)
              obtain ⟨b, j2, _, _, _⟩ := D0.ix (15 + 3 * k) (s := 8) (by rcases hk3 with rfl | rfl | rfl <;> rfl)
              obtain ⟨c, j3, _, c0, c4⟩ := D0.ix (16 + 3 * k) (s := 4) (by rcases hk3 with rfl | rfl | rfl <;> rfl)
              rw [show ((14 + 3 * k : Nat) : Int) = 14 + 3 * (k : Int) by push_cast; rfl] at j1
              rw [show ((15 + 3 * k : Nat) : Int) = 15 + 3 * (k : Int) by push_cast; rfl] at j2
              rw [show ((16 + 3 * k : Nat) : Int) = 16 + 3 * (k : Int) by push_cast; rfl] at j3
              obtain ⟨y, hy, ry⟩ := near a b c c0 c4 base Rb
              simp [b_mul (mulOk_l (i := 3) (j := (k : Int)) (by omega)), j1, j2, j3, idx_tI c0 (show c < lot.length by omega), hy, LIM, show rs.length < 16777216 by omega]
              refine ⟨rs ++ [y], by simp, by simp [K1], ?_⟩
              intro r hr
              rcases List.mem_append.mp hr with hr | hr
              · exact K2 r hr
              · simp at hr; subst hr; exact ry
            · obtain ⟨rs, o, rfl, K1, K2⟩ := hI
              have hne : rs ≠ [] := fun z => by rw [z] at K1; simp at K1
              by_cases k10 : (10 : Int) ≤ x0
              · have i1 := idx_lI (W := rs) (i := 1) (by omega)
                simp only [Int.natCast_one] at i1
                have hm : rs.getD 1 [] ∈ rs := List.mem_of_getElem? (getD_of (by omega))
                obtain ⟨y, hy, ry⟩ := near x23 x24 x25 l25 u25 _ (K2 _ hm)
                obtain ⟨d, hd, RR⟩ := c29r n (rs := rs ++ [y]) (by simp) (by
                  intro r hr
                  rcases List.mem_append.mp hr with hr | hr
                  · exact K2 r hr
                  · simp at hr; subst hr; exact ry) (by simp; omega)
                simp only [tLR, List.map_append, List.map_cons, List.map_nil] at hd
                simp [-List.getD_eq_getElem?_getD, k10, i1, i23, i24, i25, idx_tI l25 (show x25 < lot.length by omega), hy, LIM, show rs.length < 16777216 by omega, hd]
                exact RR
              · obtain ⟨d, hd, RR⟩ := c29r n hne K2 (by omega)
                simp [k10, hd]
                exact RR
end PV.F77
end
section
set_option Elab.async false
set_option linter.all false
set_option maxRecDepth 100000
/-! M16: k77: the law. -/
namespace PV.F77
open PySem PV PV.M
def tailN : Nat → Ss → Ss
  | 0, s => s
  | n + 1, .cons _ r => tailN n r
  | _, .nil => .nil
theorem find_tI (x : List Int) : ∀ rs : List (List Int), x ∈ rs → ∃ k, findEq (rs.map tI) (tI x) = some k
  | [], h => nomatch h
  | r :: rs, h => by
    simp only [List.map_cons, findEq, eqv_tI, decide_eq_true_eq]
    by_cases e : r = x
    · rw [if_pos e]; exact ⟨0, rfl⟩
    · rw [if_neg e]
      obtain ⟨k, hk⟩ := find_tI x rs (by
        rcases List.mem_cons.mp h with rfl | h
        · exact absurd rfl e
        · exact h)
      rw [hk]
      exact ⟨k + 1, rfl⟩
theorem index_rs {G : Gls} {C : Nat → List D → R D} {ρ : Env} {a b : E} {rs : List (List Int)} {x : List Int} (ha : evE G C a ρ = .ok (tR rs)) (hb : evE G C b ρ = .ok (tI x)) (hx : x ∈ rs) : ∃ k : Nat, evE G C (.index a b) ρ = .ok (.int k) := by
  obtain ⟨k, hk⟩ := find_tI x rs hx
  refine ⟨k, ?_⟩
  have e : evE G C (.index a b) ρ = if (rs.map tI).all flatKey = true then .bad else (evE G C b ρ).bind fun z => if fitAll (rs.map tI) = true ∧ fit z = true then (match findEq (rs.map tI) z with
      | some k => .ok (.int k)
      | none => .bad) else .bad := by
    show (evE G C a ρ).bind _ = _
    rw [ha]
    rfl
  have hf : ¬ (rs.map tI).all flatKey = true := by
    cases rs with
    | nil => exact nomatch hx
    | cons r rs => simp [flatKey]
  rw [e, if_neg hf, hb]
  show (if fitAll (rs.map tI) = true ∧ fit (tI x) = true then _ else _) = _
  rw [if_pos ⟨fitAll_tI rs, fit_tI x⟩, hk]
def szh : List Int := [24, 24, 24, 4, 4, 24, 4]
def parted (i : Int) : Qn := if i = 0 then .wo .houses else if i = 1 then .wo .total else if i = 2 then .bin .plus (.wo .total) (.wo .houses) else .bin .minus (.wo .houses) (.wo .least)
theorem parted_ok (i : Int) : (parted i).fair ∧ (parted i).dp ≤ 6 := by
  unfold parted
  split
  · exact ⟨trivial, by simp [Qn.dp]⟩
  · split
    · exact ⟨trivial, by simp [Qn.dp]⟩
    · split
      · exact ⟨⟨trivial, trivial⟩, by simp [Qn.dp]⟩
      · exact ⟨⟨trivial, trivial⟩, by simp [Qn.dp]⟩
theorem parted_ix {x4 : Int} (l4 : 0 ≤ x4) (u4 : x4 < 4) : index2 (.list [.tuple [.str "houses"], .tuple [.str "total"], .tuple [.str "plus", .tuple [.str "total"], .tuple [.str "houses"]], .tuple [.str "minus", .tuple [.str "houses"], .tuple [.str "least"]]]) (.int x4) = .ok (parted x4).enc := by
  have : x4 = 0 ∨ x4 = 1 ∨ x4 = 2 ∨ x4 = 3 := by omega
  rcases this with rfl | rfl | rfl | rfl <;> rfl
theorem mod_at {rs : List (List Int)} (hne : rs ≠ []) (i : Int) : ∃ r, r ∈ rs ∧ bin2 .mod (.int i) (.int (rs.length : Int)) = .ok (.int (i % (rs.length : Int))) ∧ index2 (tR rs) (.int (i % (rs.length : Int))) = .ok (tI r) := by
  have hp : 0 < rs.length := List.length_pos_iff.mpr hne
  have hpos : (0 : Int) < rs.length := by omega
  have e0 := Int.emod_nonneg i (b := (rs.length : Int)) (by omega)
  have e1 := Int.emod_lt_of_pos i hpos
  obtain ⟨a, ha⟩ : ∃ a : Nat, i % (rs.length : Int) = a := ⟨(i % (rs.length : Int)).toNat, by omega⟩
  refine ⟨rs.getD a [], List.mem_of_getElem? (getD_of (by omega)), b_mod hpos, ?_⟩
  rw [ha, idx_tIs (by omega)]
theorem rest47 (n : Nat) (ns : List Int) {rs : List (List Int)} (hne : rs ≠ []) (hrs : ∀ r ∈ rs, Rg r) (hm : rs.length ≤ 1500) {q : Qn} (hf : q.fair) (hd : q.dp ≤ 6) {head : List Int} (H : Dig szh head) {x4 : Int} :
    Post (fun _ => False) (fun _ => False) (fun _ => False) (fun x => x = .bool true) (fun _ => False) (evSs G XT 0 (callN G XT 0 T (n + 15)) (tailN 5 fd47.body) [some (tL ns), some (tR rs), some q.enc, some (tL head), some (parted x4).enc, none, none, none, none, none, none, none]) := by
  have Q := ques hf hd
  have QP := ques (parted_ok x4).1 (parted_ok x4).2
  have QG : Ques (.tuple [.str "greatest"]) (fun r => (Qn.wo .greatest).val r) := ques (q := .wo .greatest) trivial (by simp [Qn.dp])
  have QL : Ques (.tuple [.str "least"]) (fun r => (Qn.wo .least).val r) := ques (q := .wo .least) trivial (by simp [Qn.dp])
  have hlen : head.length = 7 := H.1
  obtain ⟨x0, i0, _, _, _⟩ := H.ix 0 (s := 24) rfl
  obtain ⟨x1, i1, _, _, _⟩ := H.ix 1 (s := 24) rfl
  obtain ⟨x3, i3, _, l3, u3⟩ := H.ix 3 (s := 4) rfl
  obtain ⟨x5, i5, _, _, _⟩ := H.ix 5 (s := 24) rfl
  simp only [Int.natCast_zero, Int.natCast_one, Int.cast_ofNat_Int] at i0 i1 i3 i5
  obtain ⟨y3, rfl⟩ : ∃ y : Nat, x3 = y := ⟨x3.toNat, by omega⟩
  obtain ⟨r0, m0, b0, t0⟩ := mod_at hne x0
  obtain ⟨r5, m5, b5, t5⟩ := mod_at hne x5
  obtain ⟨o, s1, d1⟩ := c21 (n + 3) Q rs hrs (by omega) m0 true
  have s1 : callN G XT 0 T (n + 15) 21 [tI r0, tR rs, q.enc, .str "all"] = .ok (encO o) := s1
  have hold : ∀ (rs : List (List Int)) (q : D) (an : List Int → Int), Ques q an → rs ≠ [] → (∀ r ∈ rs, Rg r) → rs.length ≤ 2000 → ∀ ps : List Int, callN G XT 0 T (n + 15) 46 [tR rs, q, .list (ps.map PyData.int)] = .ok (.bool true) := fun rs q an Q a b c ps => c46 (n + 1) Q rs b c a ps
  have hold1 := hold rs q.enc _ Q hne hrs (by omega)
  -- slices of the head
  have hs : ∀ k : Nat, k ≤ 7 → slice3 (tL head) (fun _ => 0) (fun n => bound n (k : Int)) = .ok (tL (head.take k)) := fun k hk => by
    rw [sl_l, List.length_map, bound_nat (by omega)]
    simp [cut]
  have hs2 := hs 2 (by omega)
  have hs3 := hs 3 (by omega)
  simp only [Int.cast_ofNat_Int] at hs2 hs3
  -- the stem
  have R5 := hrs r5 m5
  have hp5 := R5.1
  have h85 := R5.2
  have hstem : slice3 (tI r5) (fun _ => 0) (fun n => bound n (1 + (y3 : Int))) = .ok (tI (r5.take (1 + y3))) := by
    rw [sl_t, List.length_map]
    have : bound r5.length (1 + (y3 : Int)) = min (1 + y3) r5.length := by
      unfold bound
      rw [if_neg (by omega)]
      omega
    rw [this]
    simp [cut]
  have hsl : (r5.take (1 + y3)).length = min (1 + y3) r5.length := by simp
  generalize hst : r5.take (1 + y3) = st at *
  have hst0 : 0 < st.length := by omega
  have hst4 : st.length ≤ 4 := by omega
  have mx := max_r hst0
  have mn := min_r hst0
  have c1 : bin2 .add (tI st) (tI st) = .ok (tI (st ++ st)) := add_tI _ _ (by omega)
  have c2 : ∀ x, bin2 .add (tI st) (.tuple [.int x]) = .ok (tI (st ++ [x])) := fun x => add_one _ _ (by omega)
  -- the few
  obtain ⟨fs, f1, f2, f3⟩ := mapR_ex (f := fun d => (evE G (callN G XT 0 T (n + 15)) (.ix (.v 1) (.bin .mod (.f1 .int (.v 11)) (.f1 .len (.v 1)))) [some (tL ns), some (tR rs), some q.enc, some (tL head), some (parted x4).enc, some (encO o), some (tI st), none, none, none, none, some d]).noEx) (e := PyData.int) (e' := tI) (P := fun _ r => r ∈ rs) (head.take 3) (fun p _ => by
    obtain ⟨r, hr, b, t⟩ := mod_at hne p
    exact ⟨r, by simp [b, t], hr⟩)
  have hfl : fs.length = 3 := by rw [f2]; simp [hlen]
  have hfr : ∀ r ∈ fs, Rg r := fun r hr => by
    obtain ⟨i, hi⟩ := List.getElem?_of_mem hr
    have hil : i < (head.take 3).length := by rw [← f2]; exact (List.getElem?_eq_some_iff.mp hi).1
    exact hrs r (f3 i _ r (getD_of (d := (0 : Int)) hil) hi)
  simp [-List.map_take] at f1
  have few : ∀ x, ∃ ys, callN G XT 0 T (n + 15) 29 [.list (fs.map tI ++ [tI st, tI (st ++ st), tI (st ++ [x])])] = .ok (tR ys) ∧ ys ≠ [] ∧ (∀ r ∈ ys, Rg r) ∧ ys.length ≤ 2000 ∧ lstF st ∈ ys := fun x => by
    have rg : ∀ r ∈ fs ++ [st, st ++ st, st ++ [x]], Rg r := fun r hr => by
      rcases List.mem_append.mp hr with hr | hr
      · exact hfr r hr
      · simp at hr
        rcases hr with rfl | rfl | rfl
        · exact ⟨by omega, by omega⟩
        · exact ⟨by simp; omega, by simp; omega⟩
        · exact ⟨by simp, by simp; omega⟩
    obtain ⟨d, hd, ys, rfl, h1, h2⟩ := c29 (n + 13) (fs ++ [st, st ++ st, st ++ [x]]) rg (by simp; omega)
    have hmem : lstF st ∈ ys := (h2 _).mpr ⟨st, by simp, rfl⟩
    simp only [tLR, List.map_append, List.map_cons, List.map_nil] at hd
    refine ⟨ys, hd, (fun z => by rw [z] at hmem; exact (nomatch hmem)), fun r hr => ?_, by simp at h1; omega, hmem⟩
    obtain ⟨y, hy, rfl⟩ := (h2 r).mp hr
    unfold Rg
    rw [lst_len]
    exact rg y hy
  have least : callN G XT 0 T (n + 15) 27 [tI st] = .ok (tI (lstF st)) := c27 (n + 14) st (by omega)
  have ladd : ∀ x, bin2 .add (tLR fs) (.list [tI st, tI (st ++ st), tI (st ++ [x])]) = .ok (.list (fs.map tI ++ [tI st, tI (st ++ st), tI (st ++ [x])])) := fun x => b_add_l (by simp; omega)
  have h44 : callN G XT 0 T (n + 15) 44 [encO o, encO o] = .ok (.bool true) := c44 (n + 13) o
  have ix1' := i1
  simp only [fd47, tailN, evss_cons, evss_nil, ev_set, ev_call, evs_cons, evs_nil, ev_ix, ev_bin, ev_f1, ev_v, ev_int, ev_str, slot_succ, slot_zero, rb_ok, i0, i5, i3, c1_int, c1_len_t, List.length_map, b0, t0, b5, t5, List.nil_append, List.append_nil, List.cons_append, s1, out_ok, clear_nil, List.set_cons_succ, List.set_cons_zero, thn_nx, ev_sif, ev_not, ev_slH, asInt_int, hs2, hold1, asBool_bool, Bool.not_true, Bool.false_eq_true, if_false, b_add_i, hstem, mx, ev_tup, ev_cmp, cm_gt (ltOk_int _ _), lt_int, b2_ok]
  have fin : ∀ (x : Int) (qd : D) (an : List Int → Int), Ques qd an → Post (fun _ => False) (fun _ => False) (fun _ => False) (fun x => x = .bool true) (fun _ => False) (evSs G XT 0 (callN G XT 0 T (n + 15)) (tailN 11 fd47.body) [some (tL ns), some (tR rs), some q.enc, some (tL head), some (parted x4).enc, some (encO o), some (tI st), some (.int x), some qd, none, none, none]) := by
    intro x qd an QD
    obtain ⟨ys, y1, y2, y3', y4, y5⟩ := few x
    obtain ⟨k, hk⟩ := index_rs (G := G) (C := callN G XT 0 T (n + 15)) (ρ := [some (tL ns), some (tR rs), some q.enc, some (tL head), some (parted x4).enc, some (encO o), some (tI st), some (.int x), some qd, some (tR ys), none, none]) (a := .v 9) (b := .call 27 (.cons (.v 6) .nil) .nil []) rfl (by simp [least]) y5
    have h1 := hold ys _ _ QP y2 y3' y4 [(k : Int), x1]
    have h2 := hold ys _ _ QD y2 y3' y4 [(k : Int)]
    simp only [List.map_cons, List.map_nil] at h1 h2
    simp only [fd47, tailN, evss_cons, evss_nil, ev_set, ev_comp, ev_slH, ev_v, ev_int, slot_succ, slot_zero, rb_ok, asInt_int, hs3, items_list, List.set_cons_succ, List.set_cons_zero]
    simp only [ev_ix, ev_bin, ev_f1, ev_v, slot_succ, slot_zero, rb_ok, c1_len_t, List.length_map] 
    rw [f1]
    simp only [evss_cons, evss_nil, ev_set, rb_ok, out_ok, clear_nil, List.set_cons_succ, List.set_cons_zero, thn_nx, ev_bin, ev_lst, evs_cons, evs_nil, ev_v, ev_tup, slot_succ, slot_zero, c1, c2, ladd, ev_call, List.nil_append, List.append_nil, List.cons_append, y1, hk, ev_sif, ev_or, evor_cons, evor_one, ev_not, ev_ix, ev_int, i1, h1, h2, asBool_bool, Bool.not_true, Bool.false_eq_true, if_false, ev_ret, ev_f1, i0, c1_int, c1_len_t, List.length_map, b0, t0, ev_str, s1, h44, thn_rt, post_rt]
  by_cases hmore : 999 < maxI st + 1
  · simp only [hmore, decide_true, if_true, evss_cons, evss_nil, ev_set, ev_bin, ev_f1, ev_v, ev_int, ev_tup, evs_cons, evs_nil, ev_str, slot_succ, slot_zero, rb_ok, mn, b_sub_i, out_ok, clear_nil, List.set_cons_succ, List.set_cons_zero, thn_nx]
    have := fin (minI st - 1) _ _ QL
    simp only [fd47, tailN, evss_cons, ev_set] at this
    exact this
  · simp only [hmore, decide_false, Bool.false_eq_true, if_false, thn_nx]
    have := fin (maxI st + 1) _ _ QG
    simp only [fd47, tailN, evss_cons, ev_set] at this
    exact this
theorem c47 (n : Nat) (ns : List Int) (hns : ns.length ≤ 1000) : callN G XT 0 T (n + 16) 47 [tL ns] = .ok (.bool true) := by
  obtain ⟨d, h34, rs, rfl, hne, hrs, hm⟩ := c34 (n + 12) ns hns
  obtain ⟨d, g1, z1, rfl⟩ := c24 (n + 14) ns 1 (by omega)
  obtain ⟨d, g2, z2, rfl⟩ := c24 (n + 14) ns 2 (by omega)
  obtain ⟨d, g0, z0, rfl⟩ := c24 (n + 14) ns 0 (by omega)
  obtain ⟨d, d1, row1, rfl, D1⟩ := c25 (n + 14) z1 sz39 (by decide) (by decide)
  obtain ⟨d, d2, head, rfl, D2⟩ := c25 (n + 14) z2 szh (by decide) (by decide)
  obtain ⟨d, d0, row0, rfl, D0⟩ := c25 (n + 14) z0 [12] (by decide) (by decide)
  obtain ⟨d, hq, q, rfl, hf, hd⟩ := c39 (n + 14) row1 D1
  obtain ⟨x4, i4, _, l4, u4⟩ := D2.ix 4 (s := 4) rfl
  obtain ⟨x6, i6, _, l6, u6⟩ := D2.ix 6 (s := 4) rfl
  obtain ⟨k0, j0, _, _, _⟩ := D0.ix 0 (s := 12) rfl
  simp only [Int.natCast_zero, Int.natCast_one, Int.cast_ofNat_Int] at g0 g1 g2 i4 i6 j0
  have p4 := parted_ix l4 u4
  have d1 : callN G XT 0 T (n + 15) 25 [.int z1, .list [.int 18, .int 6, .int 6]] = .ok (tL row1) := d1
  have d2 : callN G XT 0 T (n + 15) 25 [.int z2, .list [.int 24, .int 24, .int 24, .int 4, .int 4, .int 24, .int 4]] = .ok (tL head) := d2
  have d0 : callN G XT 0 T (n + 15) 25 [.int z0, .list [.int 12]] = .ok (tL row0) := d0
  have h34 : callN G XT 0 T (n + 15) 34 [tL ns] = .ok (tR rs) := h34
  have hq : callN G XT 0 T (n + 15) 39 [tL row1] = .ok q.enc := hq
  have r1 := rest47 n ns hne hrs hm hf hd D2 (x4 := x4)
  have r2 := rest47 n ns hne hrs hm (parted_ok x4).1 (parted_ok x4).2 D2 (x4 := x4)
  simp only [fd47, tailN, evss_cons] at r1 r2
  refine call_ok (fd := fd47) rfl rfl ?_
  simp only [fd47, List.map_cons, List.map_nil, List.replicate, List.cons_append, List.nil_append, List.append_nil, evss_cons, evss_nil, ev_set, ev_call, evs_cons, evs_nil, ev_lst, ev_tup, ev_str, ev_v, ev_int, slot_succ, slot_zero, rb_ok, out_ok, clear_nil, List.set_cons_succ, List.set_cons_zero, thn_nx, h34, g1, d1, hq, g2, d2, ev_ix, i4, p4, ev_sif, ev_and, evand_cons, evand_one, ev_chain, g0, d0, j0, cm_le (ltOk_int _ _), lt_int, b2_ok, asBool_bool, ev_cmp, i6, cm_gt (ltOk_int _ _)]
  by_cases a1 : k0 < 5
  · simp only [a1, decide_true, Bool.not_true, Bool.false_eq_true, if_false, rb_ok, asBool_bool, out_ok, thn_nx]
    exact r1
  · by_cases a2 : 7 < k0
    · simp only [a1, a2, decide_true, decide_false, Bool.not_true, Bool.not_false, Bool.false_eq_true, if_true, if_false, rb_ok, asBool_bool, out_ok, thn_nx]
      exact r1
    · by_cases a3 : 0 < x6
      · simp only [a1, a2, a3, decide_true, decide_false, Bool.not_true, Bool.not_false, Bool.false_eq_true, if_true, if_false, rb_ok, asBool_bool, out_ok, thn_nx]
        exact r2
      · simp only [a1, a2, a3, decide_true, decide_false, Bool.not_true, Bool.not_false, Bool.false_eq_true, if_true, if_false, rb_ok, asBool_bool, out_ok, thn_nx]
        exact r1
end PV.F77
end
set_option Elab.async false
set_option maxRecDepth 100000
set_option maxHeartbeats 0
namespace PV.G77
theorem FT_eq : FT T = PV.F77.T := by
  funext f
  show (defs[f]?).map (·.fd) = _
  rw [← List.getElem?_map]
  rfl
theorem G_eq : G = PV.F77.G := rfl
theorem XT_eq : XT = PV.F77.XT := rfl
end PV.G77
theorem PySem.Challenge.cw_oneturn_k77_whole_soonest_holds : PySem.Challenge.rw_oneturn_k77_whole_soonest.Holds := by
  refine PV.G77.reduce 16 ?_ fun ns h => ?_
  · exact ⟨rfl, by decide, by decide⟩
  · rw [PV.G77.FT_eq, PV.G77.G_eq, PV.G77.XT_eq]
    exact PV.F77.c47 0 ns (by omega)
