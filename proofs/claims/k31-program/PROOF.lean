import PyProof.Rows.All
import Wide.All
import OpenK.AllK
import Wide.FinOn
import KE.KDictKeyed
import KE.KDictDisplayH
import HandS.ForMost
import HandS.ForExc
import HandS.ExcIs
import HandS.ExcValue
import HandS.HeadHook1
import HandS.IsInst
import HandS.Deep
import HandS.TupAny
import HandS.TupMul
import HandS.Style
import HandS.Conv
import HandS.Small
import KE.SortData
import HandS.SortInts
import KE.DataMinMax
import KE.KDictOf
import KE.KDictCopyH
import KE.KDictSum
import HandS.SetFor
import HandS.TupSets
import HandS.Codes
import HandS.RaiseMore
import HandS.Iter
import HandS.Defaults
import HandS.Head0
import HandS.Head1
import HandS.Head2
import HandS.HeadEnd
import HandS.HeadHook2
import HandS.HeadHook4
import PySem.Challenge.RW_branchguesses_k31_program_errors
import PyProof.TableCode
set_option Elab.async false
set_option linter.all false
set_option maxRecDepth 100000
set_option maxHeartbeats 0
/-! BG.Core: values, core syntax, the evaluator. Plain Lean. -/
namespace BG

/-- values: lists are values; `drw` is the draws object of a law, `scr` its script -/
inductive Val where
  | non
  | bl (b : Bool)
  | int (i : Int)
  | str (cs : List Nat)
  | tup (xs : List Val)
  | lst (xs : List Val)
  | drw
  | scr (ns : List Int)
  /-- a dict, its keys tuples of numbers -/
  | dct (ks : List (List Int)) (vs : List Val)
  /-- a dict, its keys numbers, or tuples of numbers, None and such -/
  | dcn (ks vs : List Val)
  /-- a cell of the store: a list or dict that many may hold and change -/
  | ref (i : Nat)
  /-- an exception that was caught -/
  | exc (c : Nat)

/-- the state: the script's numbers and the count of draws; the cells (none: dead) -/
structure DSt where
  dw : Option (List Int × Int)
  st : List (Option Val)

inductive Out (α : Type) where
  | ok (a : α) (s : DSt)
  | exc (c : Nat) (s : DSt)
  | bad

def Out.bind {α β : Type} (x : Out α) (f : α → DSt → Out β) : Out β :=
  match x with
  | .ok a s => f a s
  | .exc c s => .exc c s
  | .bad => .bad
/-- no exception comes out -/
def Out.noexc {α : Type} (x : Out α) : Out α :=
  match x with
  | .exc _ _ => .bad
  | x => x
@[simp] theorem Out.noexc_ok {α : Type} (a : α) (s : DSt) : (Out.ok a s).noexc = .ok a s := rfl
@[simp] theorem Out.bind_ok {α β : Type} (a : α) (s : DSt) (f : α → DSt → Out β) : (Out.ok a s).bind f = f a s := rfl
@[simp] theorem Out.bind_exc {α β : Type} (c : Nat) (s : DSt) (f : α → DSt → Out β) : (Out.exc c s : Out α).bind f = .exc c s := rfl
@[simp] theorem Out.bind_bad {α β : Type} (f : α → DSt → Out β) : (Out.bad : Out α).bind f = .bad := rfl

def lift {α : Type} (x : Option α) (s : DSt) : Out α :=
  match x with
  | some a => .ok a s
  | none => .bad
@[simp] theorem lift_some {α : Type} (a : α) (s : DSt) : lift (some a) s = .ok a s := rfl
@[simp] theorem lift_none {α : Type} (s : DSt) : lift (none : Option α) s = .bad := rfl

abbrev Env := List (Option Val)

/-- the most items of a list that is made -/
def lim : Nat := 1000000

inductive BinK where
  | add | sub | mul | fdiv | mod | pow
inductive CmpK where
  | eq | ne | lt | le | gt | ge | isIn | notIn | isN | notN
inductive TyK where
  | tInt | tBool | tTuple | tStr | tList
inductive BiK where
  | len | all | any | tuple | list | sorted | max1 | min1 | max2 | min2 | sum | abs | sortedSet | lenSet | str | int
inductive MeK where
  | index | count | join
/-- readings of cells: a[b], a in b, a not in b, a.get(b, c), len(a); a == [], a != [] of a list of cells -/
inductive RopK where
  | idx | isIn | notIn | get | len | isE | notE

inductive Tg where
  | name (i : Nat)
  | tup (r : Tg)
  | nil
  | cons (t r : Tg)

inductive Ex where
  | var (i : Nat)
  | cst (v : Val)
  | glb (x : List Nat) (v : Val)
  | bin (k : BinK) (a b : Ex)
  | neg (a : Ex)
  | not (a : Ex)
  | and (a b : Ex)
  | or (a b : Ex)
  | cmp (k : CmpK) (a b : Ex)
  | chain (k k' : CmpK) (a b c : Ex)
  | ite (c a b : Ex)
  | nil
  | cons (a r : Ex)
  | tup (a : Ex)
  | list (a : Ex)
  | idx (a i : Ex)
  | slice (a lo hi : Ex)
  | rev (a : Ex)
  | no
  | call (f : Nat) (a : Ex)
  | bi (k : BiK) (a : Ex)
  | isinst (a : Ex) (t : TyK)
  | meth (k : MeK) (a b : Ex)
  | comp (t : Tg) (src cond elt : Ex)
  | range1 (a : Ex)
  | range2 (a b : Ex)
  | enum (a : Ex)
  | zip (a b : Ex)
  | enumZip (a b : Ex)
  | dnew
  | dget (a k x : Ex)
  /-- {} and {k: v}, held by one name -/
  | dnewN
  | dlit (k v : Ex)
  /-- a new list or dict, in a new cell -/
  | box (a : Ex)
  | rop (k : RopK) (a b c : Ex)
  /-- isinstance(a, an exception's class) -/
  | isexc (a : Ex) (c : Nat)

inductive Sx where
  | nil
  | seq (s r : Sx)
  | asg (i : Nat) (e : Ex)
  | own (i : Nat) (e : Ex)
  | asgT (t : Tg) (e : Ex)
  | par (t : Tg) (own : List Nat) (a : Ex)
  | aug (i : Nat) (k : BinK) (e : Ex)
  | ext (i : Nat) (e : Ex)
  | append (i : Nat) (e : Ex)
  | setI (i : Nat) (ix e : Ex)
  | expr (e : Ex)
  | ite (c : Ex) (t f : Sx)
  | forS (t : Tg) (src : Ex) (b : Sx)
  | whileS (n : Nat) (c : Ex) (b : Sx)
  | ret (e : Ex)
  | brk
  | cont
  | raise (c : Nat)
  | freeze (i : Nat)
  /-- x = dict(a); x[k] = v -/
  | dupd (i : Nat) (a k v : Ex)
  /-- r.append(e), name[ix] = e, of cells -/
  | appR (r e : Ex)
  | setR (i : Nat) (ix e : Ex)
  /-- the cells that a name holds are dead from here on, their lists values -/
  | frz (i : Nat)
  /-- try: b / except GuessError as j: i = j -/
  | tryS (b : Sx) (i j : Nat)

/-! ### data -/
mutual
def dep : Val → Nat
  | .tup xs => deps xs + 1
  | .lst xs => deps xs + 1
  | .non => 0 | .bl _ => 0 | .int _ => 0 | .str _ => 0 | .drw => 0 | .scr _ => 0 | .dct _ _ => 0 | .dcn _ _ => 0 | .ref _ => 0 | .exc _ => 0
def deps : List Val → Nat
  | [] => 0
  | x :: xs => max (dep x) (deps xs)
end
mutual
/-- data without the law's own objects -/
def plain : Val → Bool
  | .tup xs => plains xs
  | .lst xs => plains xs
  | .non => true | .bl _ => true | .int _ => true | .str _ => true | .drw => false | .scr _ => false | .dct _ _ => false | .dcn _ _ => false | .ref _ => false | .exc _ => false
def plains : List Val → Bool
  | [] => true
  | x :: xs => plain x && plains xs
end
def b2 (b : Bool) : Int := if b then 1 else 0
mutual
def veq : Val → Val → Bool
  | .non, .non => true
  | .bl a, .bl b => a == b
  | .bl a, .int j => b2 a == j
  | .int i, .bl b => i == b2 b
  | .int i, .int j => i == j
  | .str x, .str y => x == y
  | .tup xs, .tup ys => veqs xs ys
  | .lst xs, .lst ys => veqs xs ys
  | _, _ => false
def veqs : List Val → List Val → Bool
  | [], [] => true
  | x :: xs, y :: ys => veq x y && veqs xs ys
  | _, _ => false
end
/-- the depth to which two things are compared -/
def eqOk (a b : Val) : Bool := plain a && plain b && (decide (dep a ≤ 60) || decide (dep b ≤ 60))
def vEq (a b : Val) : Option Bool := if eqOk a b then some (veq a b) else none

mutual
/-- a < b, of ints, texts, tuples and lists of such -/
def vltB : Val → Val → Bool
  | .int i, .int j => decide (i < j)
  | .str x, .str y => decide (x < y)
  | .tup xs, .tup ys => vltsB xs ys
  | .lst xs, .lst ys => vltsB xs ys
  | _, _ => false
def vltsB : List Val → List Val → Bool
  | [], [] => false
  | [], _ :: _ => true
  | _ :: _, [] => false
  | x :: xs, y :: ys => if veq x y then vltsB xs ys else vltB x y
end
mutual
/-- of one kind, place by place -/
def alikeV : Val → Val → Bool
  | .int _, .int _ => true
  | .str _, .str _ => true
  | .tup xs, .tup ys => alikesV xs ys
  | .lst xs, .lst ys => alikesV xs ys
  | _, _ => false
def alikesV : List Val → List Val → Bool
  | x :: xs, y :: ys => alikeV x y && alikesV xs ys
  | [], _ => true
  | _ :: _, [] => true
end

def isInts : List Val → Option (List Int)
  | [] => some []
  | .int i :: xs => (isInts xs).map (i :: ·)
  | _ :: _ => none
def isBls : List Val → Option (List Bool)
  | [] => some []
  | .bl i :: xs => (isBls xs).map (i :: ·)
  | _ :: _ => none

/-! ### dicts -/
def smallK (k : List Int) : Bool := match k with
  | [i, j] => decide (0 ≤ i) && decide (i < 4) && decide (0 ≤ j) && decide (j < 4)
  | _ => false
def kT (k : List Int) : Val := .tup (k.map .int)
def valD : List (List Int) → List Val → List Int → Option Val
  | k :: ks, v :: vs, q => if k = q then some v else valD ks vs q
  | _, _, _ => none
def putKs (ks : List (List Int)) (q : List Int) : List (List Int) := if q ∈ ks then ks else ks ++ [q]
def putVs (ks : List (List Int)) (vs : List Val) (q : List Int) (y : Val) : List Val := if q ∈ ks then List.zipWith (fun k v => if k = q then y else v) ks vs else vs ++ [y]
mutual
/-- numbers, None, tuples of such -/
def keyN : Val → Bool
  | .int _ => true
  | .non => true
  | .tup xs => keyNs xs
  | _ => false
def keyNs : List Val → Bool
  | [] => true
  | x :: xs => keyN x && keyNs xs
end
def isI : Val → Bool
  | .int _ => true
  | _ => false
def isTupK : Val → Bool
  | .tup xs => keyNs xs && decide (deps xs ≤ 7)
  | _ => false
/-- q is asked of a dict with the keys ks -/
def dOk (ks : List Val) (q : Val) : Bool := (isTupK q && ks.all isTupK) || (isI q && ks.all isI)
def dfindN : List Val → List Val → Val → Option Val
  | k :: ks, v :: vs, q => if veq k q then some v else dfindN ks vs q
  | _, _, _ => none
def hasN (ks : List Val) (q : Val) : Bool := ks.any fun k => veq k q
def dputK (ks : List Val) (q : Val) : List Val := if hasN ks q then ks else ks ++ [q]
def dputV : List Val → List Val → Val → Val → List Val
  | k :: ks, v :: vs, q, y => if veq k q then y :: vs else v :: dputV ks vs q y
  | _, _, _, y => [y]
def vget (d q z : Val) : Option Val :=
  match d, q with
  | .dct ks vs, .tup qs => (isInts qs).map fun q => (valD ks vs q).getD z
  | .dcn ks vs, q => if dOk ks q then some ((dfindN ks vs q).getD z) else none
  | _, _ => none
def vput (d q y : Val) : Option Val :=
  match d, q with
  | .dct ks vs, .tup qs => (isInts qs).bind fun q => if vs.length < lim then some (.dct (putKs ks q) (putVs ks vs q y)) else none
  | _, _ => none
def copyOk : Val → Bool
  | .dct ks _ => ks.all smallK
  | _ => false
/-! ### operations -/
def small64 (i : Int) : Bool := decide (-18446744073709551616 < i) && decide (i < 18446744073709551616)
def vbin : BinK → Val → Val → Option Val
  | .add, .int i, .int j => some (.int (i + j))
  | .add, .str x, .str y => if x.length + y.length ≤ lim then some (.str (x ++ y)) else none
  | .add, .tup x, .tup y => if x.length + y.length ≤ lim then some (.tup (x ++ y)) else none
  | .add, .lst x, .lst y => if x.length + y.length ≤ lim then some (.lst (x ++ y)) else none
  | .sub, .int i, .int j => some (.int (i - j))
  | .mul, .int i, .int j => if small64 i || small64 j then some (.int (i * j)) else none
  | .mul, .lst x, .int j => if x.length * j.toNat ≤ lim ∧ j < 1000000000 ∧ -1000000000 < j then some (.lst ((List.replicate j.toNat x).flatten)) else none
  | .mul, .tup x, .int j => if (j = 1 ∨ (2 ≤ j ∧ j ≤ 1000)) ∧ 0 < x.length ∧ x.length ≤ 1000 then some (.tup ((List.replicate j.toNat x).flatten)) else none
  | .fdiv, .int i, .int j => if 0 < j ∧ j < 1073741824 then some (.int (i / j)) else none
  | .mod, .int i, .int j => if 0 < j then some (.int (i % j)) else none
  | .pow, .int i, .int j => if 0 ≤ j ∧ j ≤ 1000000 ∧ small64 i then some (.int (i ^ j.toNat)) else none
  | _, _, _ => none

def okIn (x : Val) (xs : List Val) : Bool := plain x && plains xs && decide (dep x ≤ 60) && decide (deps xs ≤ 60)
def vmem (x : Val) (xs : List Val) : Option Bool :=
  if okIn x xs then some (xs.any (fun y => veq y x)) else none
def flatB : Val → Bool
  | .non => true | .bl _ => true | .int _ => true | .str _ => true
  | _ => false
def vmemF (x : Val) (xs : List Val) : Option Bool :=
  if flatB x && xs.all flatB then some (xs.any (fun y => veq y x)) else none

def isNon : Val → Bool
  | .non => true
  | _ => false

def items : Val → Option (List Val)
  | .tup xs => some xs
  | .lst xs => some xs
  | _ => none

def vcmp : CmpK → Val → Val → Option Bool
  | .eq, a, b => vEq a b
  | .ne, a, b => (vEq a b).map (!·)
  | .lt, .int i, .int j => some (decide (i < j))
  | .le, .int i, .int j => some (decide (i ≤ j))
  | .gt, .int i, .int j => some (decide (j < i))
  | .ge, .int i, .int j => some (decide (j ≤ i))
  | .isIn, a, .tup xs => vmemF a xs
  | .isIn, a, .lst xs => vmem a xs
  | .isIn, a, .dcn ks _ => if dOk ks a then some (hasN ks a) else none
  | .notIn, a, .tup xs => (vmemF a xs).map (!·)
  | .notIn, a, .lst xs => (vmem a xs).map (!·)
  | .notIn, a, .dcn ks _ => if dOk ks a then some (!hasN ks a) else none
  | .isN, a, .non => some (isNon a)
  | .notN, a, .non => some (!isNon a)
  | .isN, .bl a, .bl b => some (a == b)
  | .notN, .bl a, .bl b => some (!(a == b))
  | _, _, _ => none

/-- a place in a row of n, counted from the end if below 0 -/
def place (i : Int) (n : Nat) : Option Nat :=
  if 0 ≤ i then (if i < n then some i.toNat else none) else if -(n : Int) ≤ i then some (i + n).toNat else none
def vidx : Val → Val → Option Val
  | .tup xs, .int i => (place i xs.length).bind (xs[·]?)
  | .lst xs, .int i => (place i xs.length).bind (xs[·]?)
  | .str cs, .int i => (place i cs.length).bind fun k => (cs[k]?).map fun c => .str [c]
  | .dcn ks vs, q => if dOk ks q then dfindN ks vs q else none
  | .dct ks vs, .tup qs => (isInts qs).bind fun q => valD ks vs q
  | _, _ => none
/-- an end of a slice, cut to 0 .. n; d where it is left out -/
def cutIx (n d : Nat) : Option Int → Nat
  | none => d
  | some v => if v < 0 then (v + (n : Int)).toNat else min v.toNat n
def cut {α : Type} (xs : List α) (lo hi : Option Int) : List α := (xs.drop (cutIx xs.length 0 lo)).take (cutIx xs.length xs.length hi - cutIx xs.length 0 lo)
def vslice : Val → Option Int → Option Int → Option Val
  | .tup xs, lo, hi => some (.tup (cut xs lo hi))
  | .lst xs, lo, hi => some (.lst (cut xs lo hi))
  | .str cs, lo, hi => some (.str (cut cs lo hi))
  | _, _, _ => none
def isty : TyK → Val → Option Bool
  | .tInt, .int _ => some true
  | .tInt, .bl _ => some true
  | .tBool, .bl _ => some true
  | .tTuple, .tup _ => some true
  | .tStr, .str _ => some true
  | .tList, .lst _ => some true
  | _, .drw => none
  | _, .scr _ => none
  | _, .dct _ _ => none
  | _, .dcn _ _ => none
  | _, .ref _ => none
  | _, .exc _ => none
  | _, _ => some false

/-! sorting: insertion, by vlt -/
def insV (x : Val) : List Val → List Val
  | [] => [x]
  | y :: ys => if vltB y x then y :: insV x ys else x :: y :: ys
def sortL : List Val → List Val
  | [] => []
  | x :: xs => insV x (sortL xs)
def isTup1 : Val → Bool
  | .tup (_ :: _) => true
  | _ => false
def notTup : Val → Bool
  | .int _ => true | .str _ => true | .lst _ => true
  | _ => false
def sortOk (xs : List Val) : Bool := xs.all (fun x => xs.all (alikeV x)) && (xs.all isTup1 || xs.all notTup) && decide (deps xs ≤ 60)
def sortV (xs : List Val) : Option (List Val) := if sortOk xs then some (sortL xs) else none
def insI (x : Int) : List Int → List Int
  | [] => [x]
  | y :: ys => if x ≤ y then x :: y :: ys else y :: insI x ys
def sortI : List Int → List Int
  | [] => []
  | x :: xs => insI x (sortI xs)
def dedupI : List Int → List Int
  | [] => []
  | x :: xs => if x ∈ xs then dedupI xs else x :: dedupI xs
def intsOf : Val → Option (List Int)
  | .tup xs => isInts xs
  | _ => none
def isTups : List Val → Option (List (List Int))
  | [] => some []
  | x :: xs => (intsOf x).bind fun n => (isTups xs).bind fun ns => some (n :: ns)
def dedupT : List (List Int) → List (List Int)
  | [] => []
  | x :: xs => if x ∈ xs then dedupT xs else x :: dedupT xs
/-- tuples of numbers below 1000, all as long: their order as numbers -/
def codeT : List Int → Int
  | [] => 0
  | d :: r => d * 1000 ^ r.length + codeT r
def insT (x : List Int) : List (List Int) → List (List Int)
  | [] => [x]
  | y :: ys => if codeT x ≤ codeT y then x :: y :: ys else y :: insT x ys
def sortTs : List (List Int) → List (List Int)
  | [] => []
  | x :: xs => insT x (sortTs xs)
def okTs (ts : List (List Int)) : Bool := ts.all fun t => decide (0 < t.length) && decide (t.length = (ts.headD []).length) && t.all fun i => decide (0 ≤ i) && decide (i < 1000)
def maxI : List Int → Option Int
  | [] => none
  | [x] => some x
  | x :: y :: r => (maxI (y :: r)).map fun m => if m > x then m else x
def minI : List Int → Option Int
  | [] => none
  | [x] => some x
  | x :: y :: r => (minI (y :: r)).map fun m => if m < x then m else x
/-- data of one kind -/
def alike1 (xs : List Val) : Bool := xs.all (fun x => xs.all (alikeV x)) && decide (deps xs ≤ 60)
def minV : List Val → Option Val
  | [] => none
  | x :: xs => if alike1 (x :: xs) then some (xs.foldl (fun a y => if vltB y a then y else a) x) else none
def maxV : List Val → Option Val
  | [] => none
  | x :: xs => if alike1 (x :: xs) then some (xs.foldl (fun a y => if vltB a y then y else a) x) else none
def bigInt : Int → Bool := fun i => decide (-4611686018427387904 ≤ i) && decide (i < 4611686018427387904)

def vbi : BiK → List Val → Option Val
  | .len, [.tup xs] => some (.int xs.length)
  | .len, [.lst xs] => some (.int xs.length)
  | .len, [.str cs] => if cs.length ≤ lim then some (.int cs.length) else none
  | .all, [.lst xs] => (isBls xs).map fun bs => .bl (bs.all id)
  | .any, [.lst xs] => (isBls xs).map fun bs => .bl (bs.any id)
  | .tuple, [.lst xs] => some (.tup xs)
  | .tuple, [.tup xs] => some (.tup xs)
  | .list, [.lst xs] => some (.lst xs)
  | .list, [.tup xs] => some (.lst xs)
  | .sorted, [.lst xs] => (sortV xs).map .lst
  | .sorted, [.dct ks _] => if ks.all smallK then (sortV (ks.map kT)).map .lst else none
  | .sorted, [.dcn ks vs] => if ks.all isTupK && decide (ks.length ≤ lim) then (sortV ks).map .lst else none
  | .max1, [.lst xs] => maxV xs
  | .max1, [.tup xs] => maxV xs
  | .min1, [.lst xs] => minV xs
  | .min1, [.tup xs] => minV xs
  | .max2, [.int i, .int j] => some (.int (if j > i then j else i))
  | .min2, [.int i, .int j] => some (.int (if j < i then j else i))
  | .sum, [.lst xs] => (isInts xs).map fun ns => .int ns.sum
  | .abs, [.int i] => some (.int (if i < 0 then -i else i))
  | .sortedSet, [.tup xs] => (isInts xs).bind fun ns => if ns.length < 64 then some (.lst ((sortI (dedupI ns)).map .int)) else none
  | .sortedSet, [.lst xs] => match isInts xs with
    | some ns => if ns.length < 64 then some (.lst ((sortI (dedupI ns)).map .int)) else none
    | none => (isTups xs).bind fun ts => if okTs ts && decide ((dedupT ts).length < 60) then some (.lst ((sortTs (dedupT ts)).map kT)) else none
  | .lenSet, [.tup xs] => (isInts xs).bind fun ns => if ns.length < 64 then some (.int ((dedupI ns).length : Nat)) else none
  | .lenSet, [.lst xs] => match isInts xs with
    | some ns => if ns.length < 1000 then some (.int ((dedupI ns).length : Nat)) else none
    | none => (isTups xs).bind fun ts => if ts.length < 64 then some (.int ((dedupT ts).length : Nat)) else none
  | .str, [.int i] => if 0 ≤ i ∧ i < 10 then some (.str [48 + i.toNat]) else none
  | .str, [.str cs] => some (.str cs)
  | .int, [.int i] => some (.int i)
  | .int, [.bl b] => some (.int (b2 b))
  | _, _ => none

def findV (x : Val) : List Val → Nat → Option Nat
  | [], _ => none
  | y :: ys, k => if veq y x then some k else findV x ys (k + 1)
/-- texts joined -/
def strsOf : List Val → Option (List (List Nat))
  | [] => some []
  | .str s :: xs => (strsOf xs).map (s :: ·)
  | _ :: _ => none
def joinV (S : List Nat) : List (List Nat) → List Nat
  | [] => []
  | [p] => p
  | p :: q :: r => p ++ (S ++ joinV S (q :: r))
def vmeth : MeK → Val → Val → Option Val
  | .join, .str a, .lst xs => (strsOf xs).bind fun ys => if (ys.map (·.length)).sum + ys.length * a.length ≤ lim then some (.str (joinV a ys)) else none
  | .index, .lst xs, x => if okIn x xs then (findV x xs 0).map fun (k : Nat) => .int (k : Int) else none
  | .count, .lst xs, .int i => (isInts xs).map fun ns => .int (ns.count i)
  | .count, .lst xs, x => if okIn x xs then some (.int (xs.countP fun y => veq y x : Nat)) else none
  | _, _, _ => none

/-! ### targets -/
mutual
def bindT : Tg → Val → Env → Option Env
  | .name i, v, e => if i < e.length then some (e.set i (some v)) else none
  | .tup r, .tup xs, e => bindTs r xs e
  | _, _, _ => none
def bindTs : Tg → List Val → Env → Option Env
  | .nil, [], e => some e
  | .cons t r, x :: xs, e => (bindT t x e).bind (bindTs r xs)
  | _, _, _ => none
end
def slots : Tg → List Nat
  | .name i => [i]
  | .tup r => slots r
  | .nil => []
  | .cons t r => slots t ++ slots r
def wipeE (e : Env) : List Nat → Env
  | [] => e
  | v :: vs => (wipeE e vs).set v none

def rangeL (lo : Int) (n : Nat) : List Val := (List.range n).map fun (k : Nat) => .int (lo + (k : Int))
def zipV (xs ys : List Val) : List Val := List.zipWith (fun x y => .tup [x, y]) xs ys
def enumF : Nat → List Val → List Val
  | _, [] => []
  | k, x :: xs => .tup [.int (k : Nat), x] :: enumF (k + 1) xs
def enumV (xs : List Val) : List Val := enumF 0 xs

/-! ### cells -/
def der (s : DSt) : Val → Option Val
  | .ref i => match s.st[i]? with
    | some (some d) => some d
    | _ => none
  | _ => none
/-- the items of a list, cells by their contents -/
def dresL (s : DSt) : List Val → Option (List Val)
  | [] => some []
  | .ref i :: xs => (der s (.ref i)).bind fun d => (dresL s xs).map (d :: ·)
  | x :: xs => (dresL s xs).map (x :: ·)
def dresOk (s : DSt) (xs : List Val) : Bool := match dresL s xs with
  | some ys => plains ys && decide (deps ys ≤ 59)
  | none => false
def isDcn : Option Val → Bool
  | some (.dcn _ _) => true
  | _ => false
def isLst : Option Val → Bool
  | some (.lst _) => true
  | _ => false
def vrop (s : DSt) : RopK → Val → Val → Val → Option Val
  | .idx, x, y, _ => (der s x).bind fun d => vidx d y
  | .isIn, x, y, _ => (der s y).bind fun d => (vcmp .isIn x d).map .bl
  | .notIn, x, y, _ => (der s y).bind fun d => (vcmp .notIn x d).map .bl
  | .get, x, y, z => (der s x).bind fun d => vget d y z
  | .len, x, _, _ => (der s x).bind fun d => vbi .len [d]
  | .isE, .lst xs, _, _ => if dresOk s xs then some (.bl xs.isEmpty) else none
  | .notE, .lst xs, _, _ => if dresOk s xs then some (.bl (!xs.isEmpty)) else none
  | _, _, _, _ => none
def isCell : Val → Bool
  | .lst _ => true | .dcn _ _ => true
  | _ => false
/-- the lists of cells as values; the cells are dead then -/
def frzL : List Val → DSt → Option (List Val × DSt)
  | [], s => some ([], s)
  | .ref i :: xs, s => match s.st[i]? with
    | some (some d) => (frzL xs { s with st := s.st.set i none }).map fun r => (d :: r.1, r.2)
    | _ => none
  | x :: xs, s => (frzL xs s).map fun r => (x :: r.1, r.2)
/-- is the class c below c'? 0 predictor, 1 row, 2 net, 3 program, 4 number, 5 text, 6 not found, 7 all of these, 8 ValueError -/
def subX (c c' : Nat) : Bool := decide (c = c') || decide (7 ≤ c')
def visx (c' : Nat) : Val → Option Val
  | .exc c => if c < 7 ∧ c' < 9 then some (.bl (subX c c')) else none
  | _ => none

/-! ### expressions -/
def compL (f : Env → DSt → Out (Option Val)) (t : Tg) (e : Env) : List Val → DSt → Out (List Val)
  | [], s => .ok [] s
  | x :: xs, s => match bindT t x e with
    | none => .bad
    | some e' => (f e' s).bind fun o s => (compL f t e xs s).bind fun r s => .ok (match o with | some y => y :: r | none => r) s

def asOpt : Val → Option (Option Int)
  | .int i => some (some i)
  | _ => none

mutual
def ev (cf : Nat → List Val → DSt → Out Val) : Ex → Env → DSt → Out Val
  | .var i, e, s => match e[i]? with
    | some (some v) => .ok v s
    | _ => .bad
  | .cst v, _, s => .ok v s
  | .glb _ v, _, s => .ok v s
  | .bin k a b, e, s => (ev cf a e s).bind fun x s => (ev cf b e s).bind fun y s => lift (vbin k x y) s
  | .neg a, e, s => (ev cf a e s).bind fun x s => match x with
    | .int i => .ok (.int (-i)) s
    | _ => .bad
  | .not a, e, s => (ev cf a e s).bind fun x s => match x with
    | .bl b => .ok (.bl (!b)) s
    | _ => .bad
  | .and a b, e, s => (ev cf a e s).bind fun x s => match x with
    | .bl true => ev cf b e s
    | .bl false => .ok (.bl false) s
    | _ => .bad
  | .or a b, e, s => (ev cf a e s).bind fun x s => match x with
    | .bl false => ev cf b e s
    | .bl true => .ok (.bl true) s
    | _ => .bad
  | .cmp k a b, e, s => (ev cf a e s).bind fun x s => (ev cf b e s).bind fun y s => lift ((vcmp k x y).map .bl) s
  | .chain k k' a b c, e, s => (ev cf a e s).bind fun x s => (ev cf b e s).bind fun y s => match vcmp k x y with
    | some true => (ev cf c e s).bind fun z s => lift ((vcmp k' y z).map .bl) s
    | some false => .ok (.bl false) s
    | none => .bad
  | .ite c a b, e, s => (ev cf c e s).bind fun x s => match x with
    | .bl true => ev cf a e s
    | .bl false => ev cf b e s
    | _ => .bad
  | .tup a, e, s => (evs cf a e s).bind fun xs s => .ok (.tup xs) s
  | .list a, e, s => (evs cf a e s).bind fun xs s => .ok (.lst xs) s
  | .idx a i, e, s => (ev cf a e s).bind fun x s => (ev cf i e s).bind fun y s => lift (vidx x y) s
  | .slice a lo hi, e, s => (ev cf a e s).bind fun x s => (evo cf lo e s).bind fun l s => (evo cf hi e s).bind fun h s => lift (vslice x l h) s
  | .rev a, e, s => (ev cf a e s).bind fun x s => match x with
    | .lst xs => .ok (.lst xs.reverse) s
    | _ => .bad
  | .call f a, e, s => (evs cf a e s).bind fun xs s => cf f xs s
  | .bi k a, e, s => (evs cf a e s).bind fun xs s => lift (vbi k xs) s
  | .isinst a t, e, s => (ev cf a e s).bind fun x s => lift ((isty t x).map .bl) s
  | .meth k a b, e, s => (ev cf a e s).bind fun x s => (ev cf b e s).noexc.bind fun y s => lift (vmeth k x y) s
  | .comp t src cond elt, e, s => (evi cf src e s).bind fun xs s =>
    (compL (fun e s => match cond with
      | .no => (ev cf elt e s).bind fun y s => .ok (some y) s
      | _ => (ev cf cond e s).bind fun x s => match x with
        | .bl true => (ev cf elt e s).bind fun y s => .ok (some y) s
        | .bl false => .ok none s
        | _ => .bad) t (wipeE e (slots t)) xs s).noexc.bind fun ys s => .ok (.lst ys) s
  | .range1 a, e, s => (ev cf a e s).bind fun x s => match x with
    | .int n => if n ≤ lim ∧ -1000000 ≤ n then .ok (.lst (rangeL 0 n.toNat)) s else .bad
    | _ => .bad
  | .range2 a b, e, s => (ev cf a e s).bind fun x s => (ev cf b e s).bind fun y s => match x, y with
    | .int m, .int n => if n ≤ lim ∧ -1000000 ≤ n ∧ m ≤ lim ∧ 0 ≤ m then .ok (.lst (rangeL m (n - m).toNat)) s else .bad
    | _, _ => .bad
  | .dnew, _, s => .ok (.dct [] []) s
  | .dget a k x, e, s => (ev cf a e s).bind fun d s => (ev cf k e s).noexc.bind fun q s => (ev cf x e s).noexc.bind fun z s => lift (vget d q z) s
  | .dnewN, _, s => .ok (.dcn [] []) s
  | .dlit k v, e, s => (ev cf k e s).noexc.bind fun q s => (ev cf v e s).noexc.bind fun y s => if isTupK q || isI q then .ok (.dcn [q] [y]) s else .bad
  | .box a, e, s => (ev cf a e s).bind fun d s => if isCell d then .ok (.ref s.st.length) { s with st := s.st ++ [some d] } else .bad
  | .rop k a b c, e, s => (ev cf a e s).bind fun x s => match k with
    | .idx => (ev cf b e s).bind fun y s => lift (vrop s .idx x y .non) s
    | .isIn => (ev cf b e s).bind fun y s => lift (vrop s .isIn x y .non) s
    | .notIn => (ev cf b e s).bind fun y s => lift (vrop s .notIn x y .non) s
    | .get => if isDcn (der s x) then (ev cf b e s).noexc.bind fun y s => (ev cf c e s).noexc.bind fun z s => lift (vrop s .get x y z) s else .bad
    | k => lift (vrop s k x .non .non) s
  | .isexc a c, e, s => (ev cf a e s).bind fun x s => lift (visx c x) s
  | .nil, _, _ => .bad
  | .cons _ _, _, _ => .bad
  | .no, _, _ => .bad
  | .enum _, _, _ => .bad
  | .zip _ _, _, _ => .bad
  | .enumZip _ _, _, _ => .bad
/-- arguments -/
def evs (cf : Nat → List Val → DSt → Out Val) : Ex → Env → DSt → Out (List Val)
  | .nil, _, s => .ok [] s
  | .cons a r, e, s => (ev cf a e s).bind fun x s => (evs cf r e s).bind fun xs s => .ok (x :: xs) s
  | _, _, _ => .bad
/-- an end of a slice -/
def evo (cf : Nat → List Val → DSt → Out Val) : Ex → Env → DSt → Out (Option Int)
  | .no, _, s => .ok none s
  | .cons a .nil, e, s => (ev cf a e s).bind fun x s => lift (asOpt x) s
  | _, _, _ => .bad
/-- what is walked -/
def evi (cf : Nat → List Val → DSt → Out Val) : Ex → Env → DSt → Out (List Val)
  | .enum a, e, s => (ev cf a e s).bind fun x s => match x with
    | .lst xs => .ok (enumV xs) s
    | _ => .bad
  | .zip a b, e, s => (ev cf a e s).bind fun x s => (ev cf b e s).bind fun y s => match x, y with
    | .lst xs, .lst ys => .ok (zipV xs ys) s
    | _, _ => .bad
  | .enumZip a b, e, s => (ev cf a e s).bind fun x s => (ev cf b e s).bind fun y s => match x, y with
    | .lst xs, .lst ys => .ok (enumV (zipV xs ys)) s
    | _, _ => .bad
  | .cons a .nil, e, s => (ev cf a e s).bind fun x s => match x with
    | .lst xs => .ok xs s
    | .tup xs => .ok xs s
    | _ => .bad
  | _, _, _ => .bad
end

/-! ### statements -/
inductive OutS where
  | next (e : Env) (s : DSt)
  | ret (v : Val) (s : DSt)
  | brk (e : Env) (s : DSt)
  | cont (e : Env) (s : DSt)
  | exc (c : Nat) (e : Env) (s : DSt)
  | bad

def Out.thenS {α : Type} (x : Out α) (e : Env) (f : α → DSt → OutS) : OutS :=
  match x with
  | .ok a s => f a s
  | .exc c s => .exc c e s
  | .bad => .bad
@[simp] theorem Out.thenS_ok {α : Type} (a : α) (s : DSt) (e : Env) (f : α → DSt → OutS) : (Out.ok a s).thenS e f = f a s := rfl
@[simp] theorem Out.thenS_exc {α : Type} (c : Nat) (s : DSt) (e : Env) (f : α → DSt → OutS) : (Out.exc c s : Out α).thenS e f = .exc c e s := rfl
@[simp] theorem Out.thenS_bad {α : Type} (e : Env) (f : α → DSt → OutS) : (Out.bad : Out α).thenS e f = .bad := rfl

def augI : BinK → Int → Int → Option Int
  | .add, x, y => some (x + y)
  | .sub, x, y => some (x - y)
  | _, _, _ => none
def nextIf (o : Option Env) (s : DSt) : OutS :=
  match o with
  | some e => .next e s
  | none => .bad
@[simp] theorem nextIf_some (e : Env) (s : DSt) : nextIf (some e) s = .next e s := rfl
@[simp] theorem nextIf_none (s : DSt) : nextIf none s = .bad := rfl
def setE (e : Env) (i : Nat) (v : Val) : Option Env := if i < e.length then some (e.set i (some v)) else none

def forL (t : Tg) (body : Env → DSt → OutS) : List Val → Env → DSt → OutS
  | [], e, s => .next e s
  | x :: xs, e, s => match bindT t x e with
    | none => .bad
    | some e' => match body e' s with
      | .next e s => forL t body xs e s
      | .cont e s => forL t body xs e s
      | .brk e s => .next e s
      | .ret v s => .ret v s
      | .exc c e s => .exc c e s
      | .bad => .bad
def whileL (test : Env → DSt → Out Val) (body : Env → DSt → OutS) : Nat → Env → DSt → OutS
  | 0, _, _ => .bad
  | n + 1, e, s => (test e s).thenS e fun x s => match x with
    | .bl true => match body e s with
      | .next e s => whileL test body n e s
      | .cont e s => whileL test body n e s
      | .brk e s => .next e s
      | .ret v s => .ret v s
      | .exc c e s => .exc c e s
      | .bad => .bad
    | .bl false => .next e s
    | _ => .bad

def exec (cf : Nat → List Val → DSt → Out Val) : Sx → Env → DSt → OutS
  | .nil, e, s => .next e s
  | .seq a r, e, s => match exec cf a e s with
    | .next e s => exec cf r e s
    | x => x
  | .asg i a, e, s => (ev cf a e s).thenS e fun x s => nextIf (setE e i x) s
  | .own i a, e, s => (ev cf a e s).thenS e fun x s => nextIf (setE e i x) s
  | .asgT t a, e, s => (ev cf a e s).thenS e fun x s => nextIf (bindT t x e) s
  | .par t _ a, e, s => (evs cf a e s).thenS e fun xs s => nextIf (bindTs t xs e) s
  | .aug i k a, e, s => match e[i]? with
    | some (some (.int x)) => (ev cf a e s).thenS e fun y s => match y with
      | .int y => nextIf ((augI k x y).bind fun z => setE e i (.int z)) s
      | _ => .bad
    | _ => .bad
  | .ext i a, e, s => match e[i]? with
    | some (some (.lst xs)) => (ev cf a e s).thenS e fun y s => match y with
      | .lst ys => if xs.length + ys.length ≤ lim then nextIf (setE e i (.lst (xs ++ ys))) s else .bad
      | _ => .bad
    | _ => .bad
  | .append i a, e, s => (ev cf a e s).noexc.thenS e fun y s => match e[i]? with
    | some (some (.lst xs)) => if xs.length < lim then nextIf (setE e i (.lst (xs ++ [y]))) s else .bad
    | _ => .bad
  | .setI i ix a, e, s => (ev cf a e s).thenS e fun y s => (ev cf ix e s).noexc.thenS e fun j s => match e[i]?, j with
    | some (some (.lst xs)), .int j => match place j xs.length with
      | some k => nextIf (setE e i (.lst (xs.set k y))) s
      | none => .bad
    | some (some (.dcn ks vs)), q => if dOk ks q = true ∧ vs.length < lim then nextIf (setE e i (.dcn (dputK ks q) (dputV ks vs q y))) s else .bad
    | _, _ => .bad
  | .dupd i a k v, e, s => (ev cf a e s).noexc.thenS e fun d s => if copyOk d = true ∧ i < e.length then
      (ev cf v (e.set i none) s).noexc.thenS (e.set i none) fun y s => (ev cf k (e.set i none) s).noexc.thenS (e.set i none) fun q s => nextIf ((vput d q y).bind fun z => setE e i z) s
    else .bad
  | .expr a, e, s => (ev cf a e s).thenS e fun _ s => .next e s
  | .ite c t f, e, s => (ev cf c e s).thenS e fun x s => match x with
    | .bl true => exec cf t e s
    | .bl false => exec cf f e s
    | _ => .bad
  | .forS t src b, e, s => (evi cf src e s).thenS e fun xs s => forL t (exec cf b) xs e s
  | .whileS n c b, e, s => whileL (ev cf c) (exec cf b) n e s
  | .ret a, e, s => (ev cf a e s).thenS e fun x s => .ret x s
  | .brk, e, s => .brk e s
  | .cont, e, s => .cont e s
  | .raise c, e, s => .exc c e s
  | .freeze _, e, s => .next e s
  | .appR r a, e, s => (ev cf r e s).thenS e fun x s => if isLst (der s x) then (ev cf a e s).noexc.thenS e fun y s => match x with
    | .ref i => match s.st[i]? with
      | some (some (.lst xs)) => if xs.length < lim then .next e { s with st := s.st.set i (some (.lst (xs ++ [y]))) } else .bad
      | _ => .bad
    | _ => .bad
    else .bad
  | .setR i ix a, e, s => (ev cf a e s).thenS e fun y s => (ev cf ix e s).noexc.thenS e fun q s => match e[i]? with
    | some (some (.ref n)) => match s.st[n]? with
      | some (some (.dcn ks vs)) => if dOk ks q = true ∧ vs.length < lim then .next e { s with st := s.st.set n (some (.dcn (dputK ks q) (dputV ks vs q y))) } else .bad
      | _ => .bad
    | _ => .bad
  | .frz i, e, s => match e[i]? with
    | some (some (.ref n)) => match frzL [.ref n] s with
      | some ([d], s) => nextIf (setE e i d) s
      | _ => .bad
    | some (some (.lst xs)) => match frzL xs s with
      | some (ys, s) => nextIf (setE e i (.lst ys)) s
      | none => .bad
    | _ => .bad
  | .tryS b i j, e, s => match exec cf b e s with
    | .exc c e s => if c < 7 then nextIf ((setE e i (.exc c)).bind fun e => if j < e.length then some (e.set j none) else none) s else .bad
    | x => x

/-! ### defs -/
inductive Fn where
  /-- so many parameters, so many names, the body -/
  | code (np ns : Nat) (b : Sx)
  | prim (f : List Val → DSt → Out Val)

def runBody (cf : Nat → List Val → DSt → Out Val) (np ns : Nat) (b : Sx) (xs : List Val) (s : DSt) : Out Val :=
  if xs.length = np then
    match exec cf b (xs.map some ++ List.replicate (ns - np) none) s with
    | .next _ s => .ok .non s
    | .ret v s => .ok v s
    | .exc c _ s => .exc c s
    | _ => .bad
  else .bad

def run (tb : Nat → Option Fn) : Nat → Nat → List Val → DSt → Out Val
  | 0, _, _, _ => .bad
  | n + 1, f, xs, s => match tb f with
    | some (.code np ns b) => runBody (run tb n) np ns b xs s
    | some (.prim p) => p xs s
    | none => .bad

/-! the law's own two -/
def drawOf (cell : Int) (cnt limit : Int) : Int × Int :=
  if cell ≥ 1000000000000000000 then (cell % limit, cell / limit)
  else
    let m := (cell + 104729 * cnt) % 4294967291
    let m := m ^ 5 % 4294967279
    ((m / 64 * 69621 + m) % 4294967231 / 8 % limit, cell)
def pDraw : List Val → DSt → Out Val
  | [.drw, .int limit], ⟨some (ns, c), st⟩ =>
    if 0 < limit ∧ limit < 1000000000 ∧ 0 ≤ c ∧ c < 100000000 ∧ 0 < ns.length then
      let at_ := ((c + 1) % ns.length).toNat
      let r := drawOf (ns.getD at_ 0) (c + 1) limit
      .ok (.int r.1) ⟨some (ns.set at_ r.2, c + 1), st⟩
    else .bad
  | _, _ => .bad
def pStart : List Val → DSt → Out Val
  | [.scr ns], ⟨none, st⟩ => .ok .drw ⟨some (if ns = [] then [0] else ns, 0), st⟩
  | _, _ => .bad

end BG

/-! BG.DNd: dicts whose keys are nested tuples of numbers: how they stand in the abstract heap. -/
namespace BG
open PySem PySem.Spec PyProof.Rows L2
mutual
def nk : Val → NestedKey
  | .int i => .num i
  | .tup xs => .tup (nks xs)
  | _ => .none
def nks : List Val → List NestedKey
  | [] => []
  | x :: xs => nk x :: nks xs
end
mutual
def kh : NestedKey → Int
  | .none => reduceHash 0xFCA86420
  | .num i => hashInt i
  | .text _ => 0
  | .tup ks => reduceHash (Builtin.Tuple.tupleHashOf (khs ks))
def khs : List NestedKey → List Int
  | [] => []
  | k :: ks => kh k :: khs ks
end
mutual
def noT : NestedKey → Bool
  | .none => true
  | .num _ => true
  | .text _ => false
  | .tup ks => noTs ks
def noTs : List NestedKey → Bool
  | [] => true
  | k :: ks => noT k && noTs ks
end
mutual
theorem kh_eq (w : World) : ∀ k : NestedKey, noT k = true → k.hash w = kh k
  | .none, _ => by simp only [NestedKey.hash, kh]
  | .num _, _ => by simp only [NestedKey.hash, kh]
  | .text _, h => by simp [noT] at h
  | .tup ks, h => by
    simp only [noT] at h
    simp only [NestedKey.hash, kh, khs_eq w ks h]
theorem khs_eq (w : World) : ∀ ks : List NestedKey, noTs ks = true → NestedKey.hashes w ks = khs ks
  | [], _ => by simp only [NestedKey.hashes, khs]
  | k :: ks, h => by
    simp only [noTs, Bool.and_eq_true] at h
    simp only [NestedKey.hashes, khs, kh_eq w k h.1, khs_eq w ks h.2]
end
mutual
theorem noT_nk : ∀ v : Val, noT (nk v) = true
  | .int _ => by simp only [nk, noT]
  | .tup xs => by simp only [nk, noT, noT_nks xs]
  | .non => by simp only [nk, noT]
  | .bl _ => by simp only [nk, noT]
  | .str _ => by simp only [nk, noT]
  | .lst _ => by simp only [nk, noT]
  | .drw => by simp only [nk, noT]
  | .scr _ => by simp only [nk, noT]
  | .dct _ _ => by simp only [nk, noT]
  | .dcn _ _ => by simp only [nk, noT]
  | .ref _ => by simp only [nk, noT]
  | .exc _ => by simp only [nk, noT]
theorem noT_nks : ∀ vs : List Val, noTs (nks vs) = true
  | [] => by simp only [nks, noTs]
  | v :: vs => by simp only [nks, noTs, noT_nk v, noT_nks vs, Bool.and_self]
end
mutual
theorem depth_nk : ∀ v : Val, (nk v).depth ≤ dep v
  | .int _ => by simp only [nk, NestedKey.depth]; omega
  | .tup xs => by
    have := depth_nks xs
    simp only [nk, NestedKey.depth, dep]
    omega
  | .non => by simp only [nk, NestedKey.depth]; omega
  | .bl _ => by simp only [nk, NestedKey.depth]; omega
  | .str _ => by simp only [nk, NestedKey.depth]; omega
  | .lst _ => by simp only [nk, NestedKey.depth]; omega
  | .drw => by simp only [nk, NestedKey.depth]; omega
  | .scr _ => by simp only [nk, NestedKey.depth]; omega
  | .dct _ _ => by simp only [nk, NestedKey.depth]; omega
  | .dcn _ _ => by simp only [nk, NestedKey.depth]; omega
  | .ref _ => by simp only [nk, NestedKey.depth]; omega
  | .exc _ => by simp only [nk, NestedKey.depth]; omega
theorem depth_nks : ∀ vs : List Val, NestedKey.depthAll (nks vs) ≤ deps vs
  | [] => by simp only [nks, NestedKey.depthAll]; omega
  | v :: vs => by
    have h1 := depth_nk v
    have h2 := depth_nks vs
    simp only [nks, NestedKey.depthAll, deps]
    omega
end
mutual
theorem nk_inj : ∀ a b : Val, keyN a = true → keyN b = true → (nk a = nk b ↔ veq a b = true)
  | .int i, b, _, hb => by cases b <;> simp_all [keyN, nk, veq]
  | .non, b, _, hb => by cases b <;> simp_all [keyN, nk, veq]
  | .tup xs, b, ha, hb => by
    cases b with
    | tup ys =>
      simp only [keyN] at ha hb
      simp only [nk, veq, NestedKey.tup.injEq]
      exact nks_inj xs ys ha hb
    | int _ => simp [nk, veq]
    | non => simp [nk, veq]
    | _ => simp [keyN] at hb
  | .bl _, _, ha, _ => by simp [keyN] at ha
  | .str _, _, ha, _ => by simp [keyN] at ha
  | .lst _, _, ha, _ => by simp [keyN] at ha
  | .drw, _, ha, _ => by simp [keyN] at ha
  | .scr _, _, ha, _ => by simp [keyN] at ha
  | .dct _ _, _, ha, _ => by simp [keyN] at ha
  | .dcn _ _, _, ha, _ => by simp [keyN] at ha
  | .ref _, _, ha, _ => by simp [keyN] at ha
  | .exc _, _, ha, _ => by simp [keyN] at ha
theorem nks_inj : ∀ xs ys : List Val, keyNs xs = true → keyNs ys = true → (nks xs = nks ys ↔ veqs xs ys = true)
  | [], [], _, _ => by simp [nks, veqs]
  | [], _ :: _, _, _ => by simp [nks, veqs]
  | _ :: _, [], _, _ => by simp [nks, veqs]
  | x :: xs, y :: ys, h, g => by
    simp only [keyNs, Bool.and_eq_true] at h g
    simp only [nks, veqs, List.cons.injEq, Bool.and_eq_true, nk_inj x y h.1 g.1, nks_inj xs ys h.2 g.2]
end
theorem isTupK_key {v : Val} (h : isTupK v = true) : keyN v = true ∧ (nk v).depth ≤ 8 := by
  unfold isTupK at h
  split at h
  · rename_i xs
    simp only [Bool.and_eq_true, decide_eq_true_eq] at h
    refine ⟨h.1, ?_⟩
    have := depth_nks xs
    simp only [nk, NestedKey.depth]
    omega
  · cases h
/-- an entry: the key, where its tuple stands, the value -/
abbrev EN := NestedKey × Addr × V
def rEN (x : EN) (y : NestedKey × Addr × Value) : Prop := x.1 = y.1 ∧ x.2.1 = y.2.1 ∧ RelV x.2.2 y.2.2
def entN (y : NestedKey × Addr × Value) : DictEntry := ⟨kh y.1, .ref y.2.1, y.2.2⟩
def DNφ (a : Addr) (xs : List EN) (h : Heap) : Prop := xs.length ≤ sizeLine ∧ (a == sysModules) = false ∧ ∃ ys, Paired rEN xs ys ∧ ∃ o es ep, h.get? a = some o ∧ o.ExactDict ∧ o.data = .dict es ep ∧ es.toList = ys.map entN ∧ (ys.map (·.1)).Nodup
/-- a dict with nested keys -/
def DN (a : Addr) (xs : List EN) : HO := .ext (DNφ a xs)
theorem dn_new {P : Program} {w : World} {H : Hp} {h : Heap} {a : Addr} {xs : List EN} (q : DNφ a xs h) : ObjOk P w H h a (DN a xs) := by
  refine ⟨q, ?_, fun h1 h2 p k => ?_⟩
  · obtain ⟨_, _, _, _, o, _, _, ho, _⟩ := q
    exact ⟨o, ho⟩
  · obtain ⟨z, hd, ys, r, o, es, ep, ho, rest⟩ := p
    exact ⟨z, hd, ys, r, o, es, ep, k o ho, rest⟩
theorem dn_get {P : Program} {w : World} {H : Hp} {h : Heap} {a : Addr} {xs : List EN} (ok : HOk P w H h) (e : H a = some (DN a xs)) : DNφ a xs h := (ok a _ e).1
/-- the entries as the library's -/
theorem ent_eq {P : Program} {w : World} {ys : List (NestedKey × Addr × Value)} (h : ∀ y ∈ ys, noT y.1 = true) : ys.map entN = ys.map (entryOfKey (nestedKind P w)) := by
  apply List.map_congr_left
  intro y hy
  show (⟨kh y.1, .ref y.2.1, y.2.2⟩ : DictEntry) = ⟨y.1.hash w, .ref y.2.1, y.2.2⟩
  rw [kh_eq w y.1 (h y hy)]
end BG

/-! BG.Xc: exceptions that are caught and kept. -/
namespace BG
open PySem PySem.Spec PyProof.Rows L2
abbrev St := L2.St
/-- the names of the exceptions' classes -/
def xname : Nat → Str
  | 0 => "BadPredictor" | 1 => "BadRow" | 2 => "BadNet" | 3 => "BadProgram" | 4 => "BadNumber" | 5 => "BadText" | 6 => "NotFound" | _ => "GuessError"
abbrev xcA (K : PySem.W.Frag) (c : Nat) : Addr := He.ga K (xname c)
/-- an exception object of the class cls, at a, that was caught -/
def ExH (cls : Value) (a : Addr) : HO := .ext fun h => ∃ (oe : Obj) (vs : Array Value), h.get? a = some oe ∧ Zc cls none oe ∧ oe.data = .fields vs
theorem exH_ok {P : Program} {w : World} {H : Hp} {h : Heap} {a : Addr} {cls : Value} {ob : Obj} {vs : Array Value} (g : h.get? a = some ob) (zc : Zc cls none ob) (dt : ob.data = .fields vs) : ObjOk P w H h a (ExH cls a) :=
  ⟨⟨ob, vs, g, zc, dt⟩, ⟨ob, g⟩, fun _ _ ⟨u, us, r1, r2⟩ kp => ⟨u, us, kp u r1, r2⟩⟩
/-- an object that is none of ours -/
structure Apart (X : Cx) (pins : List (Addr × Obj)) (a : Addr) : Prop where
  s0 : X.s_0.heap.get? a = none
  lo : a ≠ X.env.locals
  fs : a ∉ X.fs
  ce : ∀ y c, X.env.cells.lookup y = some c → c ≠ a
  pi : ∀ p ∈ X.pn ++ pins, p.1 ≠ a
section
variable {X : Cx} {pins : List (Addr × Obj)} {σ : St} {H : Hp} {s : Shared} {a : Addr}
theorem apart_of (fr : X.env.frame = some X.env.locals) (hex : X.ex = []) (I : Inv X pins σ H s) (ha : s.heap.get? a = none) (hn : a ∉ frs (X.env :: X.outer)) : Apart X pins a where
  s0 := Option.eq_none_iff_forall_not_mem.mpr fun o q => by
    obtain ⟨o', z⟩ := I.base.there a o q (by rw [hex]; exact List.not_mem_nil)
    rw [ha] at z
    cases z
  lo := fun z => hn (List.mem_filterMap.mpr ⟨X.env, .head _, by rw [fr, z]⟩)
  fs := fun z => by
    obtain ⟨en, h1, h2⟩ := List.mem_filterMap.mp z
    exact hn (List.mem_filterMap.mpr ⟨en, .tail _ h1, h2⟩)
  ce := fun y c q z => by
    obtain ⟨_, _, g, _⟩ := I.cell y c q
    rw [z, ha] at g
    cases g
  pi := fun p hp z => by
    have g := (I.pin p hp).1
    rw [z, ha] at g
    cases g
/-- it is tracked from here on -/
theorem Inv.track {o : HO} (I : Inv X pins σ H s) (A : Apart X pins a) (hn : H a = none) (new : ObjOk X.prog X.w (L2.upd H a o) s.heap a o) : Inv X pins σ (L2.upd H a o) s := by
  have far : ∀ {b : Addr} {u : HO}, H b = some u → L2.upd H a o b = some u := fun {b u} q => by rw [upd_ne (ne_of_none q hn)]; exact q
  have off : ∀ {b : Addr}, b ≠ a → H b = none → L2.upd H a o b = none := fun {b} n q => by rw [upd_ne n]; exact q
  have base : Un X.fs X.ex X.H_0 (L2.upd H a o) X.s_0.heap s.heap := {
    keep := I.base.keep
    slot := I.base.slot
    free := fun b u q r t => off (fun z => by rw [z, A.s0] at q; cases q) (I.base.free b u q r t)
    there := I.base.there
    tups := fun b xs q => far (I.base.tups b xs q)
    frzs := fun b u xs q => far (I.base.frzs b u xs q)
    tbls := fun b ps q => (I.base.tbls b ps q).imp fun _ r => far r }
  refine ⟨I.ok, I.os, I.bare, base, I.loc, I.cell, off (Ne.symm A.lo) I.free, fun x c q => off (A.ce x c q) (I.freeC x c q), fun p hp => ⟨(I.pin p hp).1, off (A.pi p hp) (I.pin p hp).2.1, (I.pin p hp).2.2⟩, fun b u q => ?_, I.len⟩
  by_cases hb : b = a
  · subst hb
    rw [upd_same] at q
    cases q
    exact new
  · rw [upd_ne hb] at q
    exact (I.hok b u q).stay (fun _ _ _ r => r) (fun _ r => far r) fun _ _ r => far r
end
/-- what the clause 'except x as n: m = n' wishes of an exception of the body, which it always takes: slot i is m's, slot j n's -/
def wKeep (K : PySem.W.Frag) (c : Value) (i j : Nat) (D : Ends) : WX := fun cls d σ H =>
  PySem.W.exmOne K cls c = some true ∧ d = none ∧ ∀ a, H a = none → D.nx (((σ.set j (some (.ref a))).set i (some (.ref a))).set j none) (L2.upd H a (ExH cls a))
section
variable {X : Cx} {x n m : Str} {c : Value} {i j : Nat} {body : List Stmt} {px pm pn ps pe pos : Pos} {tb : WX → TS} {pins : List (Addr × Obj)} {σ : St} {H : Hp} {a : Addr} {cls : Value} {D : Ends} {E : Value → Shared → Prop}
abbrev keepH (x n m : Str) (px pm pn ps pe : Pos) : ExceptHandler := .ExceptHandler (some (.Name x px)) (some n) [.Assign [.Name m pm] (.Name n pn) ps] pe
/-- the clause's suite: the name is stored, and goes; what is left holds the exception -/
theorem suite_keep {g : Shared} {P : Flow → Shared → Prop} {E1 E2 : Value → Shared → Prop} (hN : X.N.Nodup) (hj : X.N[j]? = some n) (hi : X.N[i]? = some m) (kn : X.env.kindOf n = some .local) (km : X.env.kindOf m = some .local) (d1 : (n == ("__debug__" : Str)) = false) (d2 : (n == ("__classdict__" : Str)) = false)
    (A : Apart X pins a) (na : H a = none) (I : Inv X pins σ H g) {oe : Obj} {vs : Array Value} (ho : g.heap.get? a = some oe) (hz : Zc cls none oe) (hd : oe.data = .fields vs)
    (fin : D.nx (((σ.set j (some (.ref a))).set i (some (.ref a))).set j none) (L2.upd H a (ExH cls a)))
    (hP : ∀ s6, wpAny (model X.prog X.w) X.A (do bindName X.env n .none; unbindBehindTheSuite X.env n pe) (fun _ s7 => SP X pins D .next s7) X.xe s6 → P .next s6) :
    wpAny (model X.prog X.w) (X.A.mark (some (.ref a))) (storeName X.env n (.ref a)) (fun _ s2 => wpAny (model X.prog X.w) (X.A.mark (some (.ref a))) (execs [.Assign [.Name m pm] (.Name n pn) ps] X.env) P E2 s2) E1 g := by
  have ok := I.ok
  let Y : Cx := X.suite a ((a, oe) :: (X.pn ++ pins))
  have IY : Inv Y [] σ H g := I.suite ho hd na A.lo A.fs
  refine store_ok (X := Y) (v := .ref a) IY hN hj (.inl kn) rfl (fun s5 I5 => ?_) (.inr kn)
  have jl : j < σ.length := by
    rw [I.len]
    exact (List.getElem?_eq_some_iff.mp hj).1
  have one : PSs Y [.Assign [.Name m pm] (.Name n pn) ps] (tAsg (tVar j) (gName i)) := pss_one (ps_set (X := Y) hN hi (.inl km) (pe_var (X := Y) hj (.inl kn) d1 d2) rfl (.inr km))
  refine wpAny_mono (one.run [] s5 _ H { nx := fun σ6 H6 => σ6 = (σ.set j (some (.ref a))).set i (some (.ref a)) ∧ H6 = H, rt := fun _ _ => False, bk := fun _ _ => False, ct := fun _ _ => False } I5 ⟨.ref a, List.getElem?_set_self jl, rfl, rfl⟩) (fun f s6 q => ?_) fun _ _ z => z.elim
  match f, q with
  | .next, ⟨_, _, I6, rfl, rfl⟩ =>
    refine hP s6 (gone_ok (X := Y) I6 hN hj kn fun s7 I7 => ?_)
    have at7 := (I7.pin (a, oe) (List.mem_append_left _ (.head _))).1
    exact ⟨_, _, Inv.track (I7.unsuite ok) A na (exH_ok at7 hz hd), fin⟩
  | .brk, ⟨_, _, _, z⟩ => exact z.elim
  | .cont, ⟨_, _, _, z⟩ => exact z.elim
  | .ret _, ⟨_, _, _, _, _, z⟩ => exact z.elim
/-- the clause meets an exception that has landed in the frame -/
theorem clause_keep {B : Heap} {sI g : Shared} {h : Heap} (stk : X.stack = X.env :: X.outer) (fr : X.env.frame = some X.env.locals) (hex : X.ex = []) (hN : X.N.Nodup) (hj : X.N[j]? = some n) (hi : X.N[i]? = some m) (kn : X.env.kindOf n = some .local) (km : X.env.kindOf m = some .local) (d1 : (n == ("__debug__" : Str)) = false) (d2 : (n == ("__classdict__" : Str)) = false)
    (nm : Names X x c) (em : PySem.W.exmOne X.K cls c = some true) (J : Inv X pins σ H sI) (nb : ∀ b o, sI.heap.get? b = some o → b ∉ frs X.stack → B.get? b = some o) (up : sI.heap.UpToSlots h) (fl : HandSPX.FlyingZ B (X.env :: X.outer) a (Zc cls none) h) (os : g.os = sI.os) (ag : AllBare g.gens) (na : H a = none)
    (fin : D.nx (((σ.set j (some (.ref a))).set i (some (.ref a))).set j none) (L2.upd H a (ExH cls a))) :
    wpAny (model X.prog X.w) X.A (handleBy (.ref a) X.env [keepH x n m px pm pn ps pe]) (SP X pins D) X.xe { g with heap := h } := by
  have inv : ∀ {h' : Heap}, HandSPX.FlyingZ B (X.env :: X.outer) a (Zc cls none) h' → sI.heap.UpToSlots h' → Inv X pins σ H { g with heap := h' } := fun f u => J.landed (s' := { g with heap := _ }) nb f.1 u os ag
  obtain ⟨ob, flds, g1, g2, g3⟩ := fl.there
  have far : a ∉ frs (X.env :: X.outer) := fun q => by
    obtain ⟨_, ob', e1, e2⟩ := fl.2.2.1.mem q
    rw [g1] at e1
    cases e1
    exact e2 _ g3
  have new : sI.heap.get? a = none := Option.eq_none_iff_forall_not_mem.mpr fun o q => by
    have z := nb a o q (by rw [stk]; exact far)
    rw [fl.2.1] at z
    cases z
  have A : Apart X pins a := apart_of fr hex J new far
  have I1 := inv fl up
  let Y : Cx := X.suite a ((a, ob) :: (X.pn ++ pins))
  have IY : Inv Y [] σ H { g with heap := h } := I1.suite g1 g3 na A.lo A.fs
  have ty : PySem.W.Looks (model X.prog X.w) h (typeOf (.ref a)) cls := fun _ _ _ _ kp q => wpAny_typeOf_ref (kp _ _ g1) (by rw [g2.1]; exact q)
  have mt := PySem.W.exm_one (M := model X.prog X.w) I1.kIn ty em
  refine wpAny_handleBy_cons (codeAny_handlers_test ?_) (fun q => nomatch q)
  have go : ∀ {Q E : Value → Shared → Prop}, Q c { g with heap := h } → wpAny (model X.prog X.w) (X.A.mark (some (.ref a))) (eval (.Name x px) X.env) Q E { g with heap := h } := by
    intro Q E q
    rcases nm with ⟨n1, n2, n3 | ⟨n3, n4, n5⟩⟩
    · exact ld_glob (X := Y) IY n1 n3 q n2
    · exact ld_blt (X := Y) IY n1 n3 n4 q n5 n2
  refine go (mt.here (codeAny_handlers_suite_as (HandSPX.lands_againZ fl fun h4 fl4 up4 => ?_)))
  obtain ⟨ob4, flds4, c1, c2, c3⟩ := fl4.there
  exact suite_keep hN hj hi kn km d1 d2 A na (inv fl4 (up.trans up4)) c1 c2 c3 fin fun s6 q => q
/-- try: body / except x as n: m = n -/
theorem ps_try_keep (stk : X.stack = X.env :: X.outer) (fr : X.env.frame = some X.env.locals) (hex : X.ex = []) (hN : X.N.Nodup) (hj : X.N[j]? = some n) (hi : X.N[i]? = some m) (kn : X.env.kindOf n = some .local) (km : X.env.kindOf m = some .local) (d1 : (n == ("__debug__" : Str)) = false) (d2 : (n == ("__classdict__" : Str)) = false) (nm : Names X x c)
    (hb : ∀ (W : WX) (ps : List (Addr × Obj)) (xe : Value → Shared → Prop), Takes (X.tr ps xe) W → PassesOwn (model X.prog X.w) X.A X.env xe → PSs (X.tr ps xe) body (tb W)) :
    PS X (.Try body [keepH x n m px pm pn ps pe] [] [] pos) (fun D σ H => tb (wKeep X.K c i j D) D σ H) := by
  refine ⟨fun pins s σ H D I h => wpAny_Try_except ?_⟩
  have ok := I.ok
  have frm : X.A.frames = some (X.env :: X.outer) := by rw [ok.frames, stk]
  let air : Value → Shared → Prop := fun e s1 => wpAny (model X.prog X.w) X.A (noteFrame e X.env) (fun _ s2 => wpAny (model X.prog X.w) X.A (setFlight e none) (fun _ s3 => wpAny (model X.prog X.w) X.A (handleBy e X.env [keepH x n m px pm pn ps pe]) (SP X pins D) X.xe s3) X.xe s2) X.xe s1
  have tk : Takes (X.tr (X.pn ++ pins) air) (wKeep X.K c i j D) := by
    intro u s' ⟨a, B, sI, pins', σ', H', cls, d, eu, J, nb, up, sky, na, os, ag, em, ed, fin⟩
    subst eu ed
    have sky' : Sky B (X.env :: X.outer) a (Zc cls none) X.env.locals s'.heap := by rw [← stk]; exact sky
    exact Sky.land Zc.steady frm fr sky' fun h3 fl3 up3 => clause_keep stk fr hex hN hj hi kn km d1 d2 nm em (J.ofTry ok) nb (up.trans up3) fl3 os ag na (fin a na)
  refine wpAny_mono ((hb _ _ _ tk PassesOwn.looking).run [] s σ H D (I.toTry _) h) (fun f s1 q => ?_) fun _ _ q => q
  match f, q with
  | .next, ⟨σ', H', J, q⟩ => exact wpAny_execs_nil ⟨σ', H', J.ofTry ok, q⟩
  | .brk, ⟨σ', H', J, q⟩ => exact ⟨σ', H', J.ofTry ok, q⟩
  | .cont, ⟨σ', H', J, q⟩ => exact ⟨σ', H', J.ofTry ok, q⟩
  | .ret _, ⟨v, σ', H', J, r, q⟩ => exact ⟨v, σ', H', J.ofTry ok, r, q⟩
end
/-- isinstance(e, c), e a kept exception -/
def rIsH (K : PySem.W.Frag) : List V → Hp → VK → Prop := fun xs H Q => ∃ (a D : Addr) (c : V) (cv : Value) (b : Bool), xs = [.ref a, c] ∧ H a = some (ExH (.ref D) a) ∧ ExcC K D ∧ (∀ u, RelV c u → u = cv) ∧ PySem.W.kitOne K (.ref D) cv = some b ∧ Q (.bl b) H
theorem call_isH {X : Cx} : CallR X (.builtin "isinstance") (rIsH X.K) := by
  intro pins s σ H xs us Q I r ⟨a, D, c, cv, b, ex, ha, C, hcv, e, q⟩
  subst ex
  match us, r with
  | [_, u], .cons rfl (.cons rt .nil) =>
    cases hcv u rt
    obtain ⟨⟨⟨oc, od, odt, osl⟩, vs, g1, ⟨g2, g3⟩, g4⟩, _, _⟩ := I.hok a _ ha
    dsimp only at g2 g3 g4
    subst g2 g3 g4
    exact PySem.W.kia_one (PySem.W.handS_kitx_exc C.hg C.hk C.hs C.hd C.ha C.hn C.ht C.hm) I.kIn ⟨g1, rfl, rfl, trivial⟩ e (fun z => nomatch z) fun tk => ⟨.bl b, H, I.kept (t' := tk) fun _ _ z => z, rfl, q⟩
/-! ### a def without parameters, called -/
def tCall0S (sp : Sp) (E : St → XK) : TE := fun σ H Q => sp [] H Q (E σ)
theorem pe_call0S {X : Cx} {CX : CXT} {k : Nat} {f : Addr} {fd : FuncData} {ps : List Str} {sp : Sp} {E : St → XK} {x : Str} {p pos : Pos} (F : FnOk X.prog X.w X.K X.mg X.base CX k f fd ps sp) (hr : Room k X.A) (hg : Gl X x) (hm : X.mg x = some (.ref f)) (hk : PySem.W.keepIn X.K (.ref f) = true) (hb : Binds X.K fd ps []) (hx : ∀ σ, PassesAt CX X σ (E σ))
    (nd : (x == ("__debug__" : Str)) = false := by decide) : PE X (.Call (.Name x p) [] [] pos) (tCall0S sp E) :=
  ⟨fun pins s σ H Q I h => wpAny_Call_Name_kw (ld_glob I hg hm (PySem.W.callWith_K0 I.kIn hk (run_fnS (us := []) F hr hb (hx σ) I .nil h)) nd)⟩
end BG

/-! BG.Rep: how values stand in the abstract heap of the hand layer. -/
namespace BG
open PySem PySem.Spec PyProof.Rows L2

/-- where the law's own objects stand: the draws, the cells (none: dead) -/
structure Dr where
  dw : Option (Addr × Addr)
  cs : List (Option Addr)
abbrev dr0 : Dr := ⟨none, []⟩
def keyI (k : List Int) : List Key := k.map Sum.inl
def kI : Val → Key
  | .int i => .inl i
  | _ => .inl 0

mutual
inductive Rp (K : PySem.W.Frag) (dr : Dr) (R : Hp) : V → Val → Prop
  | non : Rp K dr R .non .non
  | bl (b : Bool) : Rp K dr R (.bl b) (.bl b)
  | int (i : Int) : Rp K dr R (.int i) (.int i)
  | str (cs : List Nat) (h : cs.all (fun c => decide (c < 1114112)) = true) (hl : cs.length ≤ lim) : Rp K dr R (.str ⟨cs.toArray⟩) (.str cs)
  | tup {a : Addr} {xs : List V} {ds : List Val} (h : R a = some (.tup xs)) (hs : RpAll K dr R xs ds) (hl : ds.length ≤ lim) : Rp K dr R (.ref a) (.tup ds)
  | lst {a : Addr} {xs : List V} {ds : List Val} (h : R a = some (.lst xs)) (hs : RpAll K dr R xs ds) (hl : ds.length ≤ lim) : Rp K dr R (.ref a) (.lst ds)
  | drw {a b : Addr} (h : dr.dw = some (a, b)) : Rp K dr R (.ref a) .drw
  | scr {a : Addr} {ns : List Int} (h : SqL K R a (ns.map V.int)) : Rp K dr R (.ref a) (.scr ns)
  | dct {a : Addr} {ps : List (List Key × V)} {ks : List (List Int)} {vs : List Val} (h : R a = some (.dT ps)) (hk : ps.map (fun p => p.1) = ks.map keyI) (hs : RpAll K dr R (ps.map fun p => p.2) vs) (hl : vs.length ≤ lim) : Rp K dr R (.ref a) (.dct ks vs)
  | dcK {a : Addr} {ps : List (Key × V)} {ks vs : List Val} (h : R a = some (.dK ps)) (hk : ps.map (fun p => p.1) = ks.map kI) (ha : ks.all isI = true) (hn : ks ≠ []) (hs : RpAll K dr R (ps.map fun p => p.2) vs) (hl : vs.length ≤ lim) : Rp K dr R (.ref a) (.dcn ks vs)
  | dcN {a : Addr} {xs : List EN} {ks vs : List Val} (h : R a = some (DN a xs)) (hk : xs.map (fun x => x.1) = nks ks) (ha : ks.all isTupK = true) (hx : RpAll K dr R (xs.map fun x => V.ref x.2.1) ks) (hs : RpAll K dr R (xs.map fun x => x.2.2) vs) (hl : vs.length ≤ lim) : Rp K dr R (.ref a) (.dcn ks vs)
  | cel {a : Addr} {n : Nat} (h : n < dr.cs.length) (ha : ∀ b, dr.cs[n]? = some (some b) → b = a) : Rp K dr R (.ref a) (.ref n)
  | exc {a : Addr} {c : Nat} (h : R a = some (ExH (.ref (xcA K c)) a)) : Rp K dr R (.ref a) (.exc c)
inductive RpAll (K : PySem.W.Frag) (dr : Dr) (R : Hp) : List V → List Val → Prop
  | nil : RpAll K dr R [] []
  | cons {v : V} {vs : List V} {d : Val} {ds : List Val} (h : Rp K dr R v d) (hs : RpAll K dr R vs ds) : RpAll K dr R (v :: vs) (d :: ds)
end

def Sub (R H : Hp) : Prop := ∀ a o, R a = some o → H a = some o
theorem Sub.refl (R : Hp) : Sub R R := fun _ _ h => h
theorem Sub.trans {A B C : Hp} (h : Sub A B) (g : Sub B C) : Sub A C := fun a o e => g a o (h a o e)
/-- the draws stay; cells come, and die -/
structure DrLe (dr dr' : Dr) : Prop where
  dw : ∀ p, dr.dw = some p → dr'.dw = some p
  len : dr.cs.length ≤ dr'.cs.length
  cs : ∀ (i : Nat) a, i < dr.cs.length → dr'.cs[i]? = some (some a) → dr.cs[i]? = some (some a)
theorem DrLe.refl (dr : Dr) : DrLe dr dr := ⟨fun _ h => h, Nat.le_refl _, fun _ _ _ h => h⟩
theorem DrLe.trans {a b c : Dr} (h : DrLe a b) (g : DrLe b c) : DrLe a c := ⟨fun p e => g.dw p (h.dw p e), Nat.le_trans h.len g.len, fun i x l e => h.cs i x l (g.cs i x (Nat.lt_of_lt_of_le l h.len) e)⟩

section
variable {K : PySem.W.Frag} {dr dr' : Dr} {R R' H : Hp}
theorem SqL.sub {a : Addr} {xs : List V} (s : Sub R R') (h : SqL K R a xs) : SqL K R' a xs := by
  rcases h with h | h
  · rcases h with h | ⟨o, h⟩
    · exact .inl (.inl (s _ _ h))
    · exact .inl (.inr ⟨o, s _ _ h⟩)
  · exact .inr h
mutual
theorem Rp.mono (dl : DrLe dr dr') (s : Sub R R') : ∀ (d : Val) {v : V}, Rp K dr R v d → Rp K dr' R' v d
  | .non, _, h => by cases h; exact .non
  | .bl b, _, h => by cases h; exact .bl b
  | .int i, _, h => by cases h; exact .int i
  | .str cs, _, h => by cases h with | str _ h hl => exact .str cs h hl
  | .tup ds, _, h => by cases h with | tup h hs hl => exact .tup (s _ _ h) (RpAll.mono dl s ds hs) hl
  | .lst ds, _, h => by cases h with | lst h hs hl => exact .lst (s _ _ h) (RpAll.mono dl s ds hs) hl
  | .drw, _, h => by cases h with | drw h => exact .drw (dl.dw _ h)
  | .ref n, _, h => by cases h with | cel h ha => exact .cel (Nat.lt_of_lt_of_le h dl.len) fun b q => ha b (dl.cs n b h q)
  | .exc c, _, h => by cases h with | exc h => exact .exc (s _ _ h)
  | .scr ns, _, h => by cases h with | scr h => exact .scr (SqL.sub s h)
  | .dct ks vs, _, h => by cases h with | dct h hk hs hl => exact .dct (s _ _ h) hk (RpAll.mono dl s vs hs) hl
  | .dcn ks vs, _, h => by
    cases h with
    | dcK h hk ha hn hs hl => exact .dcK (s _ _ h) hk ha hn (RpAll.mono dl s vs hs) hl
    | dcN h hk ha hx hs hl => exact .dcN (s _ _ h) hk ha (RpAll.mono dl s ks hx) (RpAll.mono dl s vs hs) hl
theorem RpAll.mono (dl : DrLe dr dr') (s : Sub R R') : ∀ (ds : List Val) {vs : List V}, RpAll K dr R vs ds → RpAll K dr' R' vs ds
  | [], _, h => by cases h; exact .nil
  | d :: ds, _, h => by cases h with | cons h hs => exact .cons (Rp.mono dl s d h) (RpAll.mono dl s ds hs)
end
theorem RpAll.len : ∀ {vs : List V} {ds : List Val}, RpAll K dr R vs ds → vs.length = ds.length
  | _, _, .nil => rfl
  | _, _, .cons _ hs => by simp [RpAll.len hs]
theorem RpAll.get : ∀ {vs : List V} {ds : List Val} {i : Nat} {v : V}, RpAll K dr R vs ds → vs[i]? = some v → ∃ d, ds[i]? = some d ∧ Rp K dr R v d
  | _, _, _, _, .nil, e => by simp at e
  | _, _, 0, _, .cons h _, e => by simp at e; subst e; exact ⟨_, rfl, h⟩
  | _, _, i + 1, v, .cons _ hs, e => by
    obtain ⟨d, h1, h2⟩ := RpAll.get (i := i) (v := v) hs (by simpa using e)
    exact ⟨d, by simpa using h1, h2⟩
theorem RpAll.getD : ∀ {vs : List V} {ds : List Val} {i : Nat} {d : Val}, RpAll K dr R vs ds → ds[i]? = some d → ∃ v, vs[i]? = some v ∧ Rp K dr R v d
  | _, _, _, _, .nil, e => by simp at e
  | _, _, 0, _, .cons h _, e => by simp at e; subst e; exact ⟨_, rfl, h⟩
  | _, _, i + 1, d, .cons _ hs, e => by
    obtain ⟨v, h1, h2⟩ := RpAll.getD (i := i) (d := d) hs (by simpa using e)
    exact ⟨v, by simpa using h1, h2⟩
theorem RpAll.append : ∀ {vs ws : List V} {ds es : List Val}, RpAll K dr R vs ds → RpAll K dr R ws es → RpAll K dr R (vs ++ ws) (ds ++ es)
  | _, _, _, _, .nil, s => s
  | _, _, _, _, .cons h hs, s => .cons h (RpAll.append hs s)
theorem RpAll.take : ∀ {vs : List V} {ds : List Val} (n : Nat), RpAll K dr R vs ds → RpAll K dr R (vs.take n) (ds.take n)
  | _, _, 0, _ => by simp; exact .nil
  | _, _, _ + 1, .nil => .nil
  | _, _, n + 1, .cons h hs => .cons h (RpAll.take n hs)
theorem RpAll.drop : ∀ {vs : List V} {ds : List Val} (n : Nat), RpAll K dr R vs ds → RpAll K dr R (vs.drop n) (ds.drop n)
  | _, _, 0, h => h
  | _, _, _ + 1, .nil => .nil
  | _, _, n + 1, .cons _ hs => RpAll.drop n hs
theorem RpAll.set : ∀ {vs : List V} {ds : List Val} {v : V} {d : Val} (n : Nat), RpAll K dr R vs ds → Rp K dr R v d → RpAll K dr R (vs.set n v) (ds.set n d)
  | _, _, _, _, _, .nil, _ => .nil
  | _, _, _, _, 0, .cons _ hs, h => .cons h hs
  | _, _, _, _, n + 1, .cons h' hs, h => .cons h' (RpAll.set n hs h)
theorem RpAll.rev {vs : List V} {ds : List Val} (h : RpAll K dr R vs ds) : RpAll K dr R vs.reverse ds.reverse := by
  induction vs generalizing ds with
  | nil => cases h; exact .nil
  | cons v vs ih =>
    cases h with
    | cons h hs => simp only [List.reverse_cons]; exact RpAll.append (ih hs) (.cons h .nil)
theorem RpAll.rep {vs : List V} {ds : List Val} (h : RpAll K dr R vs ds) : ∀ k : Nat, RpAll K dr R (List.replicate k vs).flatten (List.replicate k ds).flatten
  | 0 => .nil
  | k + 1 => by simp only [List.replicate_succ, List.flatten_cons]; exact RpAll.append h (RpAll.rep h k)
theorem RpAll.ints : ∀ {vs : List V} {ds : List Val} {ns : List Int}, RpAll K dr R vs ds → isInts ds = some ns → vs = ns.map V.int
  | _, _, _, .nil, e => by simp [isInts] at e; subst e; rfl
  | _, _, _, .cons (d := d) h hs, e => by
    cases h <;> simp [isInts] at e
    obtain ⟨r, e1, e2⟩ := e
    subst e2
    have := RpAll.ints hs e1
    simp [this]
theorem RpAll.bls : ∀ {vs : List V} {ds : List Val} {bs : List Bool}, RpAll K dr R vs ds → isBls ds = some bs → vs = bs.map V.bl
  | _, _, _, .nil, e => by simp [isBls] at e; subst e; rfl
  | _, _, _, .cons (d := d) h hs, e => by
    cases h <;> simp [isBls] at e
    obtain ⟨r, e1, e2⟩ := e
    subst e2
    have := RpAll.bls hs e1
    simp [this]
theorem RpAll.ofInts : ∀ (ns : List Int), RpAll K dr R (ns.map V.int) (ns.map Val.int)
  | [] => .nil
  | n :: ns => .cons (.int n) (RpAll.ofInts ns)
end

/-! ### as data -/
mutual
def toD : Val → PyData
  | .non => .none
  | .bl b => .bool b
  | .int i => .int i
  | .str cs => .str ⟨cs.toArray⟩
  | .tup xs => .tuple (toDs xs)
  | .lst xs => .list (toDs xs)
  | .drw => .none
  | .scr _ => .none
  | .dct _ _ => .none
  | .dcn _ _ => .none
  | .ref _ => .none
  | .exc _ => .none
def toDs : List Val → List PyData
  | [] => []
  | x :: xs => toD x :: toDs xs
end
theorem toDs_len : ∀ xs : List Val, (toDs xs).length = xs.length
  | [] => rfl
  | _ :: xs => by simp [toDs, toDs_len xs]
theorem toDs_get : ∀ (xs : List Val) (i : Nat), (toDs xs)[i]? = (xs[i]?).map toD
  | [], i => by simp [toDs]
  | x :: xs, 0 => by simp [toDs]
  | x :: xs, i + 1 => by simp [toDs, toDs_get xs i]
section
variable {K : PySem.W.Frag} {dr : Dr} {R H : Hp}
mutual
theorem Rp.dp (s : Sub R H) : ∀ (d : Val) {v : V}, plain d = true → Rp K dr R v d → Dp K H v (toD d)
  | .non, _, _, h => by cases h; simp only [toD]; exact .non
  | .bl b, _, _, h => by cases h; simp only [toD]; exact .bl b
  | .int i, _, _, h => by cases h; simp only [toD]; exact .int i
  | .str cs, _, _, h => by cases h; simp only [toD]; exact .str _
  | .tup ds, _, p, h => by
    cases h with
    | tup h hs hl => simp only [toD]; exact .tup (SqT.of (s _ _ h)) (RpAll.dp s ds (by simpa [plain] using p) hs)
  | .lst ds, _, p, h => by
    cases h with
    | lst h hs hl => simp only [toD]; exact .lst (SqL.of (s _ _ h)) (RpAll.dp s ds (by simpa [plain] using p) hs)
  | .drw, _, p, _ => by simp [plain] at p
  | .scr ns, _, p, _ => by simp [plain] at p
  | .dct _ _, _, p, _ => by simp [plain] at p
  | .dcn _ _, _, p, _ => by simp [plain] at p
  | .ref _, _, p, _ => by simp [plain] at p
  | .exc _, _, p, _ => by simp [plain] at p
theorem RpAll.dp (s : Sub R H) : ∀ (ds : List Val) {vs : List V}, plains ds = true → RpAll K dr R vs ds → DpAll K H vs (toDs ds)
  | [], _, _, h => by cases h; simp only [toDs]; exact .nil
  | d :: ds, _, p, h => by
    cases h with
    | cons h hs =>
      simp only [plains, Bool.and_eq_true] at p
      simp only [toDs]
      exact .cons (Rp.dp s d p.1 h) (RpAll.dp s ds p.2 hs)
end
mutual
theorem Rp.lay : ∀ (d : Val) {v : V}, Rp K dr R v d → (toD d).canLay0 = true
  | .non, _, _ => by simp [toD, PyData.canLay0]
  | .bl b, _, _ => by simp [toD, PyData.canLay0]
  | .int i, _, _ => by simp [toD, PyData.canLay0]
  | .str cs, _, h => by
    cases h with
    | str _ h hl =>
      simp only [toD, PyData.canLay0, PyData.strOk]
      simpa using h
  | .tup ds, _, h => by
    cases h with
    | tup h hs hl => simp only [toD, PyData.canLay0]; exact RpAll.lay ds hs
  | .lst ds, _, h => by
    cases h with
    | lst h hs hl => simp only [toD, PyData.canLay0]; exact RpAll.lay ds hs
  | .drw, _, _ => by simp [toD, PyData.canLay0]
  | .scr ns, _, _ => by simp [toD, PyData.canLay0]
  | .dct _ _, _, _ => by simp [toD, PyData.canLay0]
  | .dcn _ _, _, _ => by simp [toD, PyData.canLay0]
  | .ref _, _, _ => by simp [toD, PyData.canLay0]
  | .exc _, _, _ => by simp [toD, PyData.canLay0]
theorem RpAll.lay : ∀ (ds : List Val) {vs : List V}, RpAll K dr R vs ds → PyData.canLayAll0 (toDs ds) = true
  | [], _, _ => by simp [toDs, PyData.canLayAll0]
  | d :: ds, _, h => by
    cases h with
    | cons h hs => simp only [toDs, PyData.canLayAll0, Bool.and_eq_true]; exact ⟨Rp.lay d h, RpAll.lay ds hs⟩
end
end
mutual
theorem dep_toD : ∀ d : Val, (toD d).depth = dep d
  | .non => rfl | .bl _ => rfl | .int _ => rfl | .str _ => rfl | .drw => rfl | .scr _ => rfl | .dct _ _ => rfl | .dcn _ _ => rfl | .ref _ => rfl | .exc _ => rfl
  | .tup xs => by simp [toD, PyData.depth, dep, deps_toDs xs]
  | .lst xs => by simp [toD, PyData.depth, dep, deps_toDs xs]
theorem deps_toDs : ∀ ds : List Val, PyData.depthAll (toDs ds) = deps ds
  | [] => rfl
  | d :: ds => by simp [toDs, PyData.depthAll, deps, dep_toD d, deps_toDs ds]
end
theorem str_beq (x y : List Nat) : ((⟨x.toArray⟩ : Str) == ⟨y.toArray⟩) = (x == y) := by
  by_cases h : x = y
  · subst h; simp
  · have h1 : (x == y) = false := by simpa using h
    rw [h1]
    have h2 : ¬ ((⟨x.toArray⟩ : Str) = ⟨y.toArray⟩) := fun e => h (by
      have := congrArg (fun z : Str => z.cps.toList) e
      simpa using this)
    simpa using h2
mutual
theorem veq_toD : ∀ a b : Val, plain a = true → plain b = true → PyData.eqv (toD a) (toD b) = veq a b
  | .non, b, _, p => by cases b <;> simp_all [toD, PyData.eqv, veq, plain]
  | .bl x, b, _, p => by cases b <;> simp_all [toD, PyData.eqv, veq, plain, b2]
  | .int x, b, _, p => by cases b <;> simp_all [toD, PyData.eqv, veq, plain, b2]
  | .str x, b, _, p => by
    cases b with
    | str y => simp only [toD, PyData.eqv, veq]; exact str_beq x y
    | _ => simp_all [toD, PyData.eqv, veq, plain]
  | .tup xs, b, p, q => by
    cases b with
    | tup ys =>
      simp only [toD, PyData.eqv, veq]
      exact veqs_toDs xs ys (by simpa [plain] using p) (by simpa [plain] using q)
    | _ => simp_all [toD, PyData.eqv, veq, plain]
  | .lst xs, b, p, q => by
    cases b with
    | lst ys =>
      simp only [toD, PyData.eqv, veq]
      exact veqs_toDs xs ys (by simpa [plain] using p) (by simpa [plain] using q)
    | _ => simp_all [toD, PyData.eqv, veq, plain]
  | .drw, _, p, _ => by simp [plain] at p
  | .scr _, _, p, _ => by simp [plain] at p
  | .dct _ _, _, p, _ => by simp [plain] at p
  | .dcn _ _, _, p, _ => by simp [plain] at p
  | .ref _, _, p, _ => by simp [plain] at p
  | .exc _, _, p, _ => by simp [plain] at p
theorem veqs_toDs : ∀ a b : List Val, plains a = true → plains b = true → PyData.eqvAll (toDs a) (toDs b) = veqs a b
  | [], [], _, _ => by simp [toDs, PyData.eqvAll, veqs]
  | [], y :: ys, _, _ => by simp [toDs, PyData.eqvAll, veqs]
  | x :: xs, [], _, _ => by simp [toDs, PyData.eqvAll, veqs]
  | x :: xs, y :: ys, p, q => by
    simp only [plains, Bool.and_eq_true] at p q
    simp only [toDs, PyData.eqvAll, veqs]
    rw [veq_toD x y p.1 q.1, veqs_toDs xs ys p.2 q.2]
end
end BG

/-! BG.Rel: the relation of the evaluator's state and the abstract heap; how it grows. -/
namespace BG
open PySem PySem.Spec PyProof.Rows L2

/-- the address is not of the draws -/
structure NotDr (dr : Dr) (a : Addr) : Prop where
  dw : ∀ p, dr.dw = some p → a ≠ p.1 ∧ a ≠ p.2
  cs : ∀ i : Nat, dr.cs[i]? ≠ some (some a)
/-- an object, its parts in the region -/
def ObjR (K : PySem.W.Frag) (dr : Dr) (R : Hp) (a : Addr) (o : HO) (d : Val) : Prop :=
  (∃ xs ds, o = .lst xs ∧ d = .lst ds ∧ RpAll K dr R xs ds ∧ ds.length ≤ lim) ∨
  (∃ (ps : List (Key × V)) (ks vs : List Val), o = .dK ps ∧ d = .dcn ks vs ∧ ps.map (fun p => p.1) = ks.map kI ∧ ks.all isI = true ∧ ks ≠ [] ∧ RpAll K dr R (ps.map fun p => p.2) vs ∧ vs.length ≤ lim) ∨
  (∃ (xs : List EN) (ks vs : List Val), o = DN a xs ∧ d = .dcn ks vs ∧ xs.map (fun x => x.1) = nks ks ∧ ks.all isTupK = true ∧ RpAll K dr R (xs.map fun x => V.ref x.2.1) ks ∧ RpAll K dr R (xs.map fun x => x.2.2) vs ∧ vs.length ≤ lim)
theorem ObjR.mono {K : PySem.W.Frag} {dr dr' : Dr} {R R' : Hp} {a : Addr} {o : HO} {d : Val} (dl : DrLe dr dr') (s : Sub R R') (h : ObjR K dr R a o d) : ObjR K dr' R' a o d := by
  rcases h with ⟨xs, ds, h1, h2, h3, h4⟩ | ⟨ps, ks, vs, h1, h2, h3, h4, h5, h6, h7⟩ | ⟨xs, ks, vs, h1, h2, h3, h4, h5, h6, h7⟩
  · exact .inl ⟨xs, ds, h1, h2, RpAll.mono dl s ds h3, h4⟩
  · exact .inr (.inl ⟨ps, ks, vs, h1, h2, h3, h4, h5, RpAll.mono dl s vs h6, h7⟩)
  · exact .inr (.inr ⟨xs, ks, vs, h1, h2, h3, h4, RpAll.mono dl s ks h5, RpAll.mono dl s vs h6, h7⟩)
theorem ObjR.rp {K : PySem.W.Frag} {dr : Dr} {R : Hp} {a : Addr} {o : HO} {d : Val} (e : R a = some o) (h : ObjR K dr R a o d) : Rp K dr R (.ref a) d := by
  rcases h with ⟨xs, ds, rfl, rfl, h3, h4⟩ | ⟨ps, ks, vs, rfl, rfl, h3, h4, h5, h6, h7⟩ | ⟨xs, ks, vs, rfl, rfl, h3, h4, h5, h6, h7⟩
  · exact .lst e h3 h4
  · exact .dcK e h3 h4 h5 h6 h7
  · exact .dcN e h3 h4 h5 h6 h7
theorem ObjR.lst {K : PySem.W.Frag} {dr : Dr} {R : Hp} {a : Addr} {xs : List V} {ds : List Val} (h : RpAll K dr R xs ds) (hl : ds.length ≤ lim) : ObjR K dr R a (.lst xs) (.lst ds) := .inl ⟨xs, ds, rfl, rfl, h, hl⟩
theorem ObjR.isL {K : PySem.W.Frag} {dr : Dr} {R : Hp} {a : Addr} {o : HO} {ds : List Val} (h : ObjR K dr R a o (.lst ds)) : ∃ xs, o = .lst xs ∧ RpAll K dr R xs ds ∧ ds.length ≤ lim := by
  rcases h with ⟨xs, ds', h1, h2, h3, h4⟩ | ⟨ps, ks, vs, h1, h2, h3⟩ | ⟨xs, ks, vs, h1, h2, h3⟩
  · cases h2
    exact ⟨xs, h1, h3, h4⟩
  · cases h2
  · cases h2
theorem ObjR.kind {K : PySem.W.Frag} {dr : Dr} {R : Hp} {a : Addr} {o : HO} {d : Val} (h : ObjR K dr R a o d) : (∃ ds, d = .lst ds) ∨ ∃ ks vs, d = .dcn ks vs := by
  rcases h with ⟨xs, ds, _, h2, _⟩ | ⟨ps, ks, vs, _, h2, _⟩ | ⟨xs, ks, vs, _, h2, _⟩
  · exact .inl ⟨ds, h2⟩
  · exact .inr ⟨ks, vs, h2⟩
  · exact .inr ⟨ks, vs, h2⟩
theorem ObjR.nt {K : PySem.W.Frag} {dr : Dr} {R : Hp} {a : Addr} {o : HO} {d : Val} (h : ObjR K dr R a o d) : ∀ xs, o ≠ .tup xs := by
  intro ys e
  rcases h with ⟨xs, ds, h2, _⟩ | ⟨ps, ks, vs, h2, _⟩ | ⟨xs, ks, vs, h2, _⟩ <;> (rw [h2] at e; cases e)
/-- a list or dict that this def alone holds -/
def OwnV (K : PySem.W.Frag) (dr : Dr) (R H : Hp) (v : V) (d : Val) : Prop :=
  ∃ a o, v = .ref a ∧ H a = some o ∧ R a = none ∧ NotDr dr a ∧ ObjR K dr R a o d
def DwOk (dr : Option (Addr × Addr)) (s : Option (List Int × Int)) (R H : Hp) : Prop :=
  match dr, s with
  | none, none => True
  | some (a, b), some (ns, c) => H a = some (.lst [.ref b, .int c]) ∧ H b = some (.lst (ns.map V.int)) ∧ a ≠ b ∧ R a = none ∧ R b = none
  | _, _ => False
structure DrOk (K : PySem.W.Frag) (dr : Dr) (s : DSt) (R H : Hp) : Prop where
  dw : DwOk dr.dw s.dw R H
  len : dr.cs.length = s.st.length
  inj : ∀ (i j : Nat) a, dr.cs[i]? = some (some a) → dr.cs[j]? = some (some a) → i = j
  sep : ∀ (i : Nat) a p, dr.cs[i]? = some (some a) → dr.dw = some p → a ≠ p.1 ∧ a ≠ p.2
  cel : ∀ (i : Nat) a, dr.cs[i]? = some (some a) → ∃ d o, s.st[i]? = some (some d) ∧ R a = none ∧ H a = some o ∧ ObjR K dr R a o d
  ded : ∀ i : Nat, dr.cs[i]? = some none → s.st[i]? = some none

structure Rel (K : PySem.W.Frag) (O : List Nat) (e : Env) (s : DSt) (dr : Dr) (R : Hp) (σ : St) (H : Hp) : Prop where
  sub : Sub R H
  len : σ.length = e.length
  val : ∀ (i : Nat) d, e[i]? = some (some d) → ∃ v, σ[i]? = some (some v) ∧ (if i ∈ O then OwnV K dr R H v d else Rp K dr R v d)
  dist : ∀ (i j : Nat) a d d', i ∈ O → j ∈ O → i ≠ j → e[i]? = some (some d) → e[j]? = some (some d') → σ[i]? = some (some (.ref a)) → σ[j]? = some (some (.ref a)) → False
  drok : DrOk K dr s R H

/-- what the region may take in: a new object, a tuple that stands already, a cell that dies -/
def NewAt (dr : Dr) (H : Hp) (a : Addr) : Prop := H a = none ∨ (∃ xs, H a = some (.tup xs)) ∨ ¬ NotDr dr a
structure Grow (dr dr' : Dr) (R R' H H' : Hp) : Prop where
  rs : Sub R R'
  new : ∀ a o, R' a = some o → R a = none → NewAt dr H a
  keep : ∀ a o, H a = some o → NotDr dr a → H' a = some o
  dom : ∀ a, H' a = none → H a = none
  drl : DrLe dr dr'
  drn : ∀ a, NotDr dr a → ¬ NotDr dr' a → H a = none

theorem Grow.refl (dr : Dr) (R H : Hp) : Grow dr dr R R H H :=
  ⟨Sub.refl R, fun a o h n => (by rw [h] at n; cases n), fun _ _ h _ => h, fun _ h => h, DrLe.refl dr, fun a n m => absurd n m⟩
theorem NotDr.of_le {dr dr' : Dr} {a : Addr} {H : Hp} {o : HO} (n : NotDr dr a) (h : H a = some o) (l : DrLe dr dr') (q : ∀ a, NotDr dr a → ¬ NotDr dr' a → H a = none) : NotDr dr' a :=
  Classical.byContradiction fun m => by rw [q a n m] at h; cases h
theorem Grow.no {dr dr' : Dr} {R R' H H' : Hp} (g : Grow dr dr' R R' H H') {a : Addr} {o : HO} (h : H a = some o) (nt : ∀ xs, o ≠ .tup xs) (n : R a = none) (nd : NotDr dr a) : R' a = none := by
  cases q : R' a with
  | none => rfl
  | some u =>
    rcases g.new a u q n with z | ⟨xs, z⟩ | z
    · rw [z] at h; cases h
    · rw [z] at h
      cases h
      exact absurd rfl (nt xs)
    · exact absurd nd z
theorem Grow.trans {d1 d2 d3 : Dr} {R1 R2 R3 H1 H2 H3 : Hp} (f : Grow d1 d2 R1 R2 H1 H2) (g : Grow d2 d3 R2 R3 H2 H3) : Grow d1 d3 R1 R3 H1 H3 where
  rs := f.rs.trans g.rs
  new := fun a o h n => by
    cases q : R2 a with
    | none =>
      by_cases nd : NotDr d1 a
      · rcases g.new a o h q with z | ⟨xs, z⟩ | z
        · exact .inl (f.dom a z)
        · cases w : H1 a with
          | none => exact .inl w
          | some u =>
            have := f.keep a u w nd
            rw [z] at this
            exact .inr (.inl ⟨xs, by rw [w, ← this]⟩)
        · exact .inl (f.drn a nd z)
      · exact .inr (.inr nd)
    | some u => exact f.new a u q n
  keep := fun a o h n => g.keep a o (f.keep a o h n) (n.of_le h f.drl f.drn)
  dom := fun a h => f.dom a (g.dom a h)
  drl := f.drl.trans g.drl
  drn := fun a n m => by
    by_cases q : NotDr d2 a
    · exact f.dom _ (g.drn a q m)
    · exact f.drn a n q

section
variable {K : PySem.W.Frag} {O : List Nat} {e : Env} {s s' : DSt} {dr dr' : Dr} {R R' H H' : Hp} {σ : St} {v : V} {d : Val}
theorem OwnV.grow (h : OwnV K dr R H v d) (g : Grow dr dr' R R' H H') : OwnV K dr' R' H' v d := by
  obtain ⟨a, o, rfl, h1, h2, h3, h4⟩ := h
  exact ⟨a, o, rfl, g.keep a _ h1 h3, g.no h1 h4.nt h2 h3, h3.of_le h1 g.drl g.drn, h4.mono g.drl g.rs⟩
theorem Rel.grow (r : Rel K O e s dr R σ H) (g : Grow dr dr' R R' H H') (sb : Sub R' H') (dk : DrOk K dr' s' R' H') : Rel K O e s' dr' R' σ H' where
  sub := sb
  len := r.len
  val := fun i d h => by
    obtain ⟨v, h1, h2⟩ := r.val i d h
    refine ⟨v, h1, ?_⟩
    by_cases q : i ∈ O
    · rw [if_pos q] at h2 ⊢
      exact h2.grow g
    · rw [if_neg q] at h2 ⊢
      exact Rp.mono g.drl g.rs d h2
  dist := r.dist
  drok := dk
/-- a new object laid, in the region -/
theorem grow_laid {p : Addr} {o : HO} (hp : H p = none) (sb : Sub R H) : Grow dr dr R (upd R p o) H (upd H p o) ∧ Sub (upd R p o) (upd H p o) := by
  have hr : R p = none := by
    cases q : R p with
    | none => rfl
    | some u => rw [sb p u q] at hp; cases hp
  refine ⟨⟨fun a u h => ?_, fun a u h n => ?_, fun a u h _ => ?_, fun a h => ?_, DrLe.refl dr, fun a n m => absurd n m⟩, fun a u h => ?_⟩
  · rw [upd_ne (ne_of_none h hr)]; exact h
  · by_cases z : a = p
    · rw [z]; exact .inl hp
    · rw [upd_ne z] at h; rw [h] at n; cases n
  · rw [upd_ne (ne_of_none h hp)]; exact h
  · by_cases z : a = p
    · rw [z, upd_same] at h; cases h
    · rwa [upd_ne z] at h
  · by_cases z : a = p
    · rw [z, upd_same] at h ⊢; exact h
    · rw [upd_ne z] at h ⊢; exact sb a u h
/-- .. outside the region -/
theorem grow_out {p : Addr} {o : HO} (hp : H p = none) (sb : Sub R H) : Grow dr dr R R H (upd H p o) ∧ Sub R (upd H p o) := by
  refine ⟨⟨Sub.refl R, fun a u h n => (by rw [h] at n; cases n), fun a u h _ => ?_, fun a h => ?_, DrLe.refl dr, fun a n m => absurd n m⟩, fun a u h => ?_⟩
  · rw [upd_ne (ne_of_none h hp)]; exact h
  · by_cases z : a = p
    · rw [z, upd_same] at h; cases h
    · rwa [upd_ne z] at h
  · have := sb a u h
    rw [upd_ne (ne_of_none this hp)]; exact this
theorem DwOk.laid {dw : Option (Addr × Addr)} {sw : Option (List Int × Int)} {p : Addr} {o : HO} (h : DwOk dw sw R H) (hp : H p = none) (hr : ∀ a, a ≠ p → R' a = R a) : DwOk dw sw R' (upd H p o) := by
  unfold DwOk at h ⊢
  cases dw with
  | none => cases sw <;> exact h
  | some q =>
    obtain ⟨a, b⟩ := q
    cases sw with
    | none => exact h
    | some t =>
      obtain ⟨ns, c⟩ := t
      obtain ⟨h1, h2, h3, h4, h5⟩ := h
      refine ⟨?_, ?_, h3, ?_, ?_⟩
      · rw [upd_ne (ne_of_none h1 hp)]; exact h1
      · rw [upd_ne (ne_of_none h2 hp)]; exact h2
      · rw [hr a (ne_of_none h1 hp)]; exact h4
      · rw [hr b (ne_of_none h2 hp)]; exact h5
theorem DrOk.laid {p : Addr} {o : HO} (h : DrOk K dr s R H) (hp : H p = none) (hr : ∀ a, a ≠ p → R' a = R a) (sr : Sub R R') : DrOk K dr s R' (upd H p o) where
  dw := h.dw.laid hp hr
  len := h.len
  inj := h.inj
  sep := h.sep
  cel := fun i a e => by
    obtain ⟨d, u, h1, h2, h3, h4⟩ := h.cel i a e
    refine ⟨d, u, h1, ?_, ?_, h4.mono (DrLe.refl _) sr⟩
    · rw [hr a (ne_of_none h3 hp)]; exact h2
    · rw [upd_ne (ne_of_none h3 hp)]; exact h3
  ded := h.ded
theorem DrOk.laidR {p : Addr} {o : HO} (h : DrOk K dr s R H) (sb : Sub R H) (hp : H p = none) : DrOk K dr s (upd R p o) (upd H p o) := h.laid hp (fun a z => upd_ne z) fun a u q => by
  rw [upd_ne (fun z => by rw [z] at q; rw [sb _ _ q] at hp; cases hp)]
  exact q
theorem DrOk.laidO {p : Addr} {o : HO} (h : DrOk K dr s R H) (hp : H p = none) : DrOk K dr s R (upd H p o) := h.laid hp (fun a z => rfl) (Sub.refl R)
theorem DrOk.upd {a : Addr} {o : HO} (dk : DrOk K dr s R H) (nD : NotDr dr a) (hn : R a = none) : DrOk K dr s (L2.upd R a o) H where
  dw := by
    have h := dk.dw
    have n := nD.dw
    unfold DwOk at h ⊢
    split at h
    · trivial
    · rename_i x y ns c e1 e2
      obtain ⟨n1, n2⟩ := n _ e1
      obtain ⟨h1, h2, h3, h4, h5⟩ := h
      exact ⟨h1, h2, h3, by rw [upd_ne (fun z => n1 z.symm)]; exact h4, by rw [upd_ne (fun z => n2 z.symm)]; exact h5⟩
    · exact h
  len := dk.len
  inj := dk.inj
  sep := dk.sep
  cel := fun i b e => by
    obtain ⟨d, u, h1, h2, h3, h4⟩ := dk.cel i b e
    refine ⟨d, u, h1, ?_, h3, h4.mono (DrLe.refl _) fun c v q => ?_⟩
    · rw [upd_ne (fun z => by rw [z] at e; exact nD.cs i e)]; exact h2
    · rw [upd_ne (fun z => by rw [z, hn] at q; cases q)]; exact q
  ded := dk.ded
theorem DrOk.updH {a : Addr} {o : HO} (dk : DrOk K dr s R H) (nD : NotDr dr a) : DrOk K dr s R (L2.upd H a o) where
  dw := by
    have h := dk.dw
    have n := nD.dw
    unfold DwOk at h ⊢
    split at h
    · trivial
    · rename_i x y ns c e1 e2
      obtain ⟨n1, n2⟩ := n _ e1
      obtain ⟨h1, h2, h3⟩ := h
      exact ⟨by rw [upd_ne (fun z => n1 z.symm)]; exact h1, by rw [upd_ne (fun z => n2 z.symm)]; exact h2, h3⟩
    · exact h
  len := dk.len
  inj := dk.inj
  sep := dk.sep
  cel := fun i b e => by
    obtain ⟨d, u, h1, h2, h3, h4⟩ := dk.cel i b e
    exact ⟨d, u, h1, h2, by rw [upd_ne (fun z => by rw [z] at e; exact nD.cs i e)]; exact h3, h4⟩
  ded := dk.ded
theorem DrOk.not (h : DrOk K dr s R H) {a : Addr} {o : HO} (q : R a = some o) : NotDr dr a where
  dw := fun p e => by
    have d := h.dw
    unfold DwOk at d
    rw [e] at d
    split at d
    · rename_i e1 _; cases e1
    · rename_i x y ns c e1 e2
      cases e1
      obtain ⟨_, _, _, h4, h5⟩ := d
      exact ⟨fun z => (by rw [z] at q; rw [h4] at q; cases q), fun z => (by rw [z] at q; rw [h5] at q; cases q)⟩
    · exact d.elim
  cs := fun i e => by
    obtain ⟨d, u, h1, h2, _⟩ := h.cel i a e
    rw [q] at h2
    cases h2
theorem new_free {p : Addr} (sb : Sub R H) (dk : DrOk K dr s R H) (hp : H p = none) : R p = none ∧ NotDr dr p := by
  refine ⟨?_, ⟨fun q e => ?_, fun i e => ?_⟩⟩
  · cases q : R p with
    | none => rfl
    | some u => rw [sb p u q] at hp; cases hp
  · have d := dk.dw
    unfold DwOk at d
    rw [e] at d
    split at d
    · rename_i e1 _; cases e1
    · rename_i x y ns c e1 e2
      cases e1
      exact ⟨fun z => (by rw [z] at hp; rw [d.1] at hp; cases hp), fun z => (by rw [z] at hp; rw [d.2.1] at hp; cases hp)⟩
    · exact d.elim
  · obtain ⟨d, u, _, _, h3, _⟩ := dk.cel i p e
    rw [hp] at h3
    cases h3
end

/-- a list or dict in the heap that is not of the region -/
def HeapV (K : PySem.W.Frag) (dr : Dr) (R H : Hp) (v : V) (d : Val) : Prop :=
  ∃ a o, v = .ref a ∧ H a = some o ∧ R a = none ∧ ObjR K dr R a o d
theorem OwnV.hv {K : PySem.W.Frag} {dr : Dr} {R H : Hp} {v : V} {d : Val} (h : OwnV K dr R H v d) : HeapV K dr R H v d := by
  obtain ⟨a, o, h1, h2, h3, _, h5⟩ := h
  exact ⟨a, o, h1, h2, h3, h5⟩
/-- a value, or an owned list or a cell read -/
def Sh (K : PySem.W.Frag) (dr : Dr) (R H : Hp) (v : V) (d : Val) : Prop := Rp K dr R v d ∨ HeapV K dr R H v d
section
variable {K : PySem.W.Frag} {dr dr' : Dr} {R R' H H' : Hp} {v : V} {d : Val} {ds : List Val}
theorem HeapV.not {K : PySem.W.Frag} {dr : Dr} {R H : Hp} {v : V} {d : Val} (h : HeapV K dr R H v d) (n1 : ∀ ds, d ≠ .lst ds) (n2 : ∀ ks vs, d ≠ .dcn ks vs) : False := by
  obtain ⟨a, o, _, _, _, r⟩ := h
  rcases r.kind with ⟨ds, e⟩ | ⟨ks, vs, e⟩
  · exact n1 ds e
  · exact n2 ks vs e
theorem Sh.lst (h : Sh K dr R H v (.lst ds)) (sb : Sub R H) : ∃ a xs, v = .ref a ∧ H a = some (.lst xs) ∧ RpAll K dr R xs ds := by
  rcases h with h | ⟨a, o, rfl, h1, _, r⟩
  · cases h with
    | lst h hs hl => exact ⟨_, _, rfl, sb _ _ h, hs⟩
  · obtain ⟨xs, rfl, h4, _⟩ := r.isL
    exact ⟨a, xs, rfl, h1, h4⟩
theorem Sh.dcn {ks vs : List Val} (h : Sh K dr R H v (.dcn ks vs)) (sb : Sub R H) : ∃ a o, v = .ref a ∧ H a = some o ∧ ObjR K dr R a o (.dcn ks vs) := by
  rcases h with h | ⟨a, o, rfl, h1, _, r⟩
  · cases h with
    | dcK h hk ha hn hs hl => exact ⟨_, _, rfl, sb _ _ h, .inr (.inl ⟨_, _, _, rfl, rfl, hk, ha, hn, hs, hl⟩)⟩
    | dcN h hk ha hx hs hl => exact ⟨_, _, rfl, sb _ _ h, .inr (.inr ⟨_, _, _, rfl, rfl, hk, ha, hx, hs, hl⟩)⟩
  · exact ⟨a, o, rfl, h1, r⟩
theorem Sh.tup (h : Sh K dr R H v (.tup ds)) (sb : Sub R H) : ∃ a xs, v = .ref a ∧ H a = some (.tup xs) ∧ R a = some (.tup xs) ∧ RpAll K dr R xs ds := by
  rcases h with h | h
  · cases h with
    | tup h hs hl => exact ⟨_, _, rfl, sb _ _ h, h, hs⟩
  · exact (h.not (fun _ z => nomatch z) (fun _ _ z => nomatch z)).elim
theorem Sh.lstLen (h : Sh K dr R H v (.lst ds)) : ds.length ≤ lim := by
  rcases h with h | ⟨a, o, rfl, h1, _, r⟩
  · cases h with
    | lst h hs hl => exact hl
  · obtain ⟨xs, rfl, _, h5⟩ := r.isL
    exact h5
theorem Sh.tupLen (h : Sh K dr R H v (.tup ds)) : ds.length ≤ lim := by
  rcases h with h | h
  · cases h with
    | tup h hs hl => exact hl
  · exact (h.not (fun _ z => nomatch z) (fun _ _ z => nomatch z)).elim
theorem Sh.int {i : Int} (h : Sh K dr R H v (.int i)) : v = .int i := by
  rcases h with h | h
  · cases h; rfl
  · exact (h.not (fun _ z => nomatch z) (fun _ _ z => nomatch z)).elim
theorem Sh.bl {i : Bool} (h : Sh K dr R H v (.bl i)) : v = .bl i := by
  rcases h with h | h
  · cases h; rfl
  · exact (h.not (fun _ z => nomatch z) (fun _ _ z => nomatch z)).elim
theorem Sh.non (h : Sh K dr R H v .non) : v = .non := by
  rcases h with h | h
  · cases h; rfl
  · exact (h.not (fun _ z => nomatch z) (fun _ _ z => nomatch z)).elim
theorem Sh.str {cs : List Nat} (h : Sh K dr R H v (.str cs)) : v = .str ⟨cs.toArray⟩ ∧ cs.all (fun c => decide (c < 1114112)) = true ∧ cs.length ≤ lim := by
  rcases h with h | h
  · cases h with
    | str _ h hl => exact ⟨rfl, h, hl⟩
  · exact (h.not (fun _ z => nomatch z) (fun _ _ z => nomatch z)).elim
theorem Sh.dp (h : Sh K dr R H v d) (sb : Sub R H) (p : plain d = true) : Dp K H v (toD d) := by
  rcases h with h | ⟨a, o, rfl, h1, _, r⟩
  · exact Rp.dp sb d p h
  · rcases r.kind with ⟨ds, rfl⟩ | ⟨ks, vs, rfl⟩
    · obtain ⟨xs, rfl, h4, _⟩ := r.isL
      simp only [toD]
      exact .lst (SqL.of h1) (RpAll.dp sb ds (by simpa [plain] using p) h4)
    · simp [plain] at p
theorem Sh.lay (h : Sh K dr R H v d) : (toD d).canLay0 = true := by
  rcases h with h | ⟨a, o, rfl, h1, _, r⟩
  · exact Rp.lay d h
  · rcases r.kind with ⟨ds, rfl⟩ | ⟨ks, vs, rfl⟩
    · obtain ⟨xs, rfl, h4, _⟩ := r.isL
      simp only [toD, PyData.canLay0]; exact RpAll.lay ds h4
    · simp [toD, PyData.canLay0]
end

/-- the expression reads an owned list -/
def isOwn (O : List Nat) : Ex → Bool
  | .var i => decide (i ∈ O)
  | _ => false
def Res (K : PySem.W.Frag) (O : List Nat) (c : Ex) (dr : Dr) (R H : Hp) (v : V) (d : Val) : Prop :=
  if isOwn O c = true then OwnV K dr R H v d else Rp K dr R v d
theorem Res.sh {K : PySem.W.Frag} {O : List Nat} {c : Ex} {dr : Dr} {R H : Hp} {v : V} {d : Val} (h : Res K O c dr R H v d) : Sh K dr R H v d := by
  unfold Res at h
  split at h
  · exact .inr h.hv
  · exact .inl h
theorem Res.rp {K : PySem.W.Frag} {O : List Nat} {c : Ex} {dr : Dr} {R H : Hp} {v : V} {d : Val} (h : Res K O c dr R H v d) (n : isOwn O c = false) : Rp K dr R v d := by
  unfold Res at h
  rw [n] at h
  simpa using h
theorem Res.of {K : PySem.W.Frag} {O : List Nat} {c : Ex} {dr : Dr} {R H : Hp} {v : V} {d : Val} (n : isOwn O c = false) (h : Rp K dr R v d) : Res K O c dr R H v d := by
  unfold Res
  rw [n]
  simpa using h
inductive ResA (K : PySem.W.Frag) (O : List Nat) (dr : Dr) (R H : Hp) : Ex → List V → List Val → Prop
  | nil : ResA K O dr R H .nil [] []
  | cons {a r : Ex} {v : V} {vs : List V} {d : Val} {ds : List Val} (h : Res K O a dr R H v d) (hs : ResA K O dr R H r vs ds) : ResA K O dr R H (.cons a r) (v :: vs) (d :: ds)
theorem Res.grow {K : PySem.W.Frag} {O : List Nat} {c : Ex} {dr dr' : Dr} {R R' H H' : Hp} {v : V} {d : Val} (h : Res K O c dr R H v d) (g : Grow dr dr' R R' H H') : Res K O c dr' R' H' v d := by
  unfold Res at h ⊢
  by_cases q : isOwn O c = true
  · rw [if_pos q] at h ⊢; exact h.grow g
  · rw [if_neg q] at h ⊢; exact Rp.mono g.drl g.rs d h

/-! ### readings by the evaluator -/
/-- the defs, and what is wished of an exception of a class -/
structure CF where
  f : Nat → List Val → DSt → Out Val
  xw : Nat → St → Hp → Prop
instance : Coe CF (Nat → List Val → DSt → Out Val) := ⟨CF.f⟩
/-- within a comprehension: no exception leaves it -/
def CF.no (cf : CF) : CF := ⟨cf.f, fun _ _ _ => False⟩
/-- what comes behind an evaluation, from (s, dr, R, H) -/
def Beh {α : Type} (K : PySem.W.Frag) (w : Nat → Hp → Prop) (dr : Dr) (R H : Hp) (o : Out α) (Q : α → Dr → Hp → Hp → Prop) : Prop :=
  match o with
  | .ok d s' => ∀ dr' R' H', Grow dr dr' R R' H H' → Sub R' H' → DrOk K dr' s' R' H' → Q d dr' R' H'
  | .exc c s' => ∀ dr' R' H', Grow dr dr' R R' H H' → Sub R' H' → DrOk K dr' s' R' H' → w c H'
  | .bad => False
/-- the wish, at the slots -/
abbrev CF.at (cf : CF) (σ : St) : Nat → Hp → Prop := fun c H => cf.xw c σ H
def tE (K : PySem.W.Frag) (cf : CF) (O : List Nat) (c : Ex) : TE := fun σ H Q => ∃ e s dr R, Rel K O e s dr R σ H ∧
  Beh K (cf.at σ) dr R H (ev cf c e s) fun d dr' R' H' => ∀ v, Res K O c dr' R' H' v d → Q v H'
def tT (K : PySem.W.Frag) (cf : CF) (O : List Nat) (c : Ex) : TT := fun σ H Q => ∃ e s dr R, Rel K O e s dr R σ H ∧
  Beh K (cf.at σ) dr R H (ev cf c e s) fun d _ _ H' => ∃ b, d = .bl b ∧ Q b H'
def tAs (K : PySem.W.Frag) (cf : CF) (O : List Nat) (c : Ex) : TA := fun σ H Q => ∃ e s dr R, Rel K O e s dr R σ H ∧
  Beh K (cf.at σ) dr R H (evs cf c e s) fun ds dr' R' H' => ∀ vs, ResA K O dr' R' H' c vs ds → Q vs H'
def tPo (K : PySem.W.Frag) (cf : CF) (O : List Nat) (c : Ex) : TO := fun σ H Q => ∃ e s dr R, Rel K O e s dr R σ H ∧
  Beh K (cf.at σ) dr R H (evo cf c e s) fun o _ _ H' => Q o H'
/-- a def's promise by the evaluator -/
def spOf (K : PySem.W.Frag) (np : Nat) (f : List Val → DSt → Out Val) : Sp := fun vs H Q E => ∃ ds s dr R, Sub R H ∧ DrOk K dr s R H ∧ RpAll K dr R vs ds ∧ vs.length = np ∧
  Beh K (fun c H' => E (.ref (xcA K c)) none H') dr R H (f ds s) fun d dr' R' H' => ∀ v, Rp K dr' R' v d → Q v H'

theorem Beh.trans {α : Type} {K : PySem.W.Frag} {w : Nat → Hp → Prop} {dr dr1 : Dr} {R H R1 H1 : Hp} {o : Out α} {Q : α → Dr → Hp → Hp → Prop} (h : Beh K w dr R H o Q) (g : Grow dr dr1 R R1 H H1) : Beh K w dr1 R1 H1 o Q := by
  cases o with
  | ok a s => exact fun dr' R' H' g' sb' dk' => h dr' R' H' (g.trans g') sb' dk'
  | exc c s => exact fun dr' R' H' g' sb' dk' => h dr' R' H' (g.trans g') sb' dk'
  | bad => exact h
/-- first o, then f: what is left to be shown of o -/
theorem Beh.bind {α β : Type} {K : PySem.W.Frag} {w : Nat → Hp → Prop} {dr : Dr} {R H : Hp} {o : Out α} {f : α → DSt → Out β} {Q : β → Dr → Hp → Hp → Prop} {Q1 : α → Dr → Hp → Hp → Prop}
    (h : Beh K w dr R H (o.bind f) Q) (k : ∀ a s1, o = .ok a s1 → (∀ dr1 R1 H1, Grow dr dr1 R R1 H H1 → Sub R1 H1 → Beh K w dr1 R1 H1 (f a s1) Q) → ∀ dr1 R1 H1, Grow dr dr1 R R1 H H1 → Sub R1 H1 → DrOk K dr1 s1 R1 H1 → Q1 a dr1 R1 H1) : Beh K w dr R H o Q1 := by
  cases o with
  | ok a s1 => exact k a s1 rfl fun dr1 R1 H1 g sb => Beh.trans h g
  | exc c s1 => exact h
  | bad => exact h
/-- no exception comes out of o: it has a value -/
theorem Beh.nox {α β : Type} {K : PySem.W.Frag} {w : Nat → Hp → Prop} {dr : Dr} {R H : Hp} {o : Out α} {f : α → DSt → Out β} {Q : β → Dr → Hp → Hp → Prop}
    (h : Beh K w dr R H (o.noexc.bind f) Q) : ∃ a s1, o = .ok a s1 ∧ ∀ dr1 R1 H1, Grow dr dr1 R R1 H H1 → Sub R1 H1 → Beh K w dr1 R1 H1 (f a s1) Q := by
  cases o with
  | ok a s1 => exact ⟨a, s1, rfl, fun dr1 R1 H1 g sb => Beh.trans h g⟩
  | exc c s1 => exact h.elim
  | bad => exact h.elim
theorem Beh.ok {α : Type} {K : PySem.W.Frag} {w : Nat → Hp → Prop} {dr : Dr} {R H : Hp} {a : α} {s : DSt} {Q : α → Dr → Hp → Hp → Prop} (h : Beh K w dr R H (.ok a s) Q) {dr' : Dr} {R' H' : Hp} (g : Grow dr dr' R R' H H') (sb : Sub R' H') (dk : DrOk K dr' s R' H') : Q a dr' R' H' := h dr' R' H' g sb dk
theorem Beh.lift {α : Type} {K : PySem.W.Frag} {w : Nat → Hp → Prop} {dr : Dr} {R H : Hp} {o : Option α} {s : DSt} {Q : α → Dr → Hp → Hp → Prop} (h : Beh K w dr R H (BG.lift o s) Q) : ∃ a, o = some a ∧ Beh K w dr R H (.ok a s) Q := by
  cases o with
  | none => exact h.elim
  | some a => exact ⟨a, rfl, h⟩
end BG

/-! BG.DictN: dicts with keys that are numbers or nested tuples: in, not in, d[k], d[k] = v, {k: v}. -/
namespace BG
open PySem PySem.Spec PyProof.Rows L2
section
variable {K : PySem.W.Frag} {dr : Dr} {R H : Hp} {P : Program} {w : World} {h : Heap}
mutual
/-- a tracked nested key is one in the heap -/
theorem nis (sb : Sub R H) (ok : HOk P w H h) : ∀ (q : Val) {v : V} {u : Value}, keyN q = true → Rp K dr R v q → RelV v u → NestedIs h (nk q) u
  | .int i, v, u, _, r, e => by
    cases r
    obtain ⟨t, rfl⟩ := (show ∃ t, u = Value.int i t from e)
    simp only [nk]
    exact .int i t
  | .non, v, u, _, r, e => by
    cases r
    cases (show u = Value.none from e)
    simp only [nk]
    exact .none
  | .tup qs, v, u, kq, r, e => by
    cases r with
    | tup hr hs hl =>
      rename_i a xs
      cases (show u = Value.ref a from e)
      obtain ⟨_, its, vr, o, h1, h2, n, h3⟩ := (show ObjOk P w H h a (.tup xs) from ok a _ (sb _ _ hr))
      simp only [nk]
      exact .tup h1 h2 h3 (by simpa using niss sb ok qs (by simpa [keyN] using kq) hs vr)
  | .bl _, _, _, kq, _, _ => by simp [keyN] at kq
  | .str _, _, _, kq, _, _ => by simp [keyN] at kq
  | .lst _, _, _, kq, _, _ => by simp [keyN] at kq
  | .drw, _, _, kq, _, _ => by simp [keyN] at kq
  | .scr _, _, _, kq, _, _ => by simp [keyN] at kq
  | .dct _ _, _, _, kq, _, _ => by simp [keyN] at kq
  | .dcn _ _, _, _, kq, _, _ => by simp [keyN] at kq
theorem niss (sb : Sub R H) (ok : HOk P w H h) : ∀ (qs : List Val) {vs : List V} {us : List Value}, keyNs qs = true → RpAll K dr R vs qs → Vals vs us → NestedAll h (nks qs) us
  | [], _, _, _, r, e => by
    cases r
    cases e
    simp only [nks]
    exact .nil
  | q :: qs, _, _, kq, r, e => by
    cases r with
    | cons r rs =>
      cases e with
      | cons e es =>
        simp only [keyNs, Bool.and_eq_true] at kq
        simp only [nks]
        exact .cons (nis sb ok q kq.1 r e) (niss sb ok qs kq.2 rs es)
end
theorem key_is {q : Val} {p : Addr} (sb : Sub R H) (ok : HOk P w H h) (kq : isTupK q = true) (r : Rp K dr R (.ref p) q) : (nestedKind P w).is h (nk q) p := by
  obtain ⟨k1, k2⟩ := isTupK_key kq
  exact ⟨nis sb ok q k1 r rfl, k2⟩
theorem keys_is (sb : Sub R H) (ok : HOk P w H h) : ∀ {xs : List EN} {ks : List Val} {ys : List (NestedKey × Addr × Value)}, Paired rEN xs ys → xs.map (fun x => x.1) = nks ks → ks.all isTupK = true → RpAll K dr R (xs.map fun x => V.ref x.2.1) ks → ∀ y ∈ ys, (nestedKind P w).is h y.1 y.2.1 ∧ noT y.1 = true
  | [], ks, _, pr, hk, ha, hx => by
    cases pr
    exact fun y hy => nomatch hy
  | x :: xs, [], _, pr, hk, ha, hx => by simp [nks] at hk
  | x :: xs, k :: ks, _, pr, hk, ha, hx => by
    cases pr with
    | cons e pr =>
      cases hx with
      | cons r rs =>
        simp only [List.map_cons, nks, List.cons.injEq] at hk
        simp only [List.all_cons, Bool.and_eq_true] at ha
        intro y hy
        rcases List.mem_cons.mp hy with rfl | hy
        · have := key_is sb ok ha.1 r
          rw [← e.1, ← e.2.1, hk.1]
          exact ⟨this, noT_nk k⟩
        · exact keys_is sb ok pr hk.2 ha.2 rs y hy
/-- the dict as the library tells it -/
theorem dn_lib {a : Addr} {xs : List EN} {ks : List Val} (sb : Sub R H) (ok : HOk P w H h) (e : H a = some (DN a xs)) (hk : xs.map (fun x => x.1) = nks ks) (ha : ks.all isTupK = true) (hx : RpAll K dr R (xs.map fun x => V.ref x.2.1) ks) :
    xs.length ≤ sizeLine ∧ (a == sysModules) = false ∧ ∃ ys, Paired rEN xs ys ∧ h.DictOfH (nestedKind P w) a ys := by
  obtain ⟨z, hd, ys, pr, o, es, ep, h1, h2, h3, h4, h5⟩ := dn_get ok e
  have all := keys_is sb ok pr hk ha hx
  exact ⟨z, hd, ys, pr, o, es, ep, h1, h2, h3, by rw [h4]; exact ent_eq fun y hy => (all y hy).2, fun y hy => (all y hy).1, h5⟩
theorem veq_nk {k q : Val} (hk : isTupK k = true) (hq : isTupK q = true) : (nk k = nk q) ↔ veq k q = true := nk_inj k q (isTupK_key hk).1 (isTupK_key hq).1
theorem has_at : ∀ {xs : List EN} {ks : List Val} {ys : List (NestedKey × Addr × Value)} {q : Val}, Paired rEN xs ys → xs.map (fun x => x.1) = nks ks → ks.all isTupK = true → isTupK q = true → (atKey ys (nk q)).isSome = hasN ks q
  | [], ks, _, q, pr, hk, ha, hq => by
    cases pr
    cases ks with
    | nil => rfl
    | cons k ks => simp [nks] at hk
  | x :: xs, [], _, q, pr, hk, ha, hq => by simp [nks] at hk
  | x :: xs, k :: ks, _, q, pr, hk, ha, hq => by
    cases pr with
    | cons e pr =>
      rename_i y ys
      simp only [List.map_cons, nks, List.cons.injEq] at hk
      simp only [List.all_cons, Bool.and_eq_true] at ha
      have ih := has_at pr hk.2 ha.2 hq
      have e1 : y.1 = nk k := by rw [← e.1]; exact hk.1
      unfold atKey hasN at ih ⊢
      rw [List.find?_cons, List.any_cons]
      by_cases c : veq k q = true
      · have : y.1 = nk q := by rw [e1]; exact (veq_nk ha.1 hq).mpr c
        simp [this, c]
      · have n : ¬ (y.1 = nk q) := fun z => c ((veq_nk ha.1 hq).mp (e1.symm.trans z))
        rw [decide_eq_false n]
        simp only [Bool.not_eq_true] at c
        rw [c]
        simpa using ih
theorem find_at : ∀ {xs : List EN} {ks vs : List Val} {ys : List (NestedKey × Addr × Value)} {q d : Val}, Paired rEN xs ys → xs.map (fun x => x.1) = nks ks → ks.all isTupK = true → RpAll K dr R (xs.map fun x => x.2.2) vs → isTupK q = true → dfindN ks vs q = some d → ∃ p u v, atKey ys (nk q) = some (p, u) ∧ RelV v u ∧ Rp K dr R v d
  | [], ks, vs, _, q, d, pr, hk, ha, hs, hq, hf => by
    cases pr
    cases ks with
    | nil => simp [dfindN] at hf
    | cons k ks => simp [nks] at hk
  | x :: xs, [], vs, _, q, d, pr, hk, ha, hs, hq, hf => by simp [nks] at hk
  | x :: xs, k :: ks, vs, _, q, d, pr, hk, ha, hs, hq, hf => by
    cases pr with
    | cons e pr =>
      rename_i y ys
      cases hs with
      | cons r rs =>
        simp only [List.map_cons, nks, List.cons.injEq] at hk
        simp only [List.all_cons, Bool.and_eq_true] at ha
        have e1 : y.1 = nk k := by rw [← e.1]; exact hk.1
        unfold dfindN at hf
        split at hf
        · rename_i c
          cases hf
          have : y.1 = nk q := by rw [e1]; exact (veq_nk ha.1 hq).mpr c
          refine ⟨y.2.1, y.2.2, x.2.2, ?_, e.2.2, r⟩
          unfold atKey
          rw [List.find?_cons, decide_eq_true this]
          rfl
        · rename_i c
          have n : ¬ (y.1 = nk q) := fun z => c ((veq_nk ha.1 hq).mp (e1.symm.trans z))
          obtain ⟨p, u, v, h1, h2, h3⟩ := find_at pr hk.2 ha.2 rs hq hf
          refine ⟨p, u, v, ?_, h2, h3⟩
          unfold atKey at h1 ⊢
          rw [List.find?_cons, decide_eq_false n]
          exact h1
theorem find_none : ∀ {ks vs : List Val} {q : Val}, ks.length ≤ vs.length → (dfindN ks vs q = none ↔ hasN ks q = false)
  | [], vs, q, _ => by simp [dfindN, hasN]
  | k :: ks, [], q, h => by simp at h
  | k :: ks, v :: vs, q, h => by
    have ih := find_none (ks := ks) (vs := vs) (q := q) (by simpa using h)
    unfold dfindN
    unfold hasN at ih ⊢
    rw [List.any_cons]
    by_cases c : veq k q = true
    · simp [c]
    · rw [if_neg c]
      simp only [Bool.not_eq_true] at c
      rw [c, Bool.false_or]
      exact ih
/-! ### stores -/
def putX (xs : List EN) (k : NestedKey) (p : Addr) (v : V) : List EN := if (xs.any fun x => decide (x.1 = k)) then xs.map (fun x => if x.1 = k then (x.1, x.2.1, v) else x) else xs ++ [(k, p, v)]
theorem any_atKey : ∀ {xs : List EN} {ys : List (NestedKey × Addr × Value)} {k : NestedKey}, Paired rEN xs ys → (xs.any fun x => decide (x.1 = k)) = (atKey ys k).isSome
  | [], _, k, pr => by cases pr; rfl
  | x :: xs, _, k, pr => by
    cases pr with
    | cons e pr =>
      rename_i y ys
      have ih := any_atKey (k := k) pr
      unfold atKey at ih ⊢
      rw [List.any_cons, List.find?_cons, e.1]
      by_cases c : y.1 = k
      · simp [c]
      · rw [decide_eq_false c, Bool.false_or]
        exact ih
theorem paired_put : ∀ {xs : List EN} {ys : List (NestedKey × Addr × Value)} {k : NestedKey} {p : Addr} {v : V} {u : Value}, Paired rEN xs ys → RelV v u → Paired rEN (putX xs k p v) (storedH ys k p u) := by
  intro xs ys k p v u pr rv
  unfold putX storedH
  rw [any_atKey pr]
  by_cases c : (atKey ys k).isSome = true
  · rw [if_pos c, if_pos c]
    clear c
    induction pr with
    | nil => exact .nil
    | @cons x y xs ys e pr ih =>
      simp only [List.map_cons]
      refine .cons ?_ ih
      unfold putAt
      rw [e.1]
      by_cases q : y.1 = k
      · rw [if_pos q, if_pos q]
        exact ⟨e.1 ▸ rfl, e.2.1, rv⟩
      · rw [if_neg q, if_neg q]
        exact e
  · rw [if_neg c, if_neg c]
    exact Paired.snoc pr ⟨rfl, rfl, rv⟩
theorem putX_len {xs : List EN} {k : NestedKey} {p : Addr} {v : V} : (putX xs k p v).length ≤ xs.length + 1 := by
  unfold putX
  split
  · simp
  · simp
theorem any_has : ∀ {xs : List EN} {ks : List Val} {q : Val}, xs.map (fun x => x.1) = nks ks → ks.all isTupK = true → isTupK q = true → (xs.any fun x => decide (x.1 = nk q)) = hasN ks q
  | [], ks, q, hk, ha, hq => by
    cases ks with
    | nil => rfl
    | cons k ks => simp [nks] at hk
  | x :: xs, [], q, hk, ha, hq => by simp [nks] at hk
  | x :: xs, k :: ks, q, hk, ha, hq => by
    simp only [List.map_cons, nks, List.cons.injEq] at hk
    simp only [List.all_cons, Bool.and_eq_true] at ha
    have ih := any_has hk.2 ha.2 hq
    unfold hasN at ih ⊢
    rw [List.any_cons, List.any_cons, ih, hk.1]
    congr 1
    by_cases c : veq k q = true
    · rw [c]; exact decide_eq_true ((veq_nk ha.1 hq).mpr c)
    · rw [decide_eq_false (fun z => c ((veq_nk ha.1 hq).mp z))]
      simpa using c
theorem nks_app : ∀ (xs ys : List Val), nks (xs ++ ys) = nks xs ++ nks ys
  | [], ys => rfl
  | x :: xs, ys => by simp only [List.cons_append, nks, nks_app xs ys]
theorem put_keys {xs : List EN} {ks : List Val} {q : Val} {p : Addr} {v : V} (hk : xs.map (fun x => x.1) = nks ks) (ha : ks.all isTupK = true) (hx : RpAll K dr R (xs.map fun x => V.ref x.2.1) ks) (hq : isTupK q = true) (r : Rp K dr R (.ref p) q) :
    (putX xs (nk q) p v).map (fun x => x.1) = nks (dputK ks q) ∧ (dputK ks q).all isTupK = true ∧ RpAll K dr R ((putX xs (nk q) p v).map fun x => V.ref x.2.1) (dputK ks q) := by
  unfold putX dputK
  rw [any_has hk ha hq]
  by_cases c : hasN ks q = true
  · rw [if_pos c, if_pos c]
    have e1 : ∀ l : List EN, (l.map (fun x => if x.1 = nk q then (x.1, x.2.1, v) else x)).map (fun x => x.1) = l.map fun x => x.1 := fun l => by
      rw [List.map_map]
      apply List.map_congr_left
      intro x _
      simp only [Function.comp]
      split <;> rfl
    have e2 : ∀ l : List EN, (l.map (fun x => if x.1 = nk q then (x.1, x.2.1, v) else x)).map (fun x => V.ref x.2.1) = l.map fun x => V.ref x.2.1 := fun l => by
      rw [List.map_map]
      apply List.map_congr_left
      intro x _
      simp only [Function.comp]
      split <;> rfl
    rw [e1, e2]
    exact ⟨hk, ha, hx⟩
  · rw [if_neg c, if_neg c]
    refine ⟨?_, ?_, ?_⟩
    · rw [List.map_append, hk, nks_app]
      rfl
    · rw [List.all_append, ha]
      simp [hq]
    · rw [List.map_append]
      exact RpAll.append hx (.cons r .nil)
theorem dputV_len : ∀ {ks vs : List Val} {q y : Val}, ks.length = vs.length → (dputV ks vs q y).length ≤ vs.length + 1
  | [], [], q, y, _ => by simp [dputV]
  | [], _ :: _, q, y, h => by simp at h
  | _ :: _, [], q, y, h => by simp at h
  | k :: ks, v :: vs, q, y, h => by
    have := dputV_len (ks := ks) (vs := vs) (q := q) (y := y) (by simpa using h)
    unfold dputV
    split
    · simp
    · simp only [List.length_cons]; omega
/-- the first of the keys alone -/
theorem nodup_head {α : Type} [DecidableEq α] {x : α} {l : List α} (h : (x :: l).Nodup) : x ∉ l := (List.nodup_cons.mp h).1
theorem map_not {xs : List EN} {k : NestedKey} {v : V} (h : k ∉ xs.map fun x => x.1) : xs.map (fun x => if x.1 = k then (x.1, x.2.1, v) else x) = xs := by
  induction xs with
  | nil => rfl
  | cons x xs ih =>
    simp only [List.map_cons, List.mem_cons, not_or] at h ⊢
    rw [if_neg (fun z => h.1 z.symm), ih h.2]
theorem put_vals : ∀ {xs : List EN} {ks vs : List Val} {q y : Val} {p : Addr} {v : V}, xs.map (fun x => x.1) = nks ks → (xs.map fun x => x.1).Nodup → ks.all isTupK = true → RpAll K dr R (xs.map fun x => x.2.2) vs → isTupK q = true → Rp K dr R v y → RpAll K dr R ((putX xs (nk q) p v).map fun x => x.2.2) (dputV ks vs q y) := by
  intro xs ks vs q y p v hk nd ha hs hq rv
  have main : ∀ (xs : List EN) (ks vs : List Val), xs.map (fun x => x.1) = nks ks → (xs.map fun x => x.1).Nodup → ks.all isTupK = true → RpAll K dr R (xs.map fun x => x.2.2) vs →
      (hasN ks q = true → RpAll K dr R ((xs.map (fun x => if x.1 = nk q then (x.1, x.2.1, v) else x)).map fun x => x.2.2) (dputV ks vs q y)) ∧ (hasN ks q = false → RpAll K dr R ((xs ++ [(nk q, p, v)]).map fun x => x.2.2) (dputV ks vs q y)) := by
    intro xs
    induction xs with
    | nil =>
      intro ks vs hk nd ha hs
      cases ks with
      | cons k ks => simp [nks] at hk
      | nil =>
        cases hs
        exact ⟨fun z => by simp [hasN] at z, fun _ => by simp only [dputV]; exact .cons rv .nil⟩
    | cons x xs ih =>
      intro ks vs hk nd ha hs
      cases ks with
      | nil => simp [nks] at hk
      | cons k ks =>
        cases hs with
        | cons r rs =>
          rename_i d ds
          simp only [List.map_cons, nks, List.cons.injEq] at hk
          simp only [List.all_cons, Bool.and_eq_true] at ha
          simp only [List.map_cons, List.nodup_cons] at nd
          obtain ⟨i1, i2⟩ := ih ks ds hk.2 nd.2 ha.2 rs
          by_cases c : veq k q = true
          · have ex : x.1 = nk q := by rw [hk.1]; exact (veq_nk ha.1 hq).mpr c
            refine ⟨fun _ => ?_, fun z => by simp [hasN, c] at z⟩
            simp only [dputV]
            rw [if_pos c]
            simp only [List.map_cons]
            rw [if_pos ex, map_not (by rw [← ex]; exact nd.1)]
            exact .cons rv rs
          · have nx : ¬ (x.1 = nk q) := fun z => c ((veq_nk ha.1 hq).mp (hk.1.symm.trans z))
            have hc : hasN (k :: ks) q = hasN ks q := by
              unfold hasN
              rw [List.any_cons]
              simp only [Bool.not_eq_true] at c
              rw [c, Bool.false_or]
            rw [hc]
            simp only [dputV]
            rw [if_neg c]
            refine ⟨fun z => ?_, fun z => ?_⟩
            · simp only [List.map_cons]
              rw [if_neg nx]
              exact .cons r (i1 z)
            · exact .cons r (i2 z)
  obtain ⟨m1, m2⟩ := main xs ks vs hk nd ha hs
  unfold putX
  rw [any_has hk ha hq]
  cases c : hasN ks q with
  | true => rw [if_pos rfl]; exact m1 c
  | false => rw [if_neg Bool.false_ne_true]; exact m2 c
/-! numbers -/
theorem kI_int {k : Val} (h : isI k = true) : ∃ i, k = .int i := by
  cases k <;> simp [isI] at h
  exact ⟨_, rfl⟩
theorem kI_eq {k q : Val} (hk : isI k = true) (hq : isI q = true) : kI k = kI q ↔ veq k q = true := by
  obtain ⟨i, rfl⟩ := kI_int hk
  obtain ⟨j, rfl⟩ := kI_int hq
  simp [kI, veq]
theorem hasI : ∀ {ps : List (Key × V)} {ks : List Val} {q : Val}, ps.map (fun p => p.1) = ks.map kI → ks.all isI = true → isI q = true → (valV ps (kI q)).isSome = hasN ks q
  | [], ks, q, hk, ha, hq => by
    cases ks with
    | nil => rfl
    | cons k ks => simp at hk
  | p :: ps, [], q, hk, ha, hq => by simp at hk
  | p :: ps, k :: ks, q, hk, ha, hq => by
    simp only [List.map_cons, List.cons.injEq] at hk
    simp only [List.all_cons, Bool.and_eq_true] at ha
    have ih := hasI hk.2 ha.2 hq
    unfold hasN at ih ⊢
    rw [List.any_cons]
    by_cases c : veq k q = true
    · rw [valV_pos (hk.1.trans ((kI_eq ha.1 hq).mpr c)), c]
      rfl
    · rw [valV_neg (fun z => c ((kI_eq ha.1 hq).mp (hk.1.symm.trans z))), ih]
      simp only [Bool.not_eq_true] at c
      rw [c, Bool.false_or]
theorem findI : ∀ {ps : List (Key × V)} {ks vs : List Val} {q d : Val}, ps.map (fun p => p.1) = ks.map kI → ks.all isI = true → RpAll K dr R (ps.map fun p => p.2) vs → isI q = true → dfindN ks vs q = some d → ∃ v, valV ps (kI q) = some v ∧ Rp K dr R v d
  | [], ks, vs, q, d, hk, ha, hs, hq, hf => by
    cases ks with
    | nil => simp [dfindN] at hf
    | cons k ks => simp at hk
  | p :: ps, [], vs, q, d, hk, ha, hs, hq, hf => by simp at hk
  | p :: ps, k :: ks, vs, q, d, hk, ha, hs, hq, hf => by
    cases hs with
    | cons r rs =>
      simp only [List.map_cons, List.cons.injEq] at hk
      simp only [List.all_cons, Bool.and_eq_true] at ha
      unfold dfindN at hf
      split at hf
      · rename_i c
        cases hf
        exact ⟨p.2, valV_pos (hk.1.trans ((kI_eq ha.1 hq).mpr c)), r⟩
      · rename_i c
        obtain ⟨v, h1, h2⟩ := findI hk.2 ha.2 rs hq hf
        exact ⟨v, by rw [valV_neg (fun z => c ((kI_eq ha.1 hq).mp (hk.1.symm.trans z)))]; exact h1, h2⟩
theorem putI : ∀ {ps : List (Key × V)} {ks vs : List Val} {q y : Val} {v : V}, ps.map (fun p => p.1) = ks.map kI → (ps.map fun p => p.1).Nodup → ks.all isI = true → RpAll K dr R (ps.map fun p => p.2) vs → isI q = true → Rp K dr R v y →
    (putK ps (kI q) v).map (fun p => p.1) = (dputK ks q).map kI ∧ (dputK ks q).all isI = true ∧ RpAll K dr R ((putK ps (kI q) v).map fun p => p.2) (dputV ks vs q y) := by
  intro ps ks vs q y v hk nd ha hs hq rv
  have ca : (ps.any fun kv => decide (kv.1 = kI q)) = hasN ks q := by rw [valV_any]; exact hasI hk ha hq
  have mn : ∀ (l : List (Key × V)), kI q ∉ l.map (fun p => p.1) → l.map (fun kv => if kv.1 = kI q then (kv.1, v) else kv) = l := fun l h => by
    induction l with
    | nil => rfl
    | cons x xs ih =>
      simp only [List.map_cons, List.mem_cons, not_or] at h ⊢
      rw [if_neg (fun z => h.1 z.symm), ih h.2]
  have main : ∀ (ps : List (Key × V)) (ks vs : List Val), ps.map (fun p => p.1) = ks.map kI → (ps.map fun p => p.1).Nodup → ks.all isI = true → RpAll K dr R (ps.map fun p => p.2) vs →
      (hasN ks q = true → RpAll K dr R ((ps.map (fun kv => if kv.1 = kI q then (kv.1, v) else kv)).map fun p => p.2) (dputV ks vs q y)) ∧ (hasN ks q = false → RpAll K dr R ((ps ++ [(kI q, v)]).map fun p => p.2) (dputV ks vs q y)) := by
    intro ps
    induction ps with
    | nil =>
      intro ks vs hk nd ha hs
      cases ks with
      | cons k ks => simp at hk
      | nil =>
        cases hs
        exact ⟨fun z => by simp [hasN] at z, fun _ => by simp only [dputV]; exact .cons rv .nil⟩
    | cons x xs ih =>
      intro ks vs hk nd ha hs
      cases ks with
      | nil => simp at hk
      | cons k ks =>
        cases hs with
        | cons r rs =>
          rename_i d ds
          simp only [List.map_cons, List.cons.injEq] at hk
          simp only [List.all_cons, Bool.and_eq_true] at ha
          simp only [List.map_cons, List.nodup_cons] at nd
          obtain ⟨i1, i2⟩ := ih ks ds hk.2 nd.2 ha.2 rs
          by_cases c : veq k q = true
          · have ex : x.1 = kI q := by rw [hk.1]; exact (kI_eq ha.1 hq).mpr c
            refine ⟨fun _ => ?_, fun z => by simp [hasN, c] at z⟩
            simp only [dputV]
            rw [if_pos c]
            simp only [List.map_cons]
            rw [if_pos ex, mn xs (by rw [← ex]; exact nd.1)]
            exact .cons rv rs
          · have nx : ¬ (x.1 = kI q) := fun z => c ((kI_eq ha.1 hq).mp (hk.1.symm.trans z))
            have hc : hasN (k :: ks) q = hasN ks q := by
              unfold hasN
              rw [List.any_cons]
              simp only [Bool.not_eq_true] at c
              rw [c, Bool.false_or]
            rw [hc]
            simp only [dputV]
            rw [if_neg c]
            refine ⟨fun z => ?_, fun z => ?_⟩
            · simp only [List.map_cons]
              rw [if_neg nx]
              exact .cons r (i1 z)
            · exact .cons r (i2 z)
  obtain ⟨m1, m2⟩ := main ps ks vs hk nd ha hs
  unfold putK dputK
  rw [ca]
  cases c : hasN ks q with
  | true =>
    rw [if_pos rfl, if_pos rfl]
    refine ⟨?_, ha, m1 c⟩
    rw [← hk, List.map_map]
    apply List.map_congr_left
    intro x _
    simp only [Function.comp]
    split <;> rfl
  | false =>
    rw [if_neg Bool.false_ne_true, if_neg Bool.false_ne_true]
    refine ⟨?_, ?_, m2 c⟩
    · simp only [List.map_append, hk, List.map_cons, List.map_nil]
    · rw [List.all_append, ha]
      simp [hq]
end
end BG

/-! BG.DictR: the rules for such dicts. -/
namespace BG
open PySem PySem.Spec PyProof.Rows L2
theorem ask_cases {K : PySem.W.Frag} {dr : Dr} {R : Hp} {a : Addr} {o : HO} {ks vs : List Val} {q : Val} (ob : ObjR K dr R a o (.dcn ks vs)) (hq : dOk ks q = true) :
    (∃ ps : List (Key × V), o = .dK ps ∧ ps.map (fun p => p.1) = ks.map kI ∧ ks.all isI = true ∧ ks ≠ [] ∧ RpAll K dr R (ps.map fun p => p.2) vs ∧ vs.length ≤ lim ∧ isI q = true) ∨
    (∃ xs : List EN, o = DN a xs ∧ xs.map (fun x => x.1) = nks ks ∧ ks.all isTupK = true ∧ RpAll K dr R (xs.map fun x => V.ref x.2.1) ks ∧ RpAll K dr R (xs.map fun x => x.2.2) vs ∧ vs.length ≤ lim ∧ isTupK q = true) ∨
    (o = DN a [] ∧ ks = [] ∧ vs = [] ∧ isI q = true) := by
  have no : ∀ k, isI k = true → isTupK k = true → False := fun k h1 h2 => by cases k <;> simp [isI, isTupK] at h1 h2
  simp only [dOk, Bool.or_eq_true, Bool.and_eq_true] at hq
  rcases ob with ⟨xs, ds, h1, h2, h3⟩ | ⟨ps, ks', vs', h1, h2, h3, h4, h5, h6, h7⟩ | ⟨xs, ks', vs', h1, h2, h3, h4, h5, h6, h7⟩
  · cases h2
  · cases h2
    refine .inl ⟨ps, h1, h3, h4, h5, h6, h7, ?_⟩
    rcases hq with ⟨_, q2⟩ | ⟨q1, _⟩
    · cases ks with
      | nil => exact absurd rfl h5
      | cons k ks =>
        simp only [List.all_cons, Bool.and_eq_true] at q2 h4
        exact (no k h4.1 q2.1).elim
    · exact q1
  · cases h2
    rcases hq with ⟨q1, _⟩ | ⟨q1, q2⟩
    · exact .inr (.inl ⟨xs, h1, h3, h4, h5, h6, h7, q1⟩)
    · cases ks with
      | nil =>
        have e : xs = [] := by
          have := congrArg List.length h3
          simp only [nks, List.length_map, List.length_nil] at this
          exact List.length_eq_zero_iff.mp this
        subst e
        have ev : vs = [] := by
          cases h6
          rfl
        exact .inr (.inr ⟨h1, rfl, ev, q1⟩)
      | cons k ks =>
        simp only [List.all_cons, Bool.and_eq_true] at q2 h4
        exact (no k q2.1 h4.1).elim
theorem lim_line1' {n : Nat} (h : n < lim) : n < sizeLine := Nat.lt_of_lt_of_le h (by decide)
theorem nested_room {prog : Program} {w : World} {A : Around} (hu : A.units + 64 < cLine) : (nestedKind prog w).room A.in1 := by
  show A.units + 1 + 8 < cLine
  omega
theorem tup_ref {K : PySem.W.Frag} {dr : Dr} {R : Hp} {v : V} {q : Val} (hq : isTupK q = true) (r : Rp K dr R v q) : ∃ p, v = .ref p := by
  cases q <;> simp [isTupK] at hq
  cases r with
  | tup h hs hl => exact ⟨_, rfl⟩
section
variable {X : Cx}
theorem upd_upd {H : Hp} {a : Addr} {o o' : HO} : upd (upd H a o) a o' = upd H a o' := by
  funext b
  by_cases e : b = a
  · rw [e, upd_same, upd_same]
  · rw [upd_ne e, upd_ne e, upd_ne e]
theorem upd_self {H : Hp} {a : Addr} {o : HO} (h : H a = some o) : upd H a o = H := by
  funext b
  by_cases e : b = a
  · rw [e, upd_same, h]
  · rw [upd_ne e]
/-- an empty dict is one of any kind -/
theorem dn_as_dk {pins : List (Addr × Obj)} {σ : St} {H : Hp} {s : Shared} {a : Addr} (I : Inv X pins σ H s) (ha : H a = some (DN a [])) : Inv X pins σ (upd H a (.dK [])) s := by
  obtain ⟨z, hd, ys, pr, o, es, ep, h1, h2, h3, h4, h5⟩ := dn_get I.hok ha
  cases pr
  have e0 : es = #[] := by
    apply Array.ext'
    simpa using h4
  subst e0
  exact d_write (t' := s.toks) (h' := s.heap) I (by rw [ha]; trivial) ⟨rfl, fun b hb => rfl⟩ ⟨o, h1⟩ (dk_new (Nat.zero_le _) hd .nil ⟨o, #[], ep, h1, h2, h3, by intro e he; simp at he, .nil, List.nodup_nil⟩)
theorem dk_as_dn {pins : List (Addr × Obj)} {σ : St} {H : Hp} {s : Shared} {a : Addr} (ha : H a = some (DN a [])) (I : Inv X pins σ (upd H a (.dK [])) s) : Inv X pins σ H s := by
  obtain ⟨z, hd, vs, rel, dd⟩ := dk_of I.hok upd_same
  cases rel
  obtain ⟨o, es, ep, h1, h2, h3, hk, hp, hn⟩ := dd
  have e0 : es.toList = [] := by
    generalize es.toList = l at hp
    cases hp
    rfl
  have := d_write (ob := DN a []) (t' := s.toks) (h' := s.heap) I (by rw [upd_same]; trivial) ⟨rfl, fun b hb => rfl⟩ ⟨o, h1⟩ (dn_new ⟨Nat.zero_le _, hd, [], .nil, o, es, ep, h1, h2, h3, e0, List.nodup_nil⟩)
  rw [upd_upd, upd_self ha] at this
  exact this
def rInN (K : PySem.W.Frag) (neg : Bool) : R2 := fun x y H Q => ∃ (a : Addr) (ks vs : List Val) (q : Val) (dr : Dr) (R : Hp) (o : HO), y = .ref a ∧ Sub R H ∧ H a = some o ∧ ObjR K dr R a o (.dcn ks vs) ∧ Rp K dr R x q ∧ dOk ks q = true ∧ Q (.bl (if neg then !hasN ks q else hasN ks q)) H
theorem op_inN (hu : X.A.units + 64 < cLine) : OpR X (compareOp .In) (rInN X.K false) := by
  intro pins s σ H x y v u Q I rx ry h
  obtain ⟨a, ks, vs, q, dr, R, o, rfl, sb, ha, ob, rq, ok, qq⟩ := h
  cases (show u = Value.ref a from ry)
  rw [if_neg Bool.false_ne_true] at qq
  rcases ask_cases ob ok with ⟨ps, rfl, h1, h2, h3, h4, h5, hq⟩ | ⟨xs, rfl, h1, h2, h3, h4, h5, hq⟩ | ⟨rfl, rfl, rfl, hq⟩
  · obtain ⟨i, rfl⟩ := kI_int hq
    cases rq
    refine d_in (y := kV (.inl i)) (by omega) I (DGet.k (k := .inl i) ha) rx fun s' I' => ⟨.bl _, H, I', ?_, qq⟩
    rw [← hasI h1 h2 hq]
    rfl
  · obtain ⟨p, rfl⟩ := tup_ref hq rq
    cases (show v = Value.ref p from rx)
    obtain ⟨z, hd, ys, pr, dd⟩ := dn_lib sb I.hok ha h1 h2 h3
    refine wpAny_in_heap (nested_room hu) (key_is sb I.hok hq rq) hd dd ?_
    rw [has_at pr h1 h2 hq]
    exact ⟨.bl _, H, I.tok _, rfl, qq⟩
  · obtain ⟨i, rfl⟩ := kI_int hq
    cases rq
    exact d_in (y := kV (.inl i)) (by omega) (dn_as_dk I ha) (DGet.k (k := .inl i) upd_same) rx fun s' I' => ⟨.bl _, H, dk_as_dn ha I', rfl, qq⟩
theorem op_notInN (hu : X.A.units + 64 < cLine) : OpR X (compareOp .NotIn) (rInN X.K true) := by
  intro pins s σ H x y v u Q I rx ry h
  obtain ⟨a, ks, vs, q, dr, R, o, rfl, sb, ha, ob, rq, ok, qq⟩ := h
  cases (show u = Value.ref a from ry)
  rw [if_pos rfl] at qq
  rcases ask_cases ob ok with ⟨ps, rfl, h1, h2, h3, h4, h5, hq⟩ | ⟨xs, rfl, h1, h2, h3, h4, h5, hq⟩ | ⟨rfl, rfl, rfl, hq⟩
  · obtain ⟨i, rfl⟩ := kI_int hq
    cases rq
    refine d_notIn (y := kV (.inl i)) (by omega) I (DGet.k (k := .inl i) ha) rx fun s' I' => ⟨.bl _, H, I', ?_, qq⟩
    rw [← hasI h1 h2 hq]
    rfl
  · obtain ⟨p, rfl⟩ := tup_ref hq rq
    cases (show v = Value.ref p from rx)
    obtain ⟨z, hd, ys, pr, dd⟩ := dn_lib sb I.hok ha h1 h2 h3
    refine notIn_keyed (nested_room hu) (key_is sb I.hok hq rq) hd ⟨ys, dd, rfl⟩ ?_
    rw [valueAt_pairsH, Option.isSome_map, has_at pr h1 h2 hq]
    exact ⟨.bl _, H, I.tok _, rfl, qq⟩
  · obtain ⟨i, rfl⟩ := kI_int hq
    cases rq
    exact d_notIn (y := kV (.inl i)) (by omega) (dn_as_dk I ha) (DGet.k (k := .inl i) upd_same) rx fun s' I' => ⟨.bl _, H, dk_as_dn ha I', rfl, qq⟩
/-- d[k] -/
def rIxN (K : PySem.W.Frag) : R2 := fun x y H Q => ∃ (a : Addr) (ks vs : List Val) (q z : Val) (dr : Dr) (R : Hp) (o : HO), x = .ref a ∧ Sub R H ∧ H a = some o ∧ ObjR K dr R a o (.dcn ks vs) ∧ Rp K dr R y q ∧ dOk ks q = true ∧ dfindN ks vs q = some z ∧ ∀ v, Rp K dr R v z → Q v H
theorem ix_N (hu : X.A.units + 64 < cLine) : IxR X (rIxN X.K) := by
  intro value slice pins s σ H x y u v Q I rx ry h hsub
  obtain ⟨a, ks, vs, q, z, dr, R, o, rfl, sb, ha, ob, rq, ok, hf, qq⟩ := h
  cases (show u = Value.ref a from rx)
  rcases ask_cases ob ok with ⟨ps, rfl, h1, h2, h3, h4, h5, hq⟩ | ⟨xs, rfl, h1, h2, h3, h4, h5, hq⟩ | ⟨rfl, rfl, rfl, hq⟩
  · obtain ⟨w0, f1, f2⟩ := findI h1 h2 h4 hq hf
    obtain ⟨z, hd, us, rel, dd⟩ := dk_of I.hok ha
    obtain ⟨i, rfl⟩ := kI_int hq
    cases rq
    exact tail_any dd.typeIs slot_dict_getitem.lookup (d_getItem (y := kV (.inl i)) (by omega) I (by rw [← f1]; exact DGet.k (k := .inl i) ha) ry fun w' s' I' r' => ⟨w0, H, I', r', qq w0 f2⟩) hsub
  · obtain ⟨p, rfl⟩ := tup_ref hq rq
    cases (show v = Value.ref p from ry)
    obtain ⟨z, hd, ys, pr, dd⟩ := dn_lib sb I.hok ha h1 h2 h3
    obtain ⟨p', u', v', f1, f2, f3⟩ := find_at pr h1 h2 h4 hq hf
    exact tail_any dd.typeIs slot_dict_getitem.lookup (wpAny_getItem_heap (nested_room hu) (key_is sb I.hok hq rq) dd f1 ⟨v', H, I.tok _, f2, qq v' f3⟩) hsub
  · simp [dfindN] at hf
theorem paired_nodup : ∀ {xs : List EN} {ys : List (NestedKey × Addr × Value)}, Paired rEN xs ys → xs.map (fun x => x.1) = ys.map (·.1)
  | [], _, pr => by cases pr; rfl
  | x :: xs, _, pr => by
    cases pr with
    | cons e pr => simp only [List.map_cons, e.1, paired_nodup pr]
theorem kv_keys : ∀ {ps : List (Key × V)} {vs : List (Key × Value)}, KV ps vs → ps.map (fun p => p.1) = vs.map (·.1)
  | [], _, pr => by cases pr; rfl
  | p :: ps, _, pr => by
    cases pr with
    | cons e pr => simp only [List.map_cons, e.1, kv_keys pr]
theorem dput_ne {ks : List Val} {q : Val} : dputK ks q ≠ [] ∨ ks = [] ∧ hasN ks q = true := by
  unfold dputK
  split
  · rename_i h
    cases ks with
    | nil => simp [hasN] at h
    | cons k ks => exact .inl (by simp)
  · exact .inl (by simp)
/-- d[k] = v -/
def rSetN (K : PySem.W.Frag) : TSet := fun o i v H Q => ∃ (a : Addr) (ks vs : List Val) (q y : Val) (dr : Dr) (R : Hp) (ob : HO), o = .ref a ∧ Sub R H ∧ H a = some ob ∧ ObjR K dr R a ob (.dcn ks vs) ∧ Rp K dr R i q ∧ dOk ks q = true ∧ vs.length < lim ∧ Rp K dr R v y ∧ ∀ o', ObjR K dr R a o' (.dcn (dputK ks q) (dputV ks vs q y)) → Q (upd H a o')
theorem len_of {K : PySem.W.Frag} {dr : Dr} {R : Hp} {α : Type} {f : α → V} {l : List α} {ds : List Val} (h : RpAll K dr R (l.map f) ds) : l.length = ds.length := by
  have := h.len
  rwa [List.length_map] at this
theorem set_N (hu : X.A.units + 64 < cLine) : PSet X (rSetN X.K) := by
  intro pins s σ H o i v ov iv u Q I ro ri rv h
  obtain ⟨a, ks, vs, q, y, dr, R, ob, rfl, sb, ha, obr, rq, ok, hlim, ry, qq⟩ := h
  cases (show ov = Value.ref a from ro)
  rcases ask_cases obr ok with ⟨ps, rfl, h1, h2, h3, h4, h5, hq⟩ | ⟨xs, rfl, h1, h2, h3, h4, h5, hq⟩ | ⟨rfl, rfl, rfl, hq⟩
  · obtain ⟨z, hd, us, rel, dd⟩ := dk_of I.hok ha
    have nd : (ps.map fun p => p.1).Nodup := by rw [kv_keys rel]; obtain ⟨_, _, _, _, _, _, _, _, n⟩ := dd; exact n
    obtain ⟨p1, p2, p3⟩ := putI h1 nd h2 h4 hq ry
    have l1 := len_of h4
    have l2 : ks.length = ps.length := by have := congrArg List.length h1; simpa using this.symm
    have hl' : (dputV ks vs q y).length ≤ lim := by have := dputV_len (ks := ks) (vs := vs) (q := q) (y := y) (by omega); omega
    obtain ⟨j, rfl⟩ := kI_int hq
    cases rq
    have ne : dputK ks (.int j) ≠ [] := by
      rcases dput_ne (ks := ks) (q := .int j) with z | ⟨z, _⟩
      · exact z
      · exact absurd z h3
    exact d_setItem (y := kV (.inl j)) (by omega) I (DPut.k (k := .inl j) ha (lim_line1' (by omega))) ri rv fun s' I' => ⟨_, I', qq _ (.inr (.inl ⟨_, _, _, rfl, rfl, p1, p2, ne, p3, hl'⟩))⟩
  · obtain ⟨p, rfl⟩ := tup_ref hq rq
    cases (show iv = Value.ref p from ri)
    obtain ⟨z, hd, ys, pr, dd⟩ := dn_lib sb I.hok ha h1 h2 h3
    have nd : (xs.map fun x => x.1).Nodup := by rw [paired_nodup pr]; obtain ⟨_, _, _, _, _, _, _, _, n⟩ := dd; exact n
    obtain ⟨p1, p2, p3⟩ := put_keys (p := p) (v := v) h1 h2 h3 hq rq
    have p4 := put_vals (p := p) h1 nd h2 h4 hq ry
    have l1 := len_of h4
    have l2 := len_of h3
    have hl' : (dputV ks vs q y).length ≤ lim := by have := dputV_len (ks := ks) (vs := vs) (q := q) (y := y) (by omega); omega
    refine wpAny_setItem_heap (hsz := by rw [← Paired.length pr]; exact z) (nested_room hu) (key_is sb I.hok hq rq) dd fun h' dd' hs => ?_
    obtain ⟨ob', es, ep, g1, g2, g3, g4, g5, g6⟩ := dd'
    have hall : ∀ y' ∈ storedH ys (nk q) p u, noT y'.1 = true := by
      have pp := paired_put (k := nk q) (p := p) pr rv
      have := paired_nodup pp
      intro y' hy'
      have m : y'.1 ∈ (putX xs (nk q) p v).map fun x => x.1 := by rw [this]; exact List.mem_map.mpr ⟨y', hy', rfl⟩
      rw [p1] at m
      have all : ∀ (l : List Val) (k : NestedKey), k ∈ nks l → noT k = true := fun l => by
        induction l with
        | nil => intro k hk; simp [nks] at hk
        | cons x l ih =>
          intro k hk
          simp only [nks, List.mem_cons] at hk
          rcases hk with rfl | hk
          · exact noT_nk x
          · exact ih k hk
      exact all _ _ m
    have new : DNφ a (putX xs (nk q) p v) h' := by
      refine ⟨?_, hd, storedH ys (nk q) p u, paired_put pr rv, ob', es, ep, g1, g2, g3, ?_, g6⟩
      · have := putX_len (xs := xs) (k := nk q) (p := p) (v := v)
        have : xs.length < sizeLine := lim_line1' (by omega)
        omega
      · rw [g4]
        exact (ent_eq hall).symm
    exact ⟨_, d_write (ob := DN a (putX xs (nk q) p v)) I (by rw [ha]; trivial) hs ⟨ob', g1⟩ (dn_new new), qq _ (.inr (.inr ⟨_, _, _, rfl, rfl, p1, p2, p3, p4, hl'⟩))⟩
  · obtain ⟨j, rfl⟩ := kI_int hq
    cases rq
    refine d_setItem (y := kV (.inl j)) (by omega) (dn_as_dk I ha) (DPut.k (k := .inl j) upd_same (by show 0 < sizeLine; decide)) ri rv fun s' I' => ⟨upd H a (.dK [(.inl j, v)]), ?_, qq _ (.inr (.inl ⟨[(.inl j, v)], [.int j], [y], rfl, rfl, rfl, rfl, by simp, .cons ry .nil, by show 1 ≤ lim; decide⟩))⟩
    rw [upd_upd] at I'
    exact I'
/-! ### {} and {k: v} -/
theorem dn_empty {p : Addr} {h : Heap} (hp : p = h.objs.size) (hb : (p == sysModules) = false) : DNφ p [] (h.push { cls := .type "dict", data := .dict #[] }) := by
  subst hp
  exact ⟨Nat.zero_le _, hb, [], .nil, _, #[], 0, Heap.get?_push_size h rfl, ⟨rfl, rfl, rfl⟩, rfl, rfl, List.nodup_nil⟩
theorem big_ne {pins : List (Addr × Obj)} {σ : St} {H : Hp} {s : Shared} (I : Inv X pins σ H s) : (s.heap.objs.size == sysModules) = false := beq_eq_false_iff_ne.mpr (Ne.symm (Nat.ne_of_lt I.big))
theorem pe_dnewN {pos : Pos} : PE X (.Dict [] [] pos) (fun _ H Q => ∀ p, H p = none → Q (.ref p) (upd H p (DN p []))) := ⟨fun pins s σ H Q I h =>
  wpAny_Dict_empty ⟨.ref s.heap.objs.size, _, I.laid (a := s.heap.objs.size) (o := DN s.heap.objs.size []) (t' := s.toks) (fun _ _ q => Heap.get?_push_of_some _ q) (Nat.le_refl _) (dn_new (dn_empty rfl (big_ne I))), rfl, h _ (I.hok.fresh (Nat.le_refl _))⟩⟩
def tLitN (K : PySem.W.Frag) (tk tv : TE) : TE := fun σ H Q => ∀ p, H p = none → tk σ (upd H p (DN p [])) fun x H1 => tv σ H1 fun y H2 => ∃ (q : Val) (dr : Dr) (R : Hp) (kp : Addr), H2 p = some (DN p []) ∧ Sub R H2 ∧ x = .ref kp ∧ Rp K dr R x q ∧ isTupK q = true ∧ Q (.ref p) (upd H2 p (DN p [(nk q, kp, y)]))
theorem pe_dlitN {k v : Expr} {tk tv : TE} {pos : Pos} (hu : X.A.units + 64 < cLine) (hk : PE X k tk) (hv : PE X v tv) : PE X (.Dict [some k] [v] pos) (tLitN X.K tk tv) := by
  refine ⟨fun pins s σ H Q I q => ?_⟩
  have hn := I.hok.fresh (Nat.le_refl s.heap.objs.size)
  have I1 := I.laid (a := s.heap.objs.size) (o := DN s.heap.objs.size []) (h' := s.heap.push { cls := .type "dict", data := .dict #[] }) (t' := s.toks) (fun _ _ q => Heap.get?_push_of_some _ q) (Nat.le_refl _) (dn_new (dn_empty rfl (big_ne I)))
  have hshape := zip_pairTrees [some k] [v] X.env pos rfl rfl
  rw [arm_eval_Dict, hshape, dictDisplay_pairs _ (by intro z; cases z) (by show 1 < 17; decide)]
  refine wpAny_bind (wpAny_standAt (wpAny_bind (wpAny_subDictH (knd := nestedKind X.prog X.w) (Q := fun d s' => wpAny (model X.prog X.w) X.A (pure (Value.ref d)) (EP X pins σ Q) X.xe s') (show X.A.units + 8 < cLine by omega) (by show 1 ≤ 15; decide) ?_)))
  refine thn ((pps_cons hk hv pps_nil).run pins _ σ _ (fun ps H2 => match ps with
    | [(x, y)] => ∃ (q : Val) (dr : Dr) (R : Hp) (kp : Addr), H2 s.heap.objs.size = some (DN s.heap.objs.size []) ∧ Sub R H2 ∧ x = .ref kp ∧ Rp X.K dr R x q ∧ isTupK q = true ∧ Q (.ref s.heap.objs.size) (upd H2 s.heap.objs.size (DN s.heap.objs.size [(nk q, kp, y)]))
    | _ => False) I1 (q _ hn)) fun vs s₁ ⟨ps, H2, I2, rel, h⟩ => ?_
  split at h
  · rename_i x y
    obtain ⟨kq, dr, R, kp, hp, sb, rfl, rq, tq, qq⟩ := h
    cases rel with
    | @cons _ vv _ _ e rel =>
      cases rel
      obtain ⟨e1, e2⟩ := e
      obtain ⟨v1, v2⟩ := vv
      simp only at e1 e2
      cases (show v1 = Value.ref kp from e1)
      obtain ⟨z, hd, ys, pr, dd⟩ := dn_lib (K := X.K) (ks := []) (dr := dr) sb I2.hok hp rfl rfl .nil
      cases pr
      refine ⟨[(nk kq, kp, v2)], ⟨rfl, rfl, key_is sb I2.hok tq rq, trivial⟩, dd, fun h' tk dd' hs => wpAny_pure ?_⟩
      obtain ⟨o, es, ep, g1, g2, g3, g4, g5, g6⟩ := dd'
      have st : storedAllH ([] : List (NestedKey × Addr × Value)) [(nk kq, kp, v2)] = [(nk kq, kp, v2)] := rfl
      rw [st] at g4 g6
      have new : DNφ s.heap.objs.size [(nk kq, kp, y)] h' := by
        refine ⟨by show 1 ≤ sizeLine; decide, hd, [(nk kq, kp, v2)], .cons ⟨rfl, rfl, e2⟩ .nil, o, es, ep, g1, g2, g3, ?_, g6⟩
        rw [g4]
        exact (ent_eq fun y' hy' => by
          rw [List.mem_singleton.mp hy']
          exact noT_nk kq).symm
      exact ⟨.ref s.heap.objs.size, _, d_write (ob := DN s.heap.objs.size [(nk kq, kp, y)]) I2 (by rw [hp]; trivial) hs ⟨o, g1⟩ (dn_new new), rfl, qq⟩
  · exact h.elim
theorem PE.or {e : Expr} {t t' : TE} (h : PE X e t) (h' : PE X e t') : PE X e (fun σ H Q => t σ H Q ∨ t' σ H Q) := ⟨fun pins s σ H Q I q => by
  rcases q with q | q
  · exact h.run pins s σ H Q I q
  · exact h'.run pins s σ H Q I q⟩
/-! ### d.get(k, x) -/
def rGetN (K : PySem.W.Frag) (a : Addr) (y z : V) (H : Hp) (Q : VK) : Prop := ∃ (ks vs : List Val) (q d : Val) (dr : Dr) (R : Hp) (o : HO), Sub R H ∧ H a = some o ∧ ObjR K dr R a o (.dcn ks vs) ∧ Rp K dr R y q ∧ Rp K dr R z d ∧ dOk ks q = true ∧ ∀ v, Rp K dr R v ((dfindN ks vs q).getD d) → Q v H
def tDGetG (K : PySem.W.Frag) (td ty tx : TE) : TE := fun σ H Q => td σ H fun x H1 => ∃ a, x = .ref a ∧ (IsD H1 a ∨ ∃ xs, H1 a = some (DN a xs)) ∧ ty σ H1 fun y H2 => tx σ H2 fun z H3 => (∃ o, DGet H3 a y o ∧ Q (o.getD z) H3) ∨ rGetN K a y z H3 Q
theorem isN_at {pins : List (Addr × Obj)} {σ : St} {H : Hp} {s : Shared} {a : Addr} (I : Inv X pins σ H s) (d : IsD H a ∨ ∃ xs, H a = some (DN a xs)) :
    s.TypeIs (.ref a) "dict" ∧ (∀ b, Value.ref a = .ref b → ∃ ob, s.heap.get? b = some ob ∧ ob.dict = none) := by
  rcases d with d | ⟨xs, e⟩
  · obtain ⟨t1, t2, _⟩ := isD_at I d
    exact ⟨t1, t2⟩
  · obtain ⟨z, hd, ys, pr, o, es, ep, h1, h2, h3, h4, h5⟩ := dn_get I.hok e
    refine ⟨⟨o, h1, h2.1⟩, fun b q => ?_⟩
    cases q
    exact ⟨o, h1, h2.2.1⟩
theorem pe_dgetG {o e f : Expr} {td ty tx : TE} {apos cpos : Pos} (hu : X.A.units + 64 < cLine) (ho : PE X o td) (he : PE X e ty) (hf : PE X f tx) (m : M2 X o "get" apos e f cpos) : PE X (.Call (.Attribute o "get" apos) [e, f] [] cpos) (tDGetG X.K td ty tx) := by
  refine ⟨fun pins s σ H Q I h => ?_⟩
  refine wpAny_Call_method m.base m.few m.line PySem.F.plainAttrs_dict PySem.F.slot_dict_get PySem.F.type_dict_get (thn (ho.run pins s σ H _ I h) fun u s1 ⟨x, H1, I1, rx, a, ex, d, q1⟩ => ?_)
  subst ex
  cases (show u = Value.ref a from rx)
  obtain ⟨t1, t2⟩ := isN_at I1 d
  refine ⟨t1, t2, ?_⟩
  rw [m.trees]
  refine Calls.callWith_builtin rfl (Calls.evalArgs_plain (Calls.spliced_cons (thn (he.run pins s1 σ H1 _ I1 q1) fun iv s2 ⟨y, H2, I2, ry, q2⟩ =>
    Calls.spliced_cons (thn (hf.run pins s2 σ H2 _ I2 q2) fun fv s3 ⟨z, H3, I3, rz, q3⟩ => Calls.spliced_nil ?_))))
  rcases q3 with ⟨ov, g, q3⟩ | ⟨ks, vs, q, dd0, dr, R, ob, sb, ha, obr, rq, rd, ok, qq⟩
  · exact d_get2 (by omega) I3 g ry rz fun w' s4 I4 rw' => ⟨_, H3, I4, rw', q3⟩
  · rcases ask_cases obr ok with ⟨ps, rfl, h1, h2, h3, h4, h5, hq⟩ | ⟨xs, rfl, h1, h2, h3, h4, h5, hq⟩ | ⟨rfl, rfl, rfl, hq⟩
    · have hi := hasI h1 h2 hq
      have fi := findI (d := (dfindN ks vs q).getD dd0) h1 h2 h4 hq
      have fn := find_none (ks := ks) (vs := vs) (q := q) (by have a1 := congrArg List.length h1; rw [List.length_map, List.length_map] at a1; have a2 := len_of h4; omega)
      obtain ⟨i, rfl⟩ := kI_int hq
      cases rq
      refine d_get2 (y := kV (.inl i)) (o := valV ps (.inl i)) (by omega) I3 (DGet.k (k := .inl i) ha) ry rz fun w' s4 I4 rw' => ⟨_, H3, I4, rw', qq _ ?_⟩
      cases hd : dfindN ks vs (.int i) with
      | none =>
        have hv : valV ps (.inl i) = none := by
          have hh : (valV ps (.inl i)).isSome = false := hi.trans (fn.mp hd)
          cases hv : valV ps (.inl i) with
          | none => rfl
          | some w0 => rw [hv] at hh; cases hh
        rw [hv]
        exact rd
      | some d' =>
        rw [hd] at fi
        obtain ⟨v', f1, f2⟩ := fi rfl
        have f1' : valV ps (.inl i) = some v' := f1
        rw [f1']
        exact f2
    · obtain ⟨p, rfl⟩ := tup_ref hq rq
      cases (show iv = Value.ref p from ry)
      obtain ⟨z', hd, ys, pr, dl⟩ := dn_lib sb I3.hok ha h1 h2 h3
      have l1 := len_of h4
      have l2 := len_of h3
      refine getOr_keyed (knd := nestedKind X.prog X.w) (nested_room hu) (key_is sb I3.hok hq rq) hd ⟨ys, dl, rfl⟩ ?_
      rw [valueAt_pairsH]
      cases hf' : dfindN ks vs q with
      | none =>
        have hn : atKey ys (nk q) = none := by
          have := has_at pr h1 h2 hq
          rw [(find_none (by omega)).mp hf'] at this
          simpa using this
        rw [hn]
        rw [hf'] at qq
        exact ⟨z, H3, I3.tok _, rz, qq z rd⟩
      | some d' =>
        obtain ⟨p', u', v', f1, f2, f3⟩ := find_at pr h1 h2 h4 hq hf'
        rw [f1]
        rw [hf'] at qq
        exact ⟨v', H3, I3.tok _, f2, qq v' f3⟩
    · obtain ⟨i, rfl⟩ := kI_int hq
      cases rq
      exact d_get2 (y := kV (.inl i)) (o := valV [] (.inl i)) (by omega) (dn_as_dk I3 ha) (DGet.k (k := .inl i) upd_same) ry rz fun w' s4 I4 rw' => ⟨_, H3, dk_as_dn ha I4, rw', qq _ rd⟩
end
end BG

/-! BG.Ops: the operators on values. -/
namespace BG
open PySem PySem.Spec PyProof.Rows L2

/-- what is wanted of a value z, from here on -/
def Fin (K : PySem.W.Frag) (dr : Dr) (R H : Hp) (s : DSt) (z : Val) (Q : VK) : Prop :=
  ∀ dr' R' H', Grow dr dr' R R' H H' → Sub R' H' → DrOk K dr' s R' H' → ∀ v, Rp K dr' R' v z → Q v H'
section
variable {K : PySem.W.Frag} {dr : Dr} {R H : Hp} {s : DSt} {z : Val} {Q : VK} {v : V} {xs : List V} {ds : List Val}
theorem Fin.here (f : Fin K dr R H s z Q) (sb : Sub R H) (dk : DrOk K dr s R H) (r : Rp K dr R v z) : Q v H := f dr R H (Grow.refl dr R H) sb dk v r
theorem rpAll_laid {p : Addr} {o : HO} (sb : Sub R H) (hp : H p = none) (hs : RpAll K dr R xs ds) : RpAll K dr (upd R p o) xs ds := by
  obtain ⟨g, _⟩ := grow_laid (dr := dr) (o := o) hp sb
  exact RpAll.mono g.drl g.rs ds hs
theorem Fin.newT (f : Fin K dr R H s (.tup ds) Q) (sb : Sub R H) (dk : DrOk K dr s R H) (hs : RpAll K dr R xs ds) (hl : ds.length ≤ lim) (p : Addr) (hp : H p = none) : Q (.ref p) (upd H p (.tup xs)) := by
  obtain ⟨g, sb'⟩ := grow_laid (dr := dr) (o := .tup xs) hp sb
  exact f _ _ _ g sb' (dk.laidR sb hp) _ (.tup upd_same (rpAll_laid sb hp hs) hl)
theorem Fin.newL (f : Fin K dr R H s (.lst ds) Q) (sb : Sub R H) (dk : DrOk K dr s R H) (hs : RpAll K dr R xs ds) (hl : ds.length ≤ lim) (p : Addr) (hp : H p = none) : Q (.ref p) (upd H p (.lst xs)) := by
  obtain ⟨g, sb'⟩ := grow_laid (dr := dr) (o := .lst xs) hp sb
  exact f _ _ _ g sb' (dk.laidR sb hp) _ (.lst upd_same (rpAll_laid sb hp hs) hl)
end
theorem lim_line {n : Nat} (h : n ≤ lim) : n ≤ sizeLine := Nat.le_trans h (by decide)
theorem lim_line1 {n : Nat} (h : n < lim) : n < sizeLine := Nat.lt_of_lt_of_le h (by decide)

/-! ### the binary operators -/
/-- what an operator's rule must give -/
def OpOk (K : PySem.W.Frag) (F : Val → Val → Option Val) (r : R2) : Prop :=
  ∀ dr R H s vx vy x y z Q, Sub R H → DrOk K dr s R H → Sh K dr R H vx x → Sh K dr R H vy y → F x y = some z → Fin K dr R H s z Q → r vx vy H Q
theorem str_app (x y : List Nat) : ((⟨x.toArray⟩ : Str) ++ ⟨y.toArray⟩) = ⟨(x ++ y).toArray⟩ := by
  show (⟨x.toArray ++ y.toArray⟩ : Str) = _
  simp
theorem str_len (x : List Nat) : (⟨x.toArray⟩ : Str).length = x.length := by
  show x.toArray.size = _
  simp

section
variable {X : Cx}
def rAddAll (K : PySem.W.Frag) : R2 := fun x y H Q => rI0 (fun i j => .int (i + j)) x y H Q ∨ (∃ i j, x = .str i ∧ y = .str j ∧ i.length + j.length ≤ sizeLine ∧ Q (.str (i ++ j)) H) ∨ rCatA K x y H Q ∨ rCat x y H Q
theorem op_addAll : OpR X (binaryOp .Add) (rAddAll X.K) := op_add.or (op_add_str.or (op_catA.or op_cat))
theorem ok_add (K : PySem.W.Frag) : OpOk K (vbin .add) (rAddAll K) := by
  intro dr R H s vx vy x y z Q sb dk hx hy e f
  cases x with
  | int i =>
    cases y with
    | int j =>
      simp only [vbin, Option.some.injEq] at e
      subst e
      rw [hx.int, hy.int]
      exact .inl ⟨i, j, rfl, rfl, f.here sb dk (.int _)⟩
    | _ => simp [vbin] at e
  | str a =>
    cases y with
    | str b =>
      simp only [vbin, Option.ite_none_right_eq_some, Option.some.injEq] at e
      obtain ⟨hl, rfl⟩ := e
      obtain ⟨rfl, q1, q2⟩ := hx.str
      obtain ⟨rfl, q3, q4⟩ := hy.str
      refine .inr (.inl ⟨_, _, rfl, rfl, ?_, ?_⟩)
      · rw [str_len, str_len]; exact lim_line hl
      · rw [str_app]
        exact f.here sb dk (.str _ (by rw [List.all_append, q1, q3]; rfl) (by rw [List.length_append]; exact hl))
    | _ => simp [vbin] at e
  | tup a =>
    cases y with
    | tup b =>
      simp only [vbin, Option.ite_none_right_eq_some, Option.some.injEq] at e
      obtain ⟨hl, rfl⟩ := e
      obtain ⟨p, xs, rfl, g1, g2, g3⟩ := hx.tup sb
      obtain ⟨q, ys, rfl, k1, k2, k3⟩ := hy.tup sb
      have l1 := g3.len
      have l2 := k3.len
      refine .inr (.inr (.inl ⟨p, q, xs, ys, rfl, rfl, SqT.of g1, SqT.of k1, lim_line (by omega), fun n => ?_, fun n m => ?_, fun n m t ht => ?_⟩))
      · subst n
        cases g3
        exact f.here sb dk (.tup k2 k3 hy.tupLen)
      · subst m
        cases k3
        rw [List.append_nil] at f
        exact f.here sb dk (.tup g2 g3 hx.tupLen)
      · exact f.newT sb dk (g3.append k3) (by rw [List.length_append]; exact hl) t ht
    | _ => simp [vbin] at e
  | lst a =>
    cases y with
    | lst b =>
      simp only [vbin, Option.ite_none_right_eq_some, Option.some.injEq] at e
      obtain ⟨hl, rfl⟩ := e
      obtain ⟨p, xs, rfl, g1, g3⟩ := hx.lst sb
      obtain ⟨q, ys, rfl, k1, k3⟩ := hy.lst sb
      have l1 := g3.len
      have l2 := k3.len
      exact .inr (.inr (.inr ⟨p, q, xs, ys, rfl, rfl, g1, k1, lim_line (by omega), fun t ht => f.newL sb dk (g3.append k3) (by rw [List.length_append]; exact hl) t ht⟩))
    | _ => simp [vbin] at e
  | _ => simp [vbin] at e
theorem ok_sub (K : PySem.W.Frag) : OpOk K (vbin .sub) (rI0 fun i j => .int (i - j)) := by
  intro dr R H s vx vy x y z Q sb dk hx hy e f
  cases x with
  | int i =>
    cases y with
    | int j =>
      simp only [vbin, Option.some.injEq] at e
      subst e
      rw [hx.int, hy.int]
      exact ⟨i, j, rfl, rfl, f.here sb dk (.int _)⟩
    | _ => simp [vbin] at e
  | _ => simp [vbin] at e
theorem ok_fdiv (K : PySem.W.Frag) : OpOk K (vbin .fdiv) (rI CDiv fun i j => .int (i / j)) := by
  intro dr R H s vx vy x y z Q sb dk hx hy e f
  cases x with
  | int i =>
    cases y with
    | int j =>
      simp only [vbin, Option.ite_none_right_eq_some, Option.some.injEq] at e
      obtain ⟨hl, rfl⟩ := e
      rw [hx.int, hy.int]
      exact ⟨i, j, rfl, rfl, hl, f.here sb dk (.int _)⟩
    | _ => simp [vbin] at e
  | _ => simp [vbin] at e
theorem ok_mod (K : PySem.W.Frag) : OpOk K (vbin .mod) (rI (fun _ j => 0 < j) fun i j => .int (i % j)) := by
  intro dr R H s vx vy x y z Q sb dk hx hy e f
  cases x with
  | int i =>
    cases y with
    | int j =>
      simp only [vbin, Option.ite_none_right_eq_some, Option.some.injEq] at e
      obtain ⟨hl, rfl⟩ := e
      rw [hx.int, hy.int]
      exact ⟨i, j, rfl, rfl, hl, f.here sb dk (.int _)⟩
    | _ => simp [vbin] at e
  | _ => simp [vbin] at e
theorem small64_iff {i : Int} (h : small64 i = true) : -(2 ^ 64) < i ∧ i < 2 ^ 64 := by
  simp only [small64, Bool.and_eq_true, decide_eq_true_eq] at h
  omega
theorem ok_pow (K : PySem.W.Frag) : OpOk K (vbin .pow) (rI CPow fun i j => .int (i ^ j.toNat)) := by
  intro dr R H s vx vy x y z Q sb dk hx hy e f
  cases x with
  | int i =>
    cases y with
    | int j =>
      simp only [vbin, Option.ite_none_right_eq_some, Option.some.injEq] at e
      obtain ⟨⟨h1, h2, h3⟩, rfl⟩ := e
      have h4 := small64_iff h3
      rw [hx.int, hy.int]
      exact ⟨i, j, rfl, rfl, ⟨h1, h2, by omega⟩, f.here sb dk (.int _)⟩
    | _ => simp [vbin] at e
  | _ => simp [vbin] at e
/-- t * 1 is t -/
theorem tuple_mul1 (l : Addr) (items : Array Value) (n : Nat) (dd : Option Addr) (sl : Array (Option Value)) (u : Tok) :
    Meets (Builtin.«tuple.__mul__» ⟨[.ref l, .int 1 u], []⟩) (fun _ R s => s.heap.get? l = some { cls := .type "tuple", dict := dd, data := .seq items n, slots := sl } ∧ R (.ok (.ret (Value.ref l))) s) :=
  .of_wp fun prog w A R s h => by
    obtain ⟨hp, g, d, tk, os⟩ := s
    obtain ⟨hl, h⟩ := h
    have f1 := AutoSeq1.idx_int
    wp_walk using wpAny_loadPart' hl
    exact ⟨_, rfl, h⟩
def rRep1 (K : PySem.W.Frag) : R2 := fun x y H Q => ∃ l xs, x = .ref l ∧ y = .int 1 ∧ SqT K H l xs ∧ Q (.ref l) H
theorem op_rep1 : OpR X (binaryOp .Mult) (rRep1 X.K) := by
  intro pins s σ H x y v u Q I rx ry h
  obtain ⟨l, xs, rfl, rfl, hT, q⟩ := h
  cases rx
  obtain ⟨t, rfl⟩ := ry
  obtain ⟨its, r, ⟨⟨cls, dd, data, sl⟩, ho, hc, n, hd⟩, hs⟩ := I.tuple hT
  simp only at hc hd
  subst hc hd
  refine wpAny_binaryOp_repeat_ref (T := "tuple") (U := "int") (by decide) ⟨_, ho, rfl⟩ (fun s' => typeIs_int s' 1 t) noFill_tuple_mul F.fills_int_mul F.slot_int_rmul repeat_tuple F.slot_int_index.lookup
    (call_meets F.slot_int_rmul (typeIs_int s 1 t) F.entry_int_rmul (F.args_int_rmul_2 _ _) (int_rmul_tuple 1 t l its.toArray n dd sl)
      ⟨ho, rfl, ⟨_, ho, rfl⟩, call_meets F.slot_tuple_mul ⟨_, ho, rfl⟩ F.entry_tuple_mul (F.args_tuple_mul_2 _ _) (tuple_mul1 l its.toArray n dd sl t) ⟨ho, ?_⟩⟩)
  exact ⟨.ref l, _, I, rfl, q⟩
def rMulAll (K : PySem.W.Frag) : R2 := fun x y H Q => rI CMul (fun i j => .int (i * j)) x y H Q ∨ rRep x y H Q ∨ rRepT K x y H Q ∨ rRep1 K x y H Q
theorem op_mulAll : OpR X (binaryOp .Mult) (rMulAll X.K) := op_mul.or (op_rep.or (op_repT.or op_rep1))
theorem ok_mul (K : PySem.W.Frag) : OpOk K (vbin .mul) (rMulAll K) := by
  intro dr R H s vx vy x y z Q sb dk hx hy e f
  cases x with
  | int i =>
    cases y with
    | int j =>
      simp only [vbin, Option.ite_none_right_eq_some, Option.some.injEq, Bool.or_eq_true] at e
      obtain ⟨hl, rfl⟩ := e
      rw [hx.int, hy.int]
      refine .inl ⟨i, j, rfl, rfl, ?_, f.here sb dk (.int _)⟩
      rcases hl with h | h
      · exact .inl (small64_iff h)
      · exact .inr (small64_iff h)
    | _ => simp [vbin] at e
  | lst a =>
    cases y with
    | int j =>
      simp only [vbin, Option.ite_none_right_eq_some, Option.some.injEq] at e
      obtain ⟨⟨h1, h2, h3⟩, rfl⟩ := e
      obtain ⟨p, xs, rfl, g1, g3⟩ := hx.lst sb
      rw [hy.int]
      have l1 := g3.len
      exact .inr (.inl ⟨p, j, xs, rfl, rfl, g1, by omega, by omega, by rw [l1]; exact lim_line h1, fun t ht => f.newL sb dk (g3.rep _) (by rw [lm_len_rep_flat, Nat.mul_comm]; exact h1) t ht⟩)
    | _ => simp [vbin] at e
  | tup a =>
    cases y with
    | int j =>
      simp only [vbin, Option.ite_none_right_eq_some, Option.some.injEq] at e
      obtain ⟨⟨h1, h2, h3⟩, rfl⟩ := e
      obtain ⟨p, xs, rfl, g1, g2, g3⟩ := hx.tup sb
      rw [hy.int]
      have l1 := g3.len
      rcases h1 with h1 | ⟨h4, h5⟩
      · subst h1
        refine .inr (.inr (.inr ⟨p, xs, rfl, rfl, SqT.of g1, ?_⟩))
        have e1 : (List.replicate (1 : Int).toNat a).flatten = a := by
          show (List.replicate 1 a).flatten = a
          simp
        rw [e1] at f
        exact f.here sb dk (.tup g2 g3 hx.tupLen)
      · refine .inr (.inr (.inl ⟨p, j, xs, rfl, rfl, SqT.of g1, ?_, h4, h5, by omega, fun t ht => f.newT sb dk (g3.rep _) (by rw [lm_len_rep_flat]; have a1 : j.toNat * a.length ≤ 1000 * 1000 := Nat.mul_le_mul (by omega) h3; exact a1) t ht⟩))
        intro n
        rw [n] at l1
        simp at l1
        omega
    | _ => simp [vbin] at e
  | _ => simp [vbin] at e
def rBin (K : PySem.W.Frag) : BinK → R2
  | .add => rAddAll K
  | .sub => rI0 fun i j => .int (i - j)
  | .mul => rMulAll K
  | .fdiv => rI CDiv fun i j => .int (i / j)
  | .mod => rI (fun _ j => 0 < j) fun i j => .int (i % j)
  | .pow => rI CPow fun i j => .int (i ^ j.toNat)
def binOp : BinK → Operator
  | .add => .Add | .sub => .Sub | .mul => .Mult | .fdiv => .FloorDiv | .mod => .Mod | .pow => .Pow
theorem op_bin (k : BinK) : OpR X (binaryOp (binOp k)) (rBin X.K k) := by
  cases k
  · exact op_addAll
  · exact op_sub
  · exact op_mulAll
  · exact op_fdiv
  · exact op_mod
  · exact op_pow
theorem ok_bin (K : PySem.W.Frag) (k : BinK) : OpOk K (vbin k) (rBin K k) := by
  cases k
  · exact ok_add K
  · exact ok_sub K
  · exact ok_mul K
  · exact ok_fdiv K
  · exact ok_mod K
  · exact ok_pow K

/-! ### comparisons -/
def rEqS (K : PySem.W.Frag) (neg : Bool) : R2 := fun x y H Q => ∃ d e, Dp K H x d ∧ Dp K H y e ∧ d.canLay0 = true ∧ e.canLay0 = true ∧ min d.depth e.depth ≤ 60 ∧ Q (.bl (if neg then !PyData.eqv d e else PyData.eqv d e)) H
theorem op_eqS (hu : X.A.units + 64 < cLine) : OpR X (compareOp .Eq) (rEqS X.K false) := by
  intro pins s σ H x y v u Q I rx ry h
  obtain ⟨d, e, hd, he, sd, se, hm, q⟩ := h
  obtain ⟨as, r1⟩ := Dp.reads I d x v hd rx
  obtain ⟨bs, r2⟩ := Dp.reads I e y u he ry
  exact SeqAt.compareEq_reads r1 r2 sd se (by omega) ⟨.bl _, H, I, rfl, q⟩
theorem op_neS (hu : X.A.units + 64 < cLine) : OpR X (compareOp .NotEq) (rEqS X.K true) := by
  intro pins s σ H x y v u Q I rx ry h
  obtain ⟨d, e, hd, he, sd, se, hm, q⟩ := h
  obtain ⟨as, r1⟩ := Dp.reads I d x v hd rx
  obtain ⟨bs, r2⟩ := Dp.reads I e y u he ry
  exact SeqAt.compareNe_reads r1 r2 sd se (by omega) ⟨.bl _, H, I, rfl, q⟩
theorem ok_eqS (K : PySem.W.Frag) : OpOk K (fun x y => (vcmp .eq x y).map .bl) (rEqS K false) := by
  intro dr R H s vx vy x y z Q sb dk hx hy e f
  simp only [vcmp, vEq, eqOk, Option.map_eq_some_iff, Option.ite_none_right_eq_some, Option.some.injEq, Bool.and_eq_true, Bool.or_eq_true, decide_eq_true_eq] at e
  obtain ⟨b, ⟨⟨⟨p1, p2⟩, hd⟩, rfl⟩, rfl⟩ := e
  refine ⟨toD x, toD y, hx.dp sb p1, hy.dp sb p2, hx.lay, hy.lay, by rw [dep_toD, dep_toD]; omega, ?_⟩
  rw [if_neg Bool.false_ne_true, veq_toD x y p1 p2]
  exact f.here sb dk (.bl _)
theorem ok_neS (K : PySem.W.Frag) : OpOk K (fun x y => (vcmp .ne x y).map .bl) (rEqS K true) := by
  intro dr R H s vx vy x y z Q sb dk hx hy e f
  simp only [vcmp, vEq, eqOk, Option.map_eq_some_iff, Option.ite_none_right_eq_some, Option.some.injEq, Bool.and_eq_true, Bool.or_eq_true, decide_eq_true_eq] at e
  obtain ⟨b, ⟨b', ⟨⟨⟨p1, p2⟩, hd⟩, rfl⟩, rfl⟩, rfl⟩ := e
  refine ⟨toD x, toD y, hx.dp sb p1, hy.dp sb p2, hx.lay, hy.lay, by rw [dep_toD, dep_toD]; omega, ?_⟩
  rw [if_pos rfl, veq_toD x y p1 p2]
  exact f.here sb dk (.bl _)
theorem plains_all : ∀ (ds : List Val), plains ds = true → ∀ d ∈ ds, plain d = true
  | [], _, d, h => by cases h
  | x :: xs, p, d, h => by
    simp only [plains, Bool.and_eq_true] at p
    rcases List.mem_cons.mp h with rfl | h
    · exact p.1
    · exact plains_all xs p.2 d h
theorem any_toDs (x : Val) (px : plain x = true) : ∀ ds : List Val, plains ds = true → ((toDs ds).any fun z => PyData.eqv z (toD x)) = ds.any fun y => veq y x
  | [], _ => rfl
  | d :: ds, p => by
    simp only [plains, Bool.and_eq_true] at p
    simp only [toDs, List.any_cons]
    rw [veq_toD d x p.1 px, any_toDs x px ds p.2]
theorem shaped_of {K : PySem.W.Frag} {dr : Dr} {R H : Hp} {v : V} {d : Val} (h : Sh K dr R H v d) (hd : dep d ≤ 64) : SeqAt.shaped (toD d) = true := by
  unfold SeqAt.shaped
  rw [h.lay, dep_toD, Bool.true_and]
  exact decide_eq_true hd
theorem flat_eqV {K : PySem.W.Frag} {dr : Dr} {R : Hp} {v w : V} {d e : Val} (hv : Rp K dr R v d) (hw : Rp K dr R w e) (fd : flatB d = true) (fe : flatB e = true) : flatV v = true ∧ eqV v w = veq d e := by
  cases hv <;> simp [flatB] at fd <;> cases hw <;> simp [flatB] at fe <;> (refine ⟨rfl, ?_⟩) <;> (try rfl) <;> (try (simp [eqV, veq, b2]; done))
  rename_i a h1 h2 b h3 h4
  show ((⟨a.toArray⟩ : Str) == ⟨b.toArray⟩) = (a == b)
  exact str_beq a b
theorem flat_mem {K : PySem.W.Frag} {dr : Dr} {R : Hp} {v : V} {d : Val} (hv : Rp K dr R v d) (fd : flatB d = true) : ∀ {xs : List V} {ds : List Val}, RpAll K dr R xs ds → ds.all flatB = true → xs.all flatV = true ∧ inV v xs = ds.any fun y => veq y d
  | _, _, .nil, _ => ⟨rfl, rfl⟩
  | _, _, .cons h hs, p => by
    simp only [List.all_cons, Bool.and_eq_true] at p
    obtain ⟨a1, a2⟩ := flat_mem hv fd hs p.2
    obtain ⟨b1, b2⟩ := flat_eqV h hv p.1 fd
    constructor
    · simp [b1, a1]
    · simp only [inV, List.any_cons] at a2 ⊢
      rw [b2, a2]
theorem Sh.flat {K : PySem.W.Frag} {dr : Dr} {R H : Hp} {v : V} {d : Val} (h : Sh K dr R H v d) (f : flatB d = true) : Rp K dr R v d := by
  rcases h with h | h
  · exact h
  · exact (h.not (fun _ z => by subst z; simp [flatB] at f) (fun _ _ z => by subst z; simp [flatB] at f)).elim
theorem Sh.key {K : PySem.W.Frag} {dr : Dr} {R H : Hp} {v : V} {d : Val} {ks : List Val} (h : Sh K dr R H v d) (ok : dOk ks d = true) : Rp K dr R v d := by
  rcases h with h | h
  · exact h
  · exact (h.not (fun _ z => by subst z; simp [dOk, isTupK, isI] at ok) (fun _ _ z => by subst z; simp [dOk, isTupK, isI] at ok)).elim
def rInAll (K : PySem.W.Frag) : R2 := fun x y H Q => rInD K x y H Q ∨ rIn K false x y H Q ∨ rInN K false x y H Q
def rNotInAll (K : PySem.W.Frag) : R2 := fun x y H Q => rNotInD K x y H Q ∨ rIn K true x y H Q ∨ rInN K true x y H Q
theorem ok_in (K : PySem.W.Frag) : OpOk K (fun x y => (vcmp .isIn x y).map .bl) (rInAll K) := by
  intro dr R H s vx vy x y z Q sb dk hx hy e f
  cases y with
  | lst ds =>
    simp only [vcmp, vmem, okIn, Option.map_eq_some_iff, Option.ite_none_right_eq_some, Option.some.injEq, Bool.and_eq_true, decide_eq_true_eq] at e
    obtain ⟨b, ⟨⟨⟨⟨p1, p2⟩, d1⟩, d2⟩, rfl⟩, rfl⟩ := e
    have dl := hy.dp sb (by simpa [plain] using p2)
    have sl := shaped_of hy (by simp only [dep]; omega)
    simp only [toD] at dl sl
    refine .inl ⟨toD x, toDs ds, hx.dp sb p1, dl, shaped_of hx (by omega), sl, ?_⟩
    rw [any_toDs x p1 ds p2]
    exact f.here sb dk (.bl _)
  | tup ds =>
    simp only [vcmp, vmemF, Option.map_eq_some_iff, Option.ite_none_right_eq_some, Option.some.injEq, Bool.and_eq_true] at e
    obtain ⟨b, ⟨⟨p1, p2⟩, rfl⟩, rfl⟩ := e
    obtain ⟨p, xs, rfl, g1, g2, g3⟩ := hy.tup sb
    have hx' := hx.flat p1
    obtain ⟨a1, a2⟩ := flat_mem hx' p1 g3 p2
    refine .inr (.inl ⟨p, xs, rfl, .inr (SqT.of g1), (flat_eqV hx' hx' p1 p1).1, a1, ?_⟩)
    rw [if_neg Bool.false_ne_true, a2]
    exact f.here sb dk (.bl _)
  | dcn ks vs =>
    simp only [vcmp, Option.map_eq_some_iff, Option.ite_none_right_eq_some, Option.some.injEq] at e
    obtain ⟨b, ⟨ok, rfl⟩, rfl⟩ := e
    obtain ⟨a, o, rfl, h1, ob⟩ := hy.dcn sb
    refine .inr (.inr ⟨a, ks, vs, x, dr, R, o, rfl, sb, h1, ob, hx.key ok, ok, ?_⟩)
    rw [if_neg Bool.false_ne_true]
    exact f.here sb dk (.bl _)
  | _ => simp [vcmp] at e
theorem ok_notIn (K : PySem.W.Frag) : OpOk K (fun x y => (vcmp .notIn x y).map .bl) (rNotInAll K) := by
  intro dr R H s vx vy x y z Q sb dk hx hy e f
  cases y with
  | lst ds =>
    simp only [vcmp, vmem, okIn, Option.map_eq_some_iff, Option.ite_none_right_eq_some, Option.some.injEq, Bool.and_eq_true, decide_eq_true_eq] at e
    obtain ⟨b, ⟨b', ⟨⟨⟨⟨p1, p2⟩, d1⟩, d2⟩, rfl⟩, rfl⟩, rfl⟩ := e
    have dl := hy.dp sb (by simpa [plain] using p2)
    have sl := shaped_of hy (by simp only [dep]; omega)
    simp only [toD] at dl sl
    refine .inl ⟨toD x, toDs ds, hx.dp sb p1, dl, shaped_of hx (by omega), sl, ?_⟩
    rw [any_toDs x p1 ds p2]
    exact f.here sb dk (.bl _)
  | tup ds =>
    simp only [vcmp, vmemF, Option.map_eq_some_iff, Option.ite_none_right_eq_some, Option.some.injEq, Bool.and_eq_true] at e
    obtain ⟨b, ⟨b', ⟨⟨p1, p2⟩, rfl⟩, rfl⟩, rfl⟩ := e
    obtain ⟨p, xs, rfl, g1, g2, g3⟩ := hy.tup sb
    have hx' := hx.flat p1
    obtain ⟨a1, a2⟩ := flat_mem hx' p1 g3 p2
    refine .inr (.inl ⟨p, xs, rfl, .inr (SqT.of g1), (flat_eqV hx' hx' p1 p1).1, a1, ?_⟩)
    rw [if_pos rfl, a2]
    exact f.here sb dk (.bl _)
  | dcn ks vs =>
    simp only [vcmp, Option.map_eq_some_iff, Option.ite_none_right_eq_some, Option.some.injEq] at e
    obtain ⟨b, ⟨ok, rfl⟩, rfl⟩ := e
    obtain ⟨a, o, rfl, h1, ob⟩ := hy.dcn sb
    refine .inr (.inr ⟨a, ks, vs, x, dr, R, o, rfl, sb, h1, ob, hx.key ok, ok, ?_⟩)
    rw [if_pos rfl]
    exact f.here sb dk (.bl _)
  | _ => simp [vcmp] at e
theorem isNon_iff {K : PySem.W.Frag} {dr : Dr} {R H : Hp} {v : V} {d : Val} (h : Sh K dr R H v d) : decide (v = .non) = isNon d := by
  rcases h with h | ⟨a, o, rfl, _, _, r⟩
  · cases h <;> simp [isNon]
  · rcases r.kind with ⟨ds, rfl⟩ | ⟨ks, vs, rfl⟩ <;> simp [isNon]
def rIsAll : R2 := fun x y H Q => (y = .non ∧ Q (.bl (decide (x = .non))) H) ∨ rIsB x y H Q
def rIsNotAll : R2 := fun x y H Q => (y = .non ∧ Q (.bl (!decide (x = .non))) H) ∨ rNotB x y H Q
theorem ok_isN (K : PySem.W.Frag) : OpOk K (fun x y => (vcmp .isN x y).map .bl) rIsAll := by
  intro dr R H s vx vy x y z Q sb dk hx hy e f
  cases y with
  | non =>
    simp only [vcmp, Option.map_some, Option.some.injEq] at e
    subst e
    rw [hy.non]
    refine .inl ⟨rfl, ?_⟩
    rw [isNon_iff hx]
    exact f.here sb dk (.bl _)
  | bl b =>
    cases x with
    | bl a =>
      simp only [vcmp, Option.map_some, Option.some.injEq] at e
      subst e
      rw [hx.bl, hy.bl]
      refine .inr ⟨a, b, rfl, rfl, ?_⟩
      have : decide (a = b) = (a == b) := by cases a <;> cases b <;> rfl
      rw [this]
      exact f.here sb dk (.bl _)
    | _ => simp [vcmp] at e
  | _ => simp [vcmp] at e
theorem ok_notN (K : PySem.W.Frag) : OpOk K (fun x y => (vcmp .notN x y).map .bl) rIsNotAll := by
  intro dr R H s vx vy x y z Q sb dk hx hy e f
  cases y with
  | non =>
    simp only [vcmp, Option.map_some, Option.some.injEq] at e
    subst e
    rw [hy.non]
    refine .inl ⟨rfl, ?_⟩
    rw [isNon_iff hx]
    exact f.here sb dk (.bl _)
  | bl b =>
    cases x with
    | bl a =>
      simp only [vcmp, Option.map_some, Option.some.injEq] at e
      subst e
      rw [hx.bl, hy.bl]
      refine .inr ⟨a, b, rfl, rfl, ?_⟩
      have : decide (a = b) = (a == b) := by cases a <;> cases b <;> rfl
      rw [this]
      exact f.here sb dk (.bl _)
    | _ => simp [vcmp] at e
  | _ => simp [vcmp] at e
def rCmp (K : PySem.W.Frag) : CmpK → R2
  | .eq => rEqS K false
  | .ne => rEqS K true
  | .lt => rI0 fun i j => .bl (decide (i < j))
  | .le => rI0 fun i j => .bl (decide (i ≤ j))
  | .gt => rI0 fun i j => .bl (decide (j < i))
  | .ge => rI0 fun i j => .bl (decide (j ≤ i))
  | .isIn => rInAll K
  | .notIn => rNotInAll K
  | .isN => rIsAll
  | .notN => rIsNotAll
def cmpOp : CmpK → CmpOp
  | .eq => .Eq | .ne => .NotEq | .lt => .Lt | .le => .LtE | .gt => .Gt | .ge => .GtE | .isIn => .In | .notIn => .NotIn | .isN => .Is | .notN => .IsNot
theorem op_cmp (hu : X.A.units + 65 < cLine) (k : CmpK) : OpR X (compareOp (cmpOp k)) (rCmp X.K k) := by
  cases k
  · exact op_eqS (by omega)
  · exact op_neS (by omega)
  · exact op_lt
  · exact op_le
  · exact op_gt
  · exact op_ge
  · exact (op_inD hu).or (op_in_seq.or (op_inN (by omega)))
  · exact (op_notInD hu).or (op_notIn_seq.or (op_notInN (by omega)))
  · exact op_isN.or op_isBl
  · exact op_notN.or op_notBl
theorem ok_cmp (K : PySem.W.Frag) (k : CmpK) : OpOk K (fun x y => (vcmp k x y).map .bl) (rCmp K k) := by
  cases k
  · exact ok_eqS K
  · exact ok_neS K
  all_goals first
    | exact ok_in K
    | exact ok_notIn K
    | exact ok_isN K
    | exact ok_notN K
    | (intro dr R H s vx vy x y z Q sb dk hx hy e f
       cases x with
       | int i =>
         cases y with
         | int j =>
           simp only [vcmp, Option.map_some, Option.some.injEq] at e
           subst e
           rw [hx.int, hy.int]
           exact ⟨i, j, rfl, rfl, f.here sb dk (.bl _)⟩
         | _ => simp [vcmp] at e
       | _ => simp [vcmp] at e)
end
end BG

/-! BG.SortD: sorted(xs) of data of one kind. -/
namespace BG
open PySem PySem.Spec PyProof.Rows L2

mutual
theorem veq_eq : ∀ a b : Val, alikeV a b = true → (veq a b = true ↔ a = b)
  | .int i, .int j, _ => by simp [veq]
  | .str x, .str y, _ => by simp [veq]
  | .tup xs, .tup ys, h => by simp only [veq, Val.tup.injEq]; exact veqs_eq xs ys (by simpa [alikeV] using h)
  | .lst xs, .lst ys, h => by simp only [veq, Val.lst.injEq]; exact veqs_eq xs ys (by simpa [alikeV] using h)
  | .non, b, h => by simp [alikeV] at h
  | .bl _, b, h => by simp [alikeV] at h
  | .drw, b, h => by simp [alikeV] at h
  | .scr _, b, h => by simp [alikeV] at h
  | .dct _ _, b, h => by simp [alikeV] at h
  | .int i, .non, h => by simp [alikeV] at h
  | .int i, .bl _, h => by simp [alikeV] at h
  | .int i, .str _, h => by simp [alikeV] at h
  | .int i, .tup _, h => by simp [alikeV] at h
  | .int i, .lst _, h => by simp [alikeV] at h
  | .int i, .drw, h => by simp [alikeV] at h
  | .int i, .scr _, h => by simp [alikeV] at h
  | .int i, .dct _ _, h => by simp [alikeV] at h
  | .str i, .non, h => by simp [alikeV] at h
  | .str i, .bl _, h => by simp [alikeV] at h
  | .str i, .int _, h => by simp [alikeV] at h
  | .str i, .tup _, h => by simp [alikeV] at h
  | .str i, .lst _, h => by simp [alikeV] at h
  | .str i, .drw, h => by simp [alikeV] at h
  | .str i, .scr _, h => by simp [alikeV] at h
  | .str i, .dct _ _, h => by simp [alikeV] at h
  | .tup i, .non, h => by simp [alikeV] at h
  | .tup i, .bl _, h => by simp [alikeV] at h
  | .tup i, .int _, h => by simp [alikeV] at h
  | .tup i, .str _, h => by simp [alikeV] at h
  | .tup i, .lst _, h => by simp [alikeV] at h
  | .tup i, .drw, h => by simp [alikeV] at h
  | .tup i, .scr _, h => by simp [alikeV] at h
  | .tup i, .dct _ _, h => by simp [alikeV] at h
  | .lst i, .non, h => by simp [alikeV] at h
  | .lst i, .bl _, h => by simp [alikeV] at h
  | .lst i, .int _, h => by simp [alikeV] at h
  | .lst i, .str _, h => by simp [alikeV] at h
  | .lst i, .tup _, h => by simp [alikeV] at h
  | .lst i, .drw, h => by simp [alikeV] at h
  | .lst i, .scr _, h => by simp [alikeV] at h
  | .lst i, .dct _ _, h => by simp [alikeV] at h
theorem veqs_eq : ∀ a b : List Val, alikesV a b = true → (veqs a b = true ↔ a = b)
  | [], [], _ => by simp [veqs]
  | [], y :: ys, _ => by simp [veqs]
  | x :: xs, [], _ => by simp [veqs]
  | x :: xs, y :: ys, h => by
    simp only [alikesV, Bool.and_eq_true] at h
    simp only [veqs, Bool.and_eq_true, List.cons.injEq]
    rw [veq_eq x y h.1, veqs_eq xs ys h.2]
end
mutual
theorem alike_toD : ∀ a b : Val, alikeV a b = true → PySem.W.alike (toD a) (toD b) = true
  | .int i, b, h => by cases b <;> simp [alikeV] at h; simp [toD, PySem.W.alike]
  | .str x, b, h => by cases b <;> simp [alikeV] at h; simp [toD, PySem.W.alike]
  | .tup xs, b, h => by
    cases b <;> simp [alikeV] at h
    simp only [toD, PySem.W.alike]
    exact alikes_toD xs _ h
  | .lst xs, b, h => by
    cases b <;> simp [alikeV] at h
    simp only [toD, PySem.W.alike]
    exact alikes_toD xs _ h
  | .non, b, h => by simp [alikeV] at h
  | .bl _, b, h => by simp [alikeV] at h
  | .drw, b, h => by simp [alikeV] at h
  | .scr _, b, h => by simp [alikeV] at h
  | .dct _ _, b, h => by simp [alikeV] at h
theorem alikes_toD : ∀ a b : List Val, alikesV a b = true → PySem.W.alikeAll (toDs a) (toDs b) = true
  | [], b, _ => by simp [toDs, PySem.W.alikeAll]
  | x :: xs, [], _ => by simp [toDs, PySem.W.alikeAll]
  | x :: xs, y :: ys, h => by
    simp only [alikesV, Bool.and_eq_true] at h
    simp only [toDs, PySem.W.alikeAll, Bool.and_eq_true]
    exact ⟨alike_toD x y h.1, alikes_toD xs ys h.2⟩
end
mutual
theorem alike_self_plain : ∀ a : Val, alikeV a a = true → plain a = true
  | .int i, h => rfl
  | .str x, h => rfl
  | .tup xs, h => by simp only [plain]; exact alikes_self_plain xs (by simpa [alikeV] using h)
  | .lst xs, h => by simp only [plain]; exact alikes_self_plain xs (by simpa [alikeV] using h)
  | .non, h => rfl
  | .bl _, h => rfl
  | .drw, h => by simp [alikeV] at h
  | .scr _, h => by simp [alikeV] at h
  | .dct _ _, h => by simp [alikeV] at h
theorem alikes_self_plain : ∀ a : List Val, alikesV a a = true → plains a = true
  | [], _ => rfl
  | x :: xs, h => by
    simp only [alikesV, Bool.and_eq_true] at h
    simp only [plains, Bool.and_eq_true]
    exact ⟨alike_self_plain x h.1, alikes_self_plain xs h.2⟩
end
theorem rowLt_nn : PySem.W.rowLt [] [] = false := lex_irrefl _
theorem rowLt_nc (y : PyData) (ys : List PyData) : PySem.W.rowLt [] (y :: ys) = true := by
  unfold PySem.W.rowLt
  rw [PySem.W.toks_all_cons]
  simp only [PySem.W.keyToksAll]
  rw [lex_diff (O := itemOrd) (by simp)]
  rfl
theorem rowLt_cn (y : PyData) (ys : List PyData) : PySem.W.rowLt (y :: ys) [] = false := by
  unfold PySem.W.rowLt
  rw [PySem.W.toks_all_cons]
  simp only [PySem.W.keyToksAll]
  rw [lex_diff (O := itemOrd) (by simp)]
  rfl
mutual
theorem alikeV_comm : ∀ a b : Val, alikeV a b = true → alikeV b a = true
  | .int i, b, h => by cases b <;> simp [alikeV] at h ⊢
  | .str x, b, h => by cases b <;> simp [alikeV] at h ⊢
  | .tup xs, b, h => by
    cases b <;> simp [alikeV] at h ⊢
    exact alikesV_comm xs _ h
  | .lst xs, b, h => by
    cases b <;> simp [alikeV] at h ⊢
    exact alikesV_comm xs _ h
  | .non, b, h => by simp [alikeV] at h
  | .bl _, b, h => by simp [alikeV] at h
  | .drw, b, h => by simp [alikeV] at h
  | .scr _, b, h => by simp [alikeV] at h
  | .dct _ _, b, h => by simp [alikeV] at h
theorem alikesV_comm : ∀ a b : List Val, alikesV a b = true → alikesV b a = true
  | [], [], _ => rfl
  | [], y :: ys, _ => rfl
  | x :: xs, [], _ => rfl
  | x :: xs, y :: ys, h => by
    simp only [alikesV, Bool.and_eq_true] at h ⊢
    exact ⟨alikeV_comm x y h.1, alikesV_comm xs ys h.2⟩
end
mutual
theorem vltB_toD : ∀ a b : Val, alikeV a b = true → plain a = true → plain b = true → PySem.W.dataLt (toD a) (toD b) = vltB a b
  | .int i, b, h, _, _ => by
    cases b <;> simp [alikeV] at h
    simp only [toD, vltB]
    exact PySem.W.dataLt_int _ _
  | .str x, b, h, _, _ => by
    cases b <;> simp [alikeV] at h
    rename_i y
    simp only [toD, vltB]
    rw [PySem.W.dataLt_str]
  | .tup xs, b, h, p, q => by
    cases b <;> simp [alikeV] at h
    simp only [toD, vltB]
    rw [PySem.W.dataLt_tuple]
    exact vltsB_toD xs _ h (by simpa [plain] using p) (by simpa [plain] using q)
  | .lst xs, b, h, p, q => by
    cases b <;> simp [alikeV] at h
    simp only [toD, vltB]
    rw [PySem.W.dataLt_list]
    exact vltsB_toD xs _ h (by simpa [plain] using p) (by simpa [plain] using q)
  | .non, b, h, _, _ => by simp [alikeV] at h
  | .bl _, b, h, _, _ => by simp [alikeV] at h
  | .drw, b, h, _, _ => by simp [alikeV] at h
  | .scr _, b, h, _, _ => by simp [alikeV] at h
  | .dct _ _, b, h, _, _ => by simp [alikeV] at h
theorem vltsB_toD : ∀ a b : List Val, alikesV a b = true → plains a = true → plains b = true → PySem.W.rowLt (toDs a) (toDs b) = vltsB a b
  | [], [], _, _, _ => by simp only [toDs, vltsB]; exact rowLt_nn
  | [], y :: ys, _, _, _ => by simp only [toDs, vltsB]; exact rowLt_nc _ _
  | x :: xs, [], _, _, _ => by simp only [toDs, vltsB]; exact rowLt_cn _ _
  | x :: xs, y :: ys, h, p, q => by
    simp only [alikesV, Bool.and_eq_true] at h
    simp only [plains, Bool.and_eq_true] at p q
    simp only [toDs, vltsB]
    unfold PySem.W.rowLt
    rw [PySem.W.dataLt_cons (alike_toD x y h.1), veq_toD x y p.1 q.1, vltB_toD x y h.1 p.1 q.1]
    have := vltsB_toD xs ys h.2 p.2 q.2
    unfold PySem.W.rowLt at this
    rw [this]
end
mutual
theorem vlt_anti : ∀ a b : Val, alikeV a b = true → vltB a b = false → vltB b a = false → a = b
  | .int i, b, h, p, q => by
    cases b <;> simp [alikeV] at h
    simp [vltB] at p q
    rw [Val.int.injEq]; omega
  | .str x, b, h, p, q => by
    cases b <;> simp [alikeV] at h
    simp only [vltB, decide_eq_false_iff_not] at p q
    rw [Val.str.injEq]
    exact List.le_antisymm (List.not_lt.mp q) (List.not_lt.mp p)
  | .tup xs, b, h, p, q => by
    cases b <;> simp [alikeV] at h
    simp only [vltB] at p q
    rw [vlts_anti xs _ h p q]
  | .lst xs, b, h, p, q => by
    cases b <;> simp [alikeV] at h
    simp only [vltB] at p q
    rw [vlts_anti xs _ h p q]
  | .non, b, h, _, _ => by simp [alikeV] at h
  | .bl _, b, h, _, _ => by simp [alikeV] at h
  | .drw, b, h, _, _ => by simp [alikeV] at h
  | .scr _, b, h, _, _ => by simp [alikeV] at h
  | .dct _ _, b, h, _, _ => by simp [alikeV] at h
theorem vlts_anti : ∀ a b : List Val, alikesV a b = true → vltsB a b = false → vltsB b a = false → a = b
  | [], [], _, _, _ => rfl
  | [], y :: ys, _, p, _ => by simp [vltsB] at p
  | x :: xs, [], _, _, q => by simp [vltsB] at q
  | x :: xs, y :: ys, h, p, q => by
    simp only [alikesV, Bool.and_eq_true] at h
    simp only [vltsB] at p q
    cases e : veq x y with
    | true =>
      have exy := (veq_eq x y h.1).mp e
      subst exy
      rw [e] at p q
      simp only [if_true] at p q
      rw [vlts_anti xs ys h.2 p q]
    | false =>
      rw [e] at p
      have e' : veq y x = false := by
        cases e2 : veq y x with
        | false => rfl
        | true =>
          have hs : alikeV y x = true := alikeV_comm x y h.1
          rw [(veq_eq y x hs).mp e2] at e
          rw [(veq_eq x x (by rw [(veq_eq y x hs).mp e2] at h; exact h.1)).mpr rfl] at e
          cases e
      rw [e'] at q
      have exy := vlt_anti x y h.1 (by simpa using p) (by simpa using q)
      rw [(veq_eq x y h.1).mpr exy] at e
      cases e
end
/-! the order of data, as a relation on values -/
def dlt (a b : Val) : Bool := PySem.W.dataLt (toD a) (toD b)
def dle (a b : Val) : Bool := PySem.W.dataLe false toD a b
theorem dle_eq (a b : Val) : dle a b = !dlt b a := by
  unfold dle dlt
  rw [PySem.W.dataLe_eq]
  rfl
theorem dle_total (a b : Val) : (dle a b || dle b a) = true := by
  rw [dle_eq, dle_eq]
  cases h : dlt b a with
  | false => rfl
  | true =>
    cases h2 : dlt a b with
    | false => rfl
    | true =>
      have := lex_trans (O := itemOrd) _ _ _ (show lexLt itemOrd _ _ = true from h) (show lexLt itemOrd _ _ = true from h2)
      rw [lex_irrefl] at this
      cases this
theorem dle_trans (a b c : Val) (h1 : dle a b = true) (h2 : dle b c = true) : dle a c = true := by
  rw [dle_eq] at *
  cases h : dlt c a with
  | false => rfl
  | true =>
    simp only [Bool.not_eq_true'] at h1 h2
    cases q : dlt a b with
    | true =>
      have := lex_trans (O := itemOrd) _ _ _ (show lexLt itemOrd _ _ = true from h) (show lexLt itemOrd _ _ = true from q)
      have h2' : lexLt itemOrd _ _ = false := h2
      rw [this] at h2'
      cases h2'
    | false =>
      have e := lex_total (O := itemOrd) _ _ (show lexLt itemOrd _ _ = false from q) (show lexLt itemOrd _ _ = false from h1)
      have h2' : lexLt itemOrd _ _ = false := h2
      have h' : lexLt itemOrd _ _ = true := h
      rw [e] at h'
      rw [h'] at h2'
      cases h2'
theorem sorted_uniq {α : Type} {le : α → α → Prop} : ∀ {l m : List α}, l.Perm m → l.Pairwise le → m.Pairwise le → (∀ a, a ∈ l → ∀ b, b ∈ l → le a b → le b a → a = b) → l = m
  | [], m, h, _, _, _ => (List.Perm.nil_eq h)
  | x :: l, [], h, _, _, _ => absurd h.symm.nil_eq (by simp)
  | x :: l, y :: m, h, hl, hm, an => by
    have hl' := List.pairwise_cons.mp hl
    have hm' := List.pairwise_cons.mp hm
    have e : x = y := by
      have m1 : x ∈ y :: m := h.mem_iff.mp List.mem_cons_self
      have m2 : y ∈ x :: l := h.mem_iff.mpr List.mem_cons_self
      rcases List.mem_cons.mp m1 with e | m1
      · exact e
      · rcases List.mem_cons.mp m2 with e | m2'
        · exact e.symm
        · exact an x List.mem_cons_self y m2 (hl'.1 y m2') (hm'.1 x m1)
    subst e
    rw [sorted_uniq h.cons_inv hl'.2 hm'.2 fun a ha b hb => an a (List.mem_cons_of_mem _ ha) b (List.mem_cons_of_mem _ hb)]
theorem insV_perm (x : Val) : ∀ l : List Val, (insV x l).Perm (x :: l)
  | [] => .refl _
  | y :: ys => by
    unfold insV
    split
    · exact ((insV_perm x ys).cons y).trans (.swap x y ys)
    · exact .refl _
theorem sortL_perm : ∀ l : List Val, (sortL l).Perm l
  | [] => .refl _
  | x :: xs => (insV_perm x _).trans ((sortL_perm xs).cons x)
theorem insV_sorted (x : Val) (ms : Val → Prop) (hx : ms x) (hv : ∀ a b, ms a → ms b → vltB a b = dlt a b) : ∀ l : List Val, (∀ a ∈ l, ms a) → l.Pairwise (fun a b => dle a b = true) → (insV x l).Pairwise (fun a b => dle a b = true)
  | [], _, _ => List.pairwise_singleton _ _
  | y :: ys, hm, hs => by
    have hs' := List.pairwise_cons.mp hs
    have my := hm y List.mem_cons_self
    unfold insV
    split
    · rename_i h
      refine List.pairwise_cons.mpr ⟨fun z hz => ?_, insV_sorted x ms hx hv ys (fun a ha => hm a (List.mem_cons_of_mem _ ha)) hs'.2⟩
      rcases List.mem_cons.mp ((insV_perm x ys).mem_iff.mp hz) with rfl | hz
      · rw [hv y z my hx] at h
        have t := dle_total y z
        rw [dle_eq z y, h] at t
        simpa using t
      · exact hs'.1 z hz
    · rename_i h
      have h' : dle x y = true := by
        rw [hv y x my hx] at h
        rw [dle_eq]
        simpa using h
      refine List.pairwise_cons.mpr ⟨fun z hz => ?_, hs⟩
      rcases List.mem_cons.mp hz with rfl | hz
      · exact h'
      · exact dle_trans x y z h' (hs'.1 z hz)
theorem sortL_sorted (ms : Val → Prop) (hv : ∀ a b, ms a → ms b → vltB a b = dlt a b) : ∀ l : List Val, (∀ a ∈ l, ms a) → (sortL l).Pairwise (fun a b => dle a b = true)
  | [], _ => List.Pairwise.nil
  | x :: xs, hm => insV_sorted x ms (hm x List.mem_cons_self) hv _ (fun a ha => hm a (List.mem_cons_of_mem _ ((sortL_perm xs).mem_iff.mp ha))) (sortL_sorted ms hv xs fun a ha => hm a (List.mem_cons_of_mem _ ha))
theorem sortL_eq (xs : List Val) (h : xs.all (fun x => xs.all (alikeV x)) = true) : sortL xs = xs.mergeSort dle := by
  have al : ∀ a ∈ xs, ∀ b ∈ xs, alikeV a b = true := fun a ha b hb => List.all_eq_true.mp (List.all_eq_true.mp h a ha) b hb
  have hv : ∀ a b, a ∈ xs → b ∈ xs → vltB a b = dlt a b := fun a b ha hb => (vltB_toD a b (al a ha b hb) (alike_self_plain a (al a ha a ha)) (alike_self_plain b (al b hb b hb))).symm
  refine sorted_uniq ((sortL_perm xs).trans (List.mergeSort_perm xs dle).symm) (sortL_sorted (fun a => a ∈ xs) hv xs fun a ha => ha) (List.pairwise_mergeSort dle_trans dle_total xs) ?_
  intro a ha b hb h1 h2
  have ha' := (sortL_perm xs).mem_iff.mp ha
  have hb' := (sortL_perm xs).mem_iff.mp hb
  rw [dle_eq, ← hv b a hb' ha'] at h1
  rw [dle_eq, ← hv a b ha' hb'] at h2
  exact vlt_anti a b (al a ha' b hb') (by simpa using h2) (by simpa using h1)

/-! ### the call -/
def rSortD (K : PySem.W.Frag) : List V → Hp → VK → Prop := fun vs H Q => ∃ dr R a xs ds, vs = [V.ref a] ∧ Sub R H ∧ SqL K H a xs ∧ RpAll K dr R xs ds ∧ sortOk ds = true ∧
  ∀ ys p, RpAll K dr R ys (sortL ds) → H p = none → Q (.ref p) (upd H p (.lst ys))
theorem each_of {K : PySem.W.Frag} {dr : Dr} {R : Hp} : ∀ {xs : List V} {us : List Value} {ds : List Val}, Vals xs us → RpAll K dr R xs ds → PySem.W.EachIs (fun u d => ∃ v, RelV v u ∧ Rp K dr R v d) us ds
  | _, _, _, .nil, .nil => .nil
  | _, _, _, .cons r rs, .cons h hs => .cons ⟨_, r, h⟩ (each_of rs hs)
theorem of_each {K : PySem.W.Frag} {dr : Dr} {R : Hp} : ∀ {us : List Value} {ds : List Val}, PySem.W.EachIs (fun u d => ∃ v, RelV v u ∧ Rp K dr R v d) us ds → ∃ xs, Vals xs us ∧ RpAll K dr R xs ds
  | _, _, .nil => ⟨[], .nil, .nil⟩
  | _, _, .cons ⟨v, r, h⟩ t => by
    obtain ⟨xs, a, b⟩ := of_each t
    exact ⟨v :: xs, .cons r a, .cons h b⟩
theorem toDs_map : ∀ ds : List Val, toDs ds = ds.map toD
  | [] => rfl
  | _ :: ds => by simp [toDs, toDs_map ds]
theorem deps_mem : ∀ {ds : List Val} {d : Val}, d ∈ ds → dep d ≤ deps ds
  | _ :: ds, d, h => by
    simp only [deps]
    rcases List.mem_cons.mp h with rfl | h
    · omega
    · have := deps_mem h
      omega
section
variable {X : Cx}
theorem each_reads {pins : List (Addr × Obj)} {σ : St} {H : Hp} {s : Shared} {dr : Dr} {R : Hp} (I : Inv X pins σ H s) (sb : Sub R H) : ∀ {us : List Value} {ds : List Val}, PySem.W.EachIs (fun u d => ∃ v, RelV v u ∧ Rp X.K dr R v d) us ds → plains ds = true → PySem.W.EachIs (fun u d => ∃ as, Reads s.heap u (toD d) as) us ds
  | _, _, .nil, _ => .nil
  | _, _, .cons ⟨v, r, h⟩ t, p => by
    simp only [plains, Bool.and_eq_true] at p
    exact .cons (Dp.reads I _ v _ (Rp.dp sb _ p.1 h) r) (each_reads I sb t p.2)
theorem cr_sortD (hu : X.A.units + 64 < cLine) : CallR X (.builtin "sorted") (rSortD X.K) := by
  intro pins s σ H vs us Q I r h
  obtain ⟨dr, R, a, xs, ds, rfl, sb, hs, hr, ok, q⟩ := h
  obtain ⟨its, rv, hl, hz⟩ := I.list hs
  obtain ⟨u, rfl, ru⟩ := vals1 r
  obtain rfl : u = Value.ref a := ru
  simp only [sortOk, Bool.and_eq_true, Bool.or_eq_true, decide_eq_true_eq] at ok
  obtain ⟨⟨ok1, ok2⟩, ok3⟩ := ok
  have al : ∀ a ∈ ds, ∀ b ∈ ds, alikeV a b = true := fun a ha b hb => List.all_eq_true.mp (List.all_eq_true.mp ok1 a ha) b hb
  have pl : plains ds = true := by
    have : ∀ l : List Val, (∀ a ∈ l, plain a = true) → plains l = true := fun l => by
      induction l with
      | nil => intro _; rfl
      | cons x l ih => intro h; simp only [plains, Bool.and_eq_true]; exact ⟨h x List.mem_cons_self, ih fun a ha => h a (List.mem_cons_of_mem _ ha)⟩
    exact this ds fun a ha => alike_self_plain a (al a ha a ha)
  have e := each_of rv hr
  refine PySem.W.sorted_data (enc := toD) (bs := ds) hl.isList e (each_reads I sb e pl) ?_ ?_ (by rw [← hr.len]; exact hz) (fun b hb => ?_) fun out ho eo => ?_
  · intro d hd d' hd'
    obtain ⟨b, hb, rfl⟩ := List.mem_map.mp hd
    obtain ⟨b', hb', rfl⟩ := List.mem_map.mp hd'
    exact alike_toD b b' (al b hb b' hb')
  · rcases ok2 with h | h
    · refine .inl fun d hd => ?_
      obtain ⟨b, hb, rfl⟩ := List.mem_map.mp hd
      have := List.all_eq_true.mp h b hb
      cases b with
      | tup l =>
        cases l with
        | nil => simp [isTup1] at this
        | cons x r => exact ⟨toD x, toDs r, by simp [toD, toDs]⟩
      | _ => simp [isTup1] at this
    · refine .inr fun d hd => ?_
      obtain ⟨b, hb, rfl⟩ := List.mem_map.mp hd
      have := List.all_eq_true.mp h b hb
      cases b <;> simp [notTup] at this <;> simp [toD]
  · have := deps_mem hb
    rw [dep_toD]
    omega
  · have eo' : PySem.W.EachIs (fun u d => ∃ v, RelV v u ∧ Rp X.K dr R v d) out (sortL ds) := by
      rw [sortL_eq ds ok1]
      exact eo
    obtain ⟨ys, ry, hy⟩ := of_each eo'
    obtain ⟨c, hc⟩ := sortedAll_at s.heap its out.toArray
    have hd : s.heap.objs.size ≤ s.heap.objs.size + 1 := Nat.le_succ _
    refine ⟨.ref (s.heap.objs.size + 1), upd H (s.heap.objs.size + 1) (.lst ys), I.laid (t' := s.toks) (fun b o eb => sortedAll_old eb) hd ⟨?_, out, c, ry, hc⟩, rfl, q ys _ hy (I.hok.fresh hd)⟩
    rw [hy.len, (sortL_perm ds).length_eq, ← hr.len]
    exact hz
end
end BG

/-! BG.MinD: min(xs), max(xs) of data of one kind. -/
namespace BG
open PySem PySem.Spec PyProof.Rows L2
theorem toD_inj {a b : Val} (h : alikeV a b = true) (pa : plain a = true) (pb : plain b = true) (e : toD a = toD b) : a = b := by
  refine vlt_anti a b h ?_ ?_
  · rw [← vltB_toD a b h pa pb, e]
    exact lex_irrefl _
  · rw [← vltB_toD b a (alikeV_comm a b h) pb pa, e]
    exact lex_irrefl _
theorem minF_toD (L : List Val) (hL : ∀ a ∈ L, ∀ b ∈ L, vltB a b = dlt a b) : ∀ (ds : List Val) (x : Val), x ∈ L → (∀ d ∈ ds, d ∈ L) → (ds.map toD).foldl (fun a y => if PySem.W.dataLt y a then y else a) (toD x) = toD (ds.foldl (fun a y => if vltB y a then y else a) x) ∧ ds.foldl (fun a y => if vltB y a then y else a) x ∈ L
  | [], x, hx, _ => ⟨rfl, hx⟩
  | d :: ds, x, hx, h => by
    have hd := h d List.mem_cons_self
    have e : PySem.W.dataLt (toD d) (toD x) = vltB d x := (hL d hd x hx).symm
    simp only [List.map_cons, List.foldl_cons, e]
    cases vltB d x with
    | true => exact minF_toD L hL ds d hd fun y hy => h y (List.mem_cons_of_mem _ hy)
    | false => exact minF_toD L hL ds x hx fun y hy => h y (List.mem_cons_of_mem _ hy)
theorem maxF_toD (L : List Val) (hL : ∀ a ∈ L, ∀ b ∈ L, vltB a b = dlt a b) : ∀ (ds : List Val) (x : Val), x ∈ L → (∀ d ∈ ds, d ∈ L) → (ds.map toD).foldl (fun a y => if PySem.W.dataLt a y then y else a) (toD x) = toD (ds.foldl (fun a y => if vltB a y then y else a) x) ∧ ds.foldl (fun a y => if vltB a y then y else a) x ∈ L
  | [], x, hx, _ => ⟨rfl, hx⟩
  | d :: ds, x, hx, h => by
    have hd := h d List.mem_cons_self
    have e : PySem.W.dataLt (toD x) (toD d) = vltB x d := (hL x hx d hd).symm
    simp only [List.map_cons, List.foldl_cons, e]
    cases vltB x d with
    | true => exact maxF_toD L hL ds d hd fun y hy => h y (List.mem_cons_of_mem _ hy)
    | false => exact maxF_toD L hL ds x hx fun y hy => h y (List.mem_cons_of_mem _ hy)
def rBest (K : PySem.W.Frag) (F : List Val → Option Val) : List V → Hp → VK → Prop := fun vs H Q => ∃ dr R a xs ds z, vs = [V.ref a] ∧ Sub R H ∧ (SqL K H a xs ∨ SqT K H a xs) ∧ RpAll K dr R xs ds ∧ F ds = some z ∧ ∀ v, Rp K dr R v z → Q v H
theorem each_at {α β : Type} {R : α → β → Prop} : ∀ {us : List α} {ds : List β}, PySem.W.EachIs R us ds → ∀ (i : Nat) u, us[i]? = some u → ∃ d, ds[i]? = some d ∧ R u d
  | _, _, .nil, i, u, h => by simp at h
  | _, _, .cons r t, 0, u, h => by
    simp only [List.getElem?_cons_zero, Option.some.injEq] at h
    subst h
    exact ⟨_, rfl, r⟩
  | _, _, .cons r t, i + 1, u, h => by
    simp only [List.getElem?_cons_succ] at h ⊢
    exact each_at t i u h
theorem each_all {h : Heap} : ∀ {us : List Value} {ds : List Val}, PySem.W.EachIs (fun u d => ∃ as, Reads h u (toD d) as) us ds → ∃ as, ReadsAll h us (ds.map toD) as
  | _, _, .nil => ⟨_, .nil⟩
  | _, _, .cons ⟨as, r⟩ t => by
    obtain ⟨bs, rs⟩ := each_all t
    exact ⟨_, .cons r rs⟩
theorem depths_le : ∀ (ds : List Val), PyData.depthAll (ds.map toD) ≤ deps ds
  | [] => by simp [PyData.depthAll, deps]
  | d :: ds => by
    have := depths_le ds
    simp only [List.map_cons, PyData.depthAll, deps, dep_toD]
    omega
theorem plains_of {l : List Val} (h : ∀ a ∈ l, plain a = true) : plains l = true := by
  induction l with
  | nil => rfl
  | cons x l ih => simp only [plains, Bool.and_eq_true]; exact ⟨h x List.mem_cons_self, ih fun a ha => h a (List.mem_cons_of_mem _ ha)⟩
theorem toD_ne_none {a : Val} (h : alikeV a a = true) : toD a ≠ .none := by cases a <;> simp [alikeV] at h <;> simp [toD]
section
variable {X : Cx}
theorem cr_min1 (hc : X.calm = true) (hu : X.A.units + 64 < cLine) : CallR X (.builtin "min") (rBest X.K minV) := by
  intro pins s σ H vs us Q I r h
  obtain ⟨dr, R, a, xs, ds, z, rfl, sb, hs, hr, e, q⟩ := h
  rw [Vals.ref1 r]
  cases ds with
  | nil => cases e
  | cons d ds =>
    simp only [minV, Option.ite_none_right_eq_some, Option.some.injEq] at e
    obtain ⟨ok, rfl⟩ := e
    simp only [alike1, Bool.and_eq_true, decide_eq_true_eq] at ok
    obtain ⟨ok1, ok3⟩ := ok
    have al : ∀ a ∈ d :: ds, ∀ b ∈ d :: ds, alikeV a b = true := fun a ha b hb => List.all_eq_true.mp (List.all_eq_true.mp ok1 a ha) b hb
    have pl : ∀ a ∈ d :: ds, plain a = true := fun a ha => alike_self_plain a (al a ha a ha)
    have hL : ∀ a ∈ d :: ds, ∀ b ∈ d :: ds, vltB a b = dlt a b := fun a ha b hb => (vltB_toD a b (al a ha b hb) (pl a ha) (pl b hb)).symm
    obtain ⟨m1, m2⟩ := minF_toD (d :: ds) hL ds d List.mem_cons_self fun y hy => List.mem_cons_of_mem _ hy
    have AA : PySem.W.AlikeAll (toD d :: ds.map toD) := by
      rw [← List.map_cons]
      refine ⟨fun x hx y hy => ?_, fun x hx => ?_⟩
      · obtain ⟨a, ha, rfl⟩ := List.mem_map.mp hx
        obtain ⟨b, hb, rfl⟩ := List.mem_map.mp hy
        exact alike_toD a b (al a ha b hb)
      · obtain ⟨a, ha, rfl⟩ := List.mem_map.mp hx
        exact toD_ne_none (al a ha a ha)
    have du : X.A.units + 1 + PyData.depthAll (toD d :: ds.map toD) < cLine := by
      have := depths_le (d :: ds)
      rw [List.map_cons] at this
      omega
    have fin : ∀ (its : List Value), Vals xs its → (∀ (i : Nat) v h' tk bs, its.toArray[i]? = some v → Reads h' v (PySem.W.minD (toD d) (ds.map toD)) bs → (∀ b o, s.heap.get? b = some o → h'.get? b = some o) → ∃ x H', Inv X pins σ H' { s with heap := h', toks := tk } ∧ RelV x v ∧ Q x H') := by
      intro its rv i v h' tk bs hi hR hk
      have e0 := each_of rv hr
      have hi' : its[i]? = some v := by simpa using hi
      obtain ⟨d1, g1, v0, g2, g3⟩ := each_at e0 i v hi'
      obtain ⟨d2, g4, as, g5⟩ := each_at (each_reads I sb e0 (plains_of pl)) i v hi'
      rw [g1] at g4
      cases g4
      have hm := List.mem_of_getElem? g1
      have dd := (reads_det (fun b o e _ => hk b o e) g5 hR).1
      rw [show PySem.W.minD (toD d) (ds.map toD) = _ from m1] at dd
      rw [← toD_inj (al _ m2 _ hm) (pl _ m2) (pl _ hm) dd] at g3
      exact ⟨v0, H, I.kept hk, g2, q v0 g3⟩
    rcases hs with hs | hs
    · obtain ⟨its, rv, hl, hz⟩ := I.list hs
      obtain ⟨as, ra⟩ := each_all (each_reads I sb (each_of rv hr) (plains_of pl))
      exact PySem.W.min_list_data (I.ok.hd hc) hl.isList ra AA du (fin its rv)
    · obtain ⟨its, rv, hl, hz⟩ := I.tuple hs
      obtain ⟨as, ra⟩ := each_all (each_reads I sb (each_of rv hr) (plains_of pl))
      exact PySem.W.min_tuple_data (I.ok.hd hc) hl ra AA du (fin its rv)
theorem cr_max1 (hc : X.calm = true) (hu : X.A.units + 64 < cLine) : CallR X (.builtin "max") (rBest X.K maxV) := by
  intro pins s σ H vs us Q I r h
  obtain ⟨dr, R, a, xs, ds, z, rfl, sb, hs, hr, e, q⟩ := h
  rw [Vals.ref1 r]
  cases ds with
  | nil => cases e
  | cons d ds =>
    simp only [maxV, Option.ite_none_right_eq_some, Option.some.injEq] at e
    obtain ⟨ok, rfl⟩ := e
    simp only [alike1, Bool.and_eq_true, decide_eq_true_eq] at ok
    obtain ⟨ok1, ok3⟩ := ok
    have al : ∀ a ∈ d :: ds, ∀ b ∈ d :: ds, alikeV a b = true := fun a ha b hb => List.all_eq_true.mp (List.all_eq_true.mp ok1 a ha) b hb
    have pl : ∀ a ∈ d :: ds, plain a = true := fun a ha => alike_self_plain a (al a ha a ha)
    have hL : ∀ a ∈ d :: ds, ∀ b ∈ d :: ds, vltB a b = dlt a b := fun a ha b hb => (vltB_toD a b (al a ha b hb) (pl a ha) (pl b hb)).symm
    obtain ⟨m1, m2⟩ := maxF_toD (d :: ds) hL ds d List.mem_cons_self fun y hy => List.mem_cons_of_mem _ hy
    have AA : PySem.W.AlikeAll (toD d :: ds.map toD) := by
      rw [← List.map_cons]
      refine ⟨fun x hx y hy => ?_, fun x hx => ?_⟩
      · obtain ⟨a, ha, rfl⟩ := List.mem_map.mp hx
        obtain ⟨b, hb, rfl⟩ := List.mem_map.mp hy
        exact alike_toD a b (al a ha b hb)
      · obtain ⟨a, ha, rfl⟩ := List.mem_map.mp hx
        exact toD_ne_none (al a ha a ha)
    have du : X.A.units + 1 + PyData.depthAll (toD d :: ds.map toD) < cLine := by
      have := depths_le (d :: ds)
      rw [List.map_cons] at this
      omega
    have fin : ∀ (its : List Value), Vals xs its → (∀ (i : Nat) v h' tk bs, its.toArray[i]? = some v → Reads h' v (PySem.W.maxD (toD d) (ds.map toD)) bs → (∀ b o, s.heap.get? b = some o → h'.get? b = some o) → ∃ x H', Inv X pins σ H' { s with heap := h', toks := tk } ∧ RelV x v ∧ Q x H') := by
      intro its rv i v h' tk bs hi hR hk
      have e0 := each_of rv hr
      have hi' : its[i]? = some v := by simpa using hi
      obtain ⟨d1, g1, v0, g2, g3⟩ := each_at e0 i v hi'
      obtain ⟨d2, g4, as, g5⟩ := each_at (each_reads I sb e0 (plains_of pl)) i v hi'
      rw [g1] at g4
      cases g4
      have hm := List.mem_of_getElem? g1
      have dd := (reads_det (fun b o e _ => hk b o e) g5 hR).1
      rw [show PySem.W.maxD (toD d) (ds.map toD) = _ from m1] at dd
      rw [← toD_inj (al _ m2 _ hm) (pl _ m2) (pl _ hm) dd] at g3
      exact ⟨v0, H, I.kept hk, g2, q v0 g3⟩
    rcases hs with hs | hs
    · obtain ⟨its, rv, hl, hz⟩ := I.list hs
      obtain ⟨as, ra⟩ := each_all (each_reads I sb (each_of rv hr) (plains_of pl))
      exact PySem.W.max_list_data (I.ok.hd hc) hl.isList ra AA du (fin its rv)
    · obtain ⟨its, rv, hl, hz⟩ := I.tuple hs
      obtain ⟨as, ra⟩ := each_all (each_reads I sb (each_of rv hr) (plains_of pl))
      exact PySem.W.max_tuple_data (I.ok.hd hc) hl ra AA du (fin its rv)
end
end BG

/-! BG.DictT: dict(d) of a dict whose keys are pairs of small numbers. -/
namespace BG
open PySem PySem.Spec PyProof.Rows L2
section
variable {prog : Program} {w : World} {K : Type} [DecidableEq K] {knd : HeapKind prog w K} {A : Around} {E : Value → Shared → Prop} {s : Shared}
theorem call_dictH {o : Addr} {more : List (K × Addr × Value)} {Q : Value → Shared → Prop} (hu : knd.room A.in1.in1) (hoS : (o == sysModules) = false) (ho : s.heap.DictOfH knd o more) (hty : ∀ x ∈ more, s.TypeIs (.ref x.2.1) "tuple")
    (his : ∀ x ∈ more, knd.is (s.heap.push { cls := .type "dict", data := .dict #[] }) x.1 x.2.1) (hap : (more.map fun x => knd.hash x.1).Nodup) (hsz : more.length ≤ sizeLine)
    (h : ∀ h', h'.DictOfH knd s.heap.objs.size more → Heap.SameBut s.heap.objs.size (s.heap.push { cls := .type "dict", data := .dict #[] }) h' → Q (.ref s.heap.objs.size) { s with heap := h' }) :
    wpAny (model prog w) A (call (.type "dict") [.ref o]) Q E s := by
  refine callType_codes (Q₁ := fun obj s₁ => obj = .ref s.heap.objs.size ∧ s₁ = { s with heap := s.heap.push { cls := .type "dict", data := .dict #[] } }) F.kt_called_dict (F.kt_typeCall_dict_1 _) F.entry_dict_init (kt_code_dict_new _ ⟨rfl, rfl⟩) ?_
  rintro obj s₁ ⟨rfl, rfl⟩
  have hnew : (s.heap.push { cls := .type "dict", data := .dict #[] }).DictOfH knd s.heap.objs.size [] := Heap.DictOfH.new s.heap
  have ho' : (s.heap.push { cls := .type "dict", data := .dict #[] }).DictOfH knd o more := ho.at' (fun q e => Heap.get?_push_of_some _ e) his
  have hdo : s.heap.objs.size ≠ o := fun e => absurd ho.lt_size (by rw [e]; exact Nat.lt_irrefl _)
  refine ⟨hnew.typeIs (s := { s with heap := s.heap.push { cls := .type "dict", data := .dict #[] } }), F.args_dict_init_2 _ _, ?_⟩
  unfold Builtin.«dict.__init__»
  refine wpAny_bind ?_
  unfold Builtin.Dict.selfAndRest
  refine wpAny_bind (wpAny_notOrdered_dict (hnew.typeIs (s := { s with heap := s.heap.push { cls := .type "dict", data := .dict #[] } })) ?_)
  show wpAny _ _ (pure (s.heap.objs.size, [Value.ref o])) _ _ _
  refine wpAny_pure ?_
  show wpAny _ _ (Builtin.Dict.updateFrom "dict.__init__" s.heap.objs.size (.ref o) [] .none) _ _ _
  refine updateFrom_dictH (A := A.in1) (s := { s with heap := s.heap.push { cls := .type "dict", data := .dict #[] } }) .none hu hdo hoS hnew ho' (.inr ⟨fun x hx => ?_, hap⟩) (by simpa using hsz) fun h' hd' _ hs' => ?_
  · obtain ⟨q, hq⟩ := hty x hx
    exact ⟨q, Heap.get?_push_of_some _ hq.1, hq.2⟩
  · rw [storedAllH_nil_of_nodup more ho.nodup] at hd'
    exact ⟨rfl, h h' hd' hs'⟩
end
/-! keys that are pairs of small numbers -/
def hash2 (k : List Int) : Int := reduceHash (Builtin.Tuple.tupleHashOf (k.map hashInt))
theorem hash_key {P : Program} {w : World} (k : List Int) : (tupleKind (mixKind P w)).hash (keyI k) = hash2 k := by
  show reduceHash (Builtin.Tuple.tupleHashOf ((keyI k).map (keyH w))) = _
  unfold hash2 keyI
  rw [List.map_map]
  rfl
def keys16 : List (List Int) := [[0, 0], [0, 1], [0, 2], [0, 3], [1, 0], [1, 1], [1, 2], [1, 3], [2, 0], [2, 1], [2, 2], [2, 3], [3, 0], [3, 1], [3, 2], [3, 3]]
theorem hash16 : (keys16.map hash2).Nodup := by decide +kernel
theorem small16 {k : List Int} (h : smallK k = true) : k ∈ keys16 := by
  unfold smallK at h
  split at h
  · rename_i i j
    simp only [Bool.and_eq_true, decide_eq_true_eq] at h
    have hi : i = 0 ∨ i = 1 ∨ i = 2 ∨ i = 3 := by omega
    have hj : j = 0 ∨ j = 1 ∨ j = 2 ∨ j = 3 := by omega
    rcases hi with rfl | rfl | rfl | rfl <;> rcases hj with rfl | rfl | rfl | rfl <;> decide
  · cases h
theorem nodup_on {α β : Type} {f : α → β} : ∀ {l : List α}, (l.map f).Nodup → ∀ a ∈ l, ∀ b ∈ l, f a = f b → a = b
  | [], _, a, ha, _, _, _ => nomatch ha
  | x :: l, h, a, ha, b, hb, e => by
    simp only [List.map_cons, List.nodup_cons] at h
    rcases List.mem_cons.mp ha with rfl | ha1
    · rcases List.mem_cons.mp hb with rfl | hb1
      · rfl
      · exact absurd (List.mem_map.mpr ⟨b, hb1, e.symm⟩) h.1
    · rcases List.mem_cons.mp hb with rfl | hb1
      · exact absurd (List.mem_map.mpr ⟨a, ha1, e⟩) h.1
      · exact nodup_on h.2 a ha1 b hb1 e
theorem hash_inj {k k' : List Int} (h : smallK k = true) (h' : smallK k' = true) (e : hash2 k = hash2 k') : k = k' := nodup_on hash16 k (small16 h) k' (small16 h') e
theorem nodup_hash {P : Program} {w : World} {α : Type} : ∀ {xs : List (List Key × α)}, (xs.map (·.1)).Nodup → (∀ x ∈ xs, ∃ k, smallK k = true ∧ x.1 = keyI k) → (xs.map fun x => (tupleKind (mixKind P w)).hash x.1).Nodup
  | [], _, _ => List.nodup_nil
  | x :: xs, h, hk => by
    simp only [List.map_cons, List.nodup_cons] at h ⊢
    refine ⟨fun q => ?_, nodup_hash h.2 fun y hy => hk y (List.mem_cons_of_mem _ hy)⟩
    obtain ⟨y, hy, e⟩ := List.mem_map.mp q
    obtain ⟨k, s1, e1⟩ := hk x List.mem_cons_self
    obtain ⟨k', s2, e2⟩ := hk y (List.mem_cons_of_mem _ hy)
    rw [e1, e2, hash_key, hash_key] at e
    exact h.1 (List.mem_map.mpr ⟨y, hy, by rw [e1, e2, hash_inj s2 s1 e]⟩)
theorem paired_keys {H : Hp} : ∀ {kvs : List (List Key × V)} {xs : List (List Key × Addr × Value)}, KT H kvs xs → kvs.map (·.1) = xs.map (·.1)
  | _, _, .nil => rfl
  | _, _, .cons h t => by simp only [List.map_cons, paired_keys t, h.1]
section
variable {X : Cx}
def rDictT : List V → Hp → VK → Prop := fun vs H Q => ∃ a kvs, vs = [.ref a] ∧ H a = some (.dT kvs) ∧ (∀ q ∈ kvs, ∃ k, smallK k = true ∧ q.1 = keyI k) ∧ ∀ p, H p = none → Q (.ref p) (upd H p (.dT kvs))
theorem cr_dictT (hu : X.A.units + 64 < cLine) : CallR X (.type "dict") rDictT := by
  intro pins s σ H vs us Q I r h
  obtain ⟨a, kvs, rfl, e, sm, q⟩ := h
  rw [Vals.ref1 r]
  obtain ⟨z, hd, xs, rel, dd⟩ := dt_of I.hok e
  have hk := paired_keys rel
  have hx : ∀ x ∈ xs, ∃ k, smallK k = true ∧ x.1 = keyI k := fun x hx => by
    have : x.1 ∈ kvs.map (·.1) := by rw [hk]; exact List.mem_map.mpr ⟨x, hx, rfl⟩
    obtain ⟨y, hy, ey⟩ := List.mem_map.mp this
    obtain ⟨k, h1, h2⟩ := sm y hy
    exact ⟨k, h1, by rw [← ey, h2]⟩
  obtain ⟨o, es, ep, h1, h2, h3, h4, his, hn⟩ := id dd
  have lenx : xs.length = kvs.length := by
    have := congrArg List.length hk
    rw [List.length_map, List.length_map] at this
    exact this.symm
  have hb : (s.heap.objs.size == sysModules) = false := beq_eq_false_iff_ne.mpr (Ne.symm (Nat.ne_of_lt I.big))
  refine call_dictH (knd := tupleKind (mixKind X.prog X.w)) (show X.A.in1.in1.units < cLine by show X.A.units + 1 + 1 < cLine; omega) hd dd (fun x hx => ?_) (fun x hx => ?_) (nodup_hash hn hx) (by rw [lenx]; exact z) fun h' dd' hs => ?_
  · obtain ⟨ob, its, n, g1, g2, g3, g4⟩ := his x hx
    exact ⟨ob, g1, g2⟩
  · obtain ⟨ob, its, n, g1, g2, g3, g4⟩ := his x hx
    exact ⟨ob, its, n, Heap.get?_push_of_some _ g1, g2, g3, g4⟩
  · obtain ⟨o', es', ep', k1, k2, k3, k4, _, k5⟩ := dd'
    refine ⟨.ref s.heap.objs.size, upd H s.heap.objs.size (.dT kvs), I.laid (a := s.heap.objs.size) (o := .dT kvs) (t' := s.toks) (fun b ob hq => ?_) (Nat.le_refl _) ⟨z, hb, xs, ?_, o', es', ep', k1, k2, k3, k4, k5⟩, rfl, q _ (I.hok.fresh (Nat.le_refl _))⟩
    · exact (hs.2 b (Nat.ne_of_lt (Heap.lt_size hq))).trans (Heap.get?_push_of_some _ hq)
    · refine rel.keeps fun c ys ec => ?_
      rw [upd_ne (fun q => by rw [q, I.hok.fresh (Nat.le_refl _)] at ec; cases ec)]
      exact ec
end
end BG

/-! BG.SortT: sorted(d) of a dict whose keys are tuples. -/
namespace BG
open PySem PySem.Spec PyProof.Rows L2 PySem.W
section
variable {prog : Program} {w : World} {A : Around} {E : Value → Shared → Prop} {s : Shared} {β : Type} {bs : List β} {enc : β → PyData} {R : Value → β → Prop}
theorem sorted_raw {d : Addr} {es : Array DictEntry} {ep : Nat} {Q : Value → Shared → Prop} (hh : A.handled = none) (lo : (d == sysModules) = false) (hm : s.heap.DictRaw d es ep) (hn : es.size ≤ sizeLine)
    (e : PySem.W.EachIs R (es.toList.map (·.key)) bs) (er : PySem.W.EachIs (fun v b => ∃ as, Reads s.heap v (enc b) as) (es.toList.map (·.key)) bs) (hal : PySem.W.AllAlike (bs.map enc)) (hk : PySem.W.Sortable (bs.map enc))
    (hu : ∀ b, b ∈ bs → A.units + 2 + (enc b).depth < cLine)
    (h : ∀ (h1 h' : Heap) (tk : Nat) (out : List Value) (c : Nat), (∀ b o, s.heap.get? b = some o → h1.get? b = some o) → (∀ b o, h1.get? b = some o → h'.get? b = some o) → PySem.W.EachIs R out (bs.mergeSort (PySem.W.dataLe false enc)) → out.length = bs.length → h'.get? h1.objs.size = some (seqObj "list" out.toArray c) → Q (.ref h1.objs.size) { s with heap := h', toks := tk }) :
    wpAny (model prog w) A (call (.builtin "sorted") [.ref d]) Q E s := by
  refine Calls.call_function_entry kind_sorted plain_sorted entry_sorted (args_sorted1 _) ?_
  unfold Builtin.«sorted»
  refine wpAny_bind (m := checkCount "sorted" 1 1 _) (wpAny_pure ?_)
  refine wpAny_bind (PySem.W.kdu_collect (A := A.in1) (KdlSrc.rawDict (es := es) (ep := ep) lo) hh hm hn fun h' tk acc hkp hacc => ?_)
  have hl : acc.toList.length = es.size := by rw [Array.length_toList]; exact hacc.1
  have ea : acc.toList = es.toList.map (·.key) := by
    apply List.ext_getElem?
    intro j
    rw [List.getElem?_map]
    by_cases hj : j < es.size
    · have h1 : j < acc.toList.length := by rw [hl]; exact hj
      obtain ⟨hi, ev⟩ := hacc.2 j acc.toList[j] (by rw [← Array.getElem?_toList]; exact List.getElem?_eq_getElem h1)
      rw [List.getElem?_eq_getElem h1, ev, List.getElem?_eq_getElem (by simpa using hj)]
      simp
    · rw [List.getElem?_eq_none (by rw [hl]; omega), List.getElem?_eq_none (by simp; omega)]
      rfl
  refine wpAny_bind (wpAny_newList ?_ (by rw [hl]; exact hn))
  have hoL : (h'.push (seqObj "list" acc.toList.toArray 0)).get? h'.objs.size = some (seqObj "list" acc.toList.toArray 0) := Heap.get?_push_size _ rfl
  rw [← ea] at e er
  have old : ∀ b o, s.heap.get? b = some o → (sortingHeap (h'.push (seqObj "list" acc.toList.toArray 0)) h'.objs.size acc.toList).get? b = some o := fun b o eb =>
    sortingHeap_old (Nat.ne_of_lt (Heap.lt_size (hkp b o eb))) (Heap.get?_push_of_some _ (hkp b o eb))
  have er' : PySem.W.EachIs (fun v b => ∃ as, Reads (sortingHeap (h'.push (seqObj "list" acc.toList.toArray 0)) h'.objs.size acc.toList) v (enc b) as) acc.toList bs := er.mono fun _ _ ⟨as, r⟩ => ⟨as, PyProof.Rows.Reads.keeps old r⟩
  show wpAny _ _ _ _ _ { s with heap := h'.push (seqObj "list" acc.toList.toArray 0), toks := tk }
  refine wpAny_bind (wpAny_holding (wpAny_call_entry slot_list_sort ⟨_, hoL, rfl⟩ entry_list_sort
    (PySem.W.list_sort_vals (s := { s with heap := h'.push (seqObj "list" acc.toList.toArray 0), toks := tk }) (κ := PySem.W.dataKind (sortingHeap (h'.push (seqObj "list" acc.toList.toArray 0)) h'.objs.size acc.toList) (bs.map enc)) hoL
      (PySem.W.SortsAt.data (s := { s with heap := sortingHeap (h'.push (seqObj "list" acc.toList.toArray 0)) h'.objs.size acc.toList, toks := tk }) (PySem.W.each_map (R := fun v d => ∃ as, Reads (sortingHeap (h'.push (seqObj "list" acc.toList.toArray 0)) h'.objs.size acc.toList) v d as) enc er') hal hk (PySem.W.bound_map hu)) (by rw [hl]; exact hn) ⟨.none, rfl, ?_⟩) (args_list_sort _)))
  obtain ⟨c, hc⟩ := PyProof.Rows.sortedHeap_at (vs := acc.toList) (out := (PySem.W.sortVals (PySem.W.dataKind (sortingHeap (h'.push (seqObj "list" acc.toList.toArray 0)) h'.objs.size acc.toList) (bs.map enc)) false acc.toList acc.toList).toArray) hoL
  refine wpAny_pure ⟨_, rfl, h h' _ tk _ c hkp (fun b o eb => ?_) (PySem.W.sortVals_data false e er' hal) (by rw [PySem.W.sortVals_length false rfl]; exact e.length) hc⟩
  have hb : b < h'.objs.size := Heap.lt_size eb
  rw [PyProof.Rows.sortedHeap_old (Nat.ne_of_lt hb) (by rw [size_push']; exact Nat.lt_succ_of_lt hb)]
  exact Heap.get?_push_of_some _ eb
end
/-! ### the rules -/
section
variable {X : Cx}
def rIxT : R2 := fun x y H Q => ∃ a y' v, x = .ref a ∧ y = y' ∧ DGet H a y' (some v) ∧ Q v H
theorem ix_T (hu : X.A.units + 64 < cLine) : IxR X rIxT := by
  intro value slice pins s σ H x y u v Q I rx ry h hsub
  obtain ⟨a, y', v0, rfl, rfl, g, qq⟩ := h
  cases (show u = Value.ref a from rx)
  exact tail_any (dict_typeIs I g) slot_dict_getitem.lookup (d_getItem (by omega) I g ry fun w' s' I' r' => ⟨v0, H, I', r', qq⟩) hsub
/-- a dict's keys sorted, the keys given as data -/
theorem sort_keys (hc : X.calm = true) (hu : X.A.units + 64 < cLine) {pins : List (Addr × Obj)} {s : Shared} {σ : St} {H R : Hp} {dr : Dr} {Q : VK} {a : Addr} {es : Array DictEntry} {ep : Nat} {ds : List Val} (I : Inv X pins σ H s) (sb : Sub R H) (lo : (a == sysModules) = false) (hm : s.heap.DictRaw a es ep) (hn : es.size ≤ sizeLine)
    (e : PySem.W.EachIs (fun u d => ∃ v, RelV v u ∧ Rp X.K dr R v d) (es.toList.map (·.key)) ds) (ok : sortOk ds = true) (hl : ds.length ≤ sizeLine) (q : ∀ ys p, RpAll X.K dr R ys (sortL ds) → H p = none → Q (.ref p) (upd H p (.lst ys))) :
    wpAny (model X.prog X.w) X.A (call (.builtin "sorted") [.ref a]) (EP X pins σ Q) X.xe s := by
  simp only [sortOk, Bool.and_eq_true, Bool.or_eq_true, decide_eq_true_eq] at ok
  obtain ⟨⟨ok1, ok2⟩, ok3⟩ := id ok
  have al : ∀ a ∈ ds, ∀ b ∈ ds, alikeV a b = true := fun a ha b hb => List.all_eq_true.mp (List.all_eq_true.mp ok1 a ha) b hb
  refine sorted_raw (enc := toD) (bs := ds) (I.ok.hd hc) lo hm hn e (each_reads I sb e (plains_of fun a ha => alike_self_plain a (al a ha a ha))) ?_ ?_ (fun b hb => ?_) fun h1 h' tk out c k1 k2 eo len hcc => ?_
  · intro d hd d' hd'
    obtain ⟨b, hb, rfl⟩ := List.mem_map.mp hd
    obtain ⟨b', hb', rfl⟩ := List.mem_map.mp hd'
    exact alike_toD b b' (al b hb b' hb')
  · rcases ok2 with h | h
    · refine .inl fun d hd => ?_
      obtain ⟨b, hb, rfl⟩ := List.mem_map.mp hd
      have := List.all_eq_true.mp h b hb
      cases b with
      | tup l =>
        cases l with
        | nil => simp [isTup1] at this
        | cons x r => exact ⟨toD x, toDs r, by simp [toD, toDs]⟩
      | _ => simp [isTup1] at this
    · refine .inr fun d hd => ?_
      obtain ⟨b, hb, rfl⟩ := List.mem_map.mp hd
      have := List.all_eq_true.mp h b hb
      cases b <;> simp [notTup] at this <;> simp [toD]
  · have := deps_mem hb
    rw [dep_toD]
    omega
  · have eo' : PySem.W.EachIs (fun u d => ∃ v, RelV v u ∧ Rp X.K dr R v d) out (sortL ds) := by
      rw [sortL_eq ds ok1]
      exact eo
    obtain ⟨ys, ry, hy⟩ := of_each eo'
    have I1 : Inv X pins σ H { s with heap := h1, toks := tk } := I.kept k1
    refine ⟨.ref h1.objs.size, upd H h1.objs.size (.lst ys), I1.laid (t' := tk) (fun b u eb => k2 b u eb) (Nat.le_refl _) ⟨?_, out, c, ry, hcc⟩, rfl, q ys _ hy (I1.hok.fresh (Nat.le_refl _))⟩
    rw [hy.len, (sortL_perm ds).length_eq]
    exact hl
def rSortDT (K : PySem.W.Frag) : List V → Hp → VK → Prop := fun vs H Q => ∃ (a : Addr) (kvs : List (List Key × V)) (ks : List (List Int)), vs = [.ref a] ∧ H a = some (.dT kvs) ∧ kvs.map (fun p => p.1) = ks.map keyI ∧ ks.all smallK = true ∧ sortOk (ks.map kT) = true ∧
  ∀ ys p, RpAll K dr0 H ys (sortL (ks.map kT)) → H p = none → Q (.ref p) (upd H p (.lst ys))
theorem rp_intsK {K : PySem.W.Frag} {dr : Dr} {R : Hp} : ∀ (k : List Int), RpAll K dr R (k.map V.int) (k.map .int)
  | [] => .nil
  | i :: k => .cons (.int i) (rp_intsK k)
theorem keys_each {K : PySem.W.Frag} {H : Hp} : ∀ {kvs : List (List Key × V)} {xs : List (List Key × Addr × Value)} {ks : List (List Int)}, KT H kvs xs → kvs.map (fun p => p.1) = ks.map keyI → ks.all smallK = true →
    PySem.W.EachIs (fun u d => ∃ v, RelV v u ∧ Rp K dr0 H v d) (xs.map fun x => Value.ref x.2.1) (ks.map kT)
  | _, _, [], .nil, _, _ => .nil
  | _, _, _ :: _, .nil, h, _ => by simp at h
  | _, _, [], .cons _ _, h, _ => by simp at h
  | _, _, k :: ks, .cons h t, e, sm => by
    simp only [List.map_cons, List.cons.injEq] at e
    simp only [List.all_cons, Bool.and_eq_true] at sm
    refine .cons ⟨.ref _, rfl, ?_⟩ (keys_each t e.2 sm.2)
    have h2 := h.2.1
    rw [e.1] at h2
    refine .tup (xs := k.map V.int) ?_ (rp_intsK k) ?_
    · rw [h2]
      unfold keyI
      rw [List.map_map]
      rfl
    · have := sm.1
      unfold smallK at this
      split at this
      · show 2 ≤ lim; decide
      · cases this
theorem cr_sortDT (hc : X.calm = true) (hu : X.A.units + 64 < cLine) : CallR X (.builtin "sorted") (rSortDT X.K) := by
  intro pins s σ H vs us Q I r h
  obtain ⟨a, kvs, ks, rfl, e, hk, sm, ok, q⟩ := h
  rw [Vals.ref1 r]
  obtain ⟨z, hd, xs, rel, dd⟩ := dt_of I.hok e
  obtain ⟨o, es, ep, h1, h2, h3, h4, his, hn⟩ := id dd
  have eK : es.toList.map (·.key) = xs.map (fun x => Value.ref x.2.1) := by rw [h4, List.map_map]; rfl
  have hp := paired_keys rel
  have lx : xs.length = kvs.length := by
    have := congrArg List.length hp
    rw [List.length_map, List.length_map] at this
    exact this.symm
  have lk : ks.length = kvs.length := by
    have := congrArg List.length hk
    rw [List.length_map, List.length_map] at this
    exact this.symm
  have le : es.size = xs.length := by
    have := congrArg List.length h4
    rw [Array.length_toList, List.length_map] at this
    exact this
  have E := keys_each (K := X.K) rel hk sm
  rw [← eK] at E
  exact sort_keys hc hu I (Sub.refl H) hd ⟨o, h1, h2, h3⟩ (by rw [le, lx]; exact z) E ok (by rw [List.length_map, lk]; exact z) q
def rSortDN (K : PySem.W.Frag) : List V → Hp → VK → Prop := fun vs H Q => ∃ (dr : Dr) (R : Hp) (a : Addr) (xs : List EN) (ks : List Val), vs = [.ref a] ∧ Sub R H ∧ H a = some (DN a xs) ∧ RpAll K dr R (xs.map fun x => V.ref x.2.1) ks ∧ sortOk ks = true ∧
  ∀ ys p, RpAll K dr R ys (sortL ks) → H p = none → Q (.ref p) (upd H p (.lst ys))
theorem vals_refs : ∀ {xs : List EN} {ys : List (NestedKey × Addr × Value)}, Paired rEN xs ys → Vals (xs.map fun x => V.ref x.2.1) (ys.map fun y => Value.ref y.2.1)
  | _, _, .nil => .nil
  | _, _, .cons h t => .cons (congrArg Value.ref h.2.1.symm) (vals_refs t)
theorem cr_sortDN (hc : X.calm = true) (hu : X.A.units + 64 < cLine) : CallR X (.builtin "sorted") (rSortDN X.K) := by
  intro pins s σ H vs us Q I r h
  obtain ⟨dr, R, a, xs, ks, rfl, sb, e, hx, ok, q⟩ := h
  rw [Vals.ref1 r]
  obtain ⟨z, hd, ys, pr, o, es, ep, h1, h2, h3, h4, hn⟩ := dn_get I.hok e
  have eK : es.toList.map (·.key) = ys.map (fun x => Value.ref x.2.1) := by rw [h4, List.map_map]; rfl
  have lx : xs.length = ys.length := Paired.length pr
  have le : es.size = ys.length := by
    have := congrArg List.length h4
    rw [Array.length_toList, List.length_map] at this
    exact this
  have lk : xs.length = ks.length := by
    have := hx.len
    rw [List.length_map] at this
    exact this
  have E := each_of (vals_refs pr) hx
  rw [← eK] at E
  exact sort_keys hc hu I sb hd ⟨o, h1, h2, h3⟩ (by rw [le, ← lx]; exact z) E ok (by rw [← lk]; exact z) q
end
end BG

/-! BG.Calls: subscripts, slices, built-in functions and methods on values. -/
namespace BG
open PySem PySem.Spec PyProof.Rows L2

inductive ShAll (K : PySem.W.Frag) (dr : Dr) (R H : Hp) : List V → List Val → Prop
  | nil : ShAll K dr R H [] []
  | cons {v : V} {vs : List V} {d : Val} {ds : List Val} (h : Sh K dr R H v d) (hs : ShAll K dr R H vs ds) : ShAll K dr R H (v :: vs) (d :: ds)
theorem ResA.sh {K : PySem.W.Frag} {O : List Nat} {dr : Dr} {R H : Hp} : ∀ {c : Ex} {vs : List V} {ds : List Val}, ResA K O dr R H c vs ds → ShAll K dr R H vs ds
  | _, _, _, .nil => .nil
  | _, _, _, .cons h hs => .cons h.sh (ResA.sh hs)
theorem ShAll.one {K : PySem.W.Frag} {dr : Dr} {R H : Hp} {vs : List V} {d : Val} (h : ShAll K dr R H vs [d]) : ∃ v, vs = [v] ∧ Sh K dr R H v d := by
  cases h with
  | cons h hs => cases hs; exact ⟨_, rfl, h⟩
theorem ShAll.two {K : PySem.W.Frag} {dr : Dr} {R H : Hp} {vs : List V} {d e : Val} (h : ShAll K dr R H vs [d, e]) : ∃ v w, vs = [v, w] ∧ Sh K dr R H v d ∧ Sh K dr R H w e := by
  cases h with
  | cons h hs =>
    cases hs with
    | cons h2 hs => cases hs; exact ⟨_, _, rfl, h, h2⟩

/-! ### subscripts -/
theorem cutIx_eq (n d : Nat) : ∀ o, cutIx n d o = HT.sIx n d o
  | none => rfl
  | some _ => rfl
theorem place_eq (i : Int) (n : Nat) : place i n = ixN n i := rfl
theorem keyI_inj {k q : List Int} (h : keyI k = keyI q) : k = q := by
  unfold keyI at h
  exact (List.map_inj_right (fun _ _ e => Sum.inl.inj e)).mp h
theorem keyI_kV (q : List Int) : (keyI q).map kV = q.map V.int := by
  unfold keyI
  rw [List.map_map]
  rfl
theorem val_rel {K : PySem.W.Frag} {dr : Dr} {R : Hp} {q : List Int} : ∀ {ps : List (List Key × V)} {ks : List (List Int)} {vs : List Val}, ps.map (fun p => p.1) = ks.map keyI → RpAll K dr R (ps.map fun p => p.2) vs →
    (valV ps (keyI q) = none ∧ valD ks vs q = none) ∨ ∃ v d, valV ps (keyI q) = some v ∧ valD ks vs q = some d ∧ Rp K dr R v d
  | [], [], _, _, h => by
    cases h
    exact .inl ⟨rfl, rfl⟩
  | [], _ :: _, _, h, _ => by simp at h
  | _ :: _, [], _, h, _ => by simp at h
  | p :: ps, k :: ks, vs, h, hs => by
    simp only [List.map_cons, List.cons.injEq] at h hs
    cases hs with
    | cons h1 h2 =>
      by_cases e : k = q
      · subst e
        exact .inr ⟨p.2, _, valV_pos h.1, by simp [valD], h1⟩
      · have e' : ¬ p.1 = keyI q := fun z => e (keyI_inj (h.1.symm.trans z))
        rw [valV_neg e']
        simp only [valD, if_neg e]
        exact val_rel h.2 h2
def rIxAll (K : PySem.W.Frag) : R2 := fun x y H Q => rIx K x y H Q ∨ (rIxN K x y H Q ∨ rIxT x y H Q)
theorem ix_all {X : Cx} (hu : X.A.units + 64 < cLine) : IxR X (rIxAll X.K) := ix_seq.or ((ix_N hu).or (ix_T hu))
theorem ok_idx (K : PySem.W.Frag) : OpOk K vidx (rIxAll K) := by
  intro dr R H s vx vy x y z Q sb dk hx hy e f
  cases x with
  | tup ds =>
    cases y with
    | int i =>
      simp only [vidx] at e
      obtain ⟨p, xs, rfl, g1, g2, g3⟩ := hx.tup sb
      rw [hy.int]
      obtain ⟨k, e1, e2⟩ := Option.bind_eq_some_iff.mp e
      obtain ⟨v, h1, h2⟩ := g3.getD e2
      refine .inl (.inr (.inl ⟨p, xs, i, v, rfl, rfl, SqT.of g1, ?_, f.here sb dk h2⟩))
      unfold atI
      rw [← place_eq, g3.len, e1]
      exact h1
    | _ => simp [vidx] at e
  | lst ds =>
    cases y with
    | int i =>
      simp only [vidx] at e
      obtain ⟨p, xs, rfl, g1, g3⟩ := hx.lst sb
      rw [hy.int]
      obtain ⟨k, e1, e2⟩ := Option.bind_eq_some_iff.mp e
      obtain ⟨v, h1, h2⟩ := g3.getD e2
      refine .inl (.inl ⟨p, xs, i, v, rfl, rfl, SqL.of g1, ?_, f.here sb dk h2⟩)
      unfold atI
      rw [← place_eq, g3.len, e1]
      exact h1
    | _ => simp [vidx] at e
  | str cs =>
    cases y with
    | int i =>
      simp only [vidx] at e
      obtain ⟨rfl, q1, q2⟩ := hx.str
      rw [hy.int]
      obtain ⟨k, e1, e2⟩ := Option.bind_eq_some_iff.mp e
      obtain ⟨c, e3, rfl⟩ := Option.map_eq_some_iff.mp e2
      refine .inl (.inr (.inr ⟨_, i, c, rfl, rfl, by rw [str_len]; exact lim_line q2, ?_, ?_⟩))
      · show atI cs i = some c
        unfold atI
        rw [← place_eq, e1]
        exact e3
      · refine f.here sb dk (.str [c] ?_ (by show 1 ≤ lim; decide))
        have := List.all_eq_true.mp q1 c (List.mem_of_getElem? e3)
        simpa using this
    | _ => simp [vidx] at e
  | dcn ks vs =>
    have e' : (if dOk ks y then dfindN ks vs y else none) = some z := by cases y <;> simpa [vidx] using e
    simp only [Option.ite_none_right_eq_some] at e'
    obtain ⟨a, o, rfl, h1, ob⟩ := hx.dcn sb
    exact .inr (.inl ⟨a, ks, vs, y, z, dr, R, o, rfl, sb, h1, ob, hy.key e'.1, e'.1, e'.2, fun v hv => f.here sb dk hv⟩)
  | dct ks vs =>
    cases y with
    | tup qs =>
      simp only [vidx] at e
      obtain ⟨q, e1, e2⟩ := Option.bind_eq_some_iff.mp e
      obtain ⟨p, xs, rfl, hp, hpR, rp⟩ := hy.tup sb
      have ex := RpAll.ints rp e1
      subst ex
      rcases hx with hx | hx
      · cases hx with
        | @dct a' ps _ _ hR hk hvs hlen =>
          rcases val_rel (q := q) hk hvs with ⟨_, v2⟩ | ⟨v, dd, v1, v2, rv⟩
          · rw [v2] at e2
            cases e2
          · rw [v2] at e2
            cases e2
            refine .inr (.inr ⟨a', .ref p, v, rfl, rfl, ?_, f.here sb dk rv⟩)
            rw [← v1]
            exact DGet.t (sb _ _ hR) (by rw [keyI_kV]; exact hp)
      · exact (hx.not (fun _ z => nomatch z) (fun _ _ z => nomatch z)).elim
    | _ => simp [vidx] at e
  | _ => simp [vidx] at e

/-! ### slices -/
def rSlAll (K : PySem.W.Frag) : V → Option Int → Option Int → Hp → VK → Prop := fun x lo hi H Q => rSlL K x lo hi H Q ∨ rSlA K x lo hi H Q ∨ rSlS x lo hi H Q
theorem sl_all {X : Cx} : SlR X (rSlAll X.K) := sl_list.or (sl_tupA.or sl_str)
theorem cut_rp {K : PySem.W.Frag} {dr : Dr} {R : Hp} {xs : List V} {ds : List Val} (h : RpAll K dr R xs ds) (lo hi : Option Int) : RpAll K dr R (cutV xs lo hi) (cut ds lo hi) := by
  unfold cutV cut
  simp only [cutIx_eq]
  rw [h.len]
  exact (h.drop _).take _
theorem cut_whole {ds : List Val} {lo hi : Option Int} (h : HT.sIx ds.length 0 lo = 0 ∧ HT.sIx ds.length ds.length hi = ds.length) : cut ds lo hi = ds := by
  unfold cut
  simp only [cutIx_eq, h.1, h.2, List.drop_zero, Nat.sub_zero, List.take_length]
theorem cut_le {α : Type} (ds : List α) (lo hi : Option Int) : (cut ds lo hi).length ≤ ds.length := by
  unfold cut
  rw [List.length_take, List.length_drop]
  omega
theorem ok_slice (K : PySem.W.Frag) {dr : Dr} {R H : Hp} {s : DSt} {vx : V} {x z : Val} {lo hi : Option Int} {Q : VK} (sb : Sub R H) (dk : DrOk K dr s R H) (hx : Sh K dr R H vx x) (e : vslice x lo hi = some z) (f : Fin K dr R H s z Q) : rSlAll K vx lo hi H Q := by
  cases x with
  | tup ds =>
    simp only [vslice, Option.some.injEq] at e
    subst e
    obtain ⟨p, xs, rfl, g1, g2, g3⟩ := hx.tup sb
    refine .inr (.inl ⟨p, xs, rfl, SqT.of g1, fun h => ?_, fun _ t ht => f.newT sb dk (cut_rp g3 lo hi) (Nat.le_trans (cut_le _ _ _) hx.tupLen) t ht⟩)
    rw [g3.len] at h
    rw [cut_whole h] at f
    exact f.here sb dk (.tup g2 g3 hx.tupLen)
  | lst ds =>
    simp only [vslice, Option.some.injEq] at e
    subst e
    obtain ⟨p, xs, rfl, g1, g3⟩ := hx.lst sb
    exact .inl ⟨p, xs, rfl, SqL.of g1, fun t ht => f.newL sb dk (cut_rp g3 lo hi) (Nat.le_trans (cut_le _ _ _) hx.lstLen) t ht⟩
  | str cs =>
    simp only [vslice, Option.some.injEq] at e
    subst e
    obtain ⟨rfl, q1, q2⟩ := hx.str
    refine .inr (.inr ⟨_, rfl, by rw [str_len]; exact lim_line q2, ?_⟩)
    have e1 : cutS ⟨cs.toArray⟩ lo hi = ⟨(cut cs lo hi).toArray⟩ := by
      unfold cutS cut
      simp only [cutIx_eq, str_len]
    rw [e1]
    refine f.here sb dk (.str _ ?_ ?_)
    · refine List.all_eq_true.mpr fun c hc => List.all_eq_true.mp q1 c ?_
      exact List.mem_of_mem_drop (List.mem_of_mem_take hc)
    · unfold cut
      rw [List.length_take, List.length_drop]
      omega
  | _ => simp [vslice] at e

/-! ### built-in functions -/
def CallOk (K : PySem.W.Frag) (F : List Val → Option Val) (r : List V → Hp → VK → Prop) : Prop :=
  ∀ dr R H s vs ds z Q, Sub R H → DrOk K dr s R H → ShAll K dr R H vs ds → F ds = some z → Fin K dr R H s z Q → r vs H Q
theorem ok_len (K : PySem.W.Frag) : CallOk K (vbi .len) (fun xs H Q => ∃ x n, xs = [x] ∧ LenV K x H n ∧ Q (.int n) H) := by
  intro dr R H s vs ds z Q sb dk hs e f
  unfold vbi at e
  split at e <;> (try (simp at *; done))
  · simp only [Option.some.injEq] at e
    subst e
    obtain ⟨v, rfl, h⟩ := hs.one
    obtain ⟨p, xs, rfl, g1, g2, g3⟩ := h.tup sb
    exact ⟨_, xs.length, rfl, .inr ⟨xs, SqT.of g1, rfl⟩, by rw [g3.len]; exact f.here sb dk (.int _)⟩
  · simp only [Option.some.injEq] at e
    subst e
    obtain ⟨v, rfl, h⟩ := hs.one
    obtain ⟨p, xs, rfl, g1, g3⟩ := h.lst sb
    exact ⟨_, xs.length, rfl, .inl ⟨xs, SqL.of g1, rfl⟩, by rw [g3.len]; exact f.here sb dk (.int _)⟩
  · simp only [Option.ite_none_right_eq_some, Option.some.injEq] at e
    obtain ⟨hl, rfl⟩ := e
    obtain ⟨v, rfl, h⟩ := hs.one
    obtain ⟨rfl, q1, q2⟩ := h.str
    exact ⟨_, _, rfl, ⟨by rw [str_len]; exact lim_line q2, rfl⟩, by rw [str_len]; exact f.here sb dk (.int _)⟩
theorem ok_all (K : PySem.W.Frag) : CallOk K (vbi .all) (rAll K) := by
  intro dr R H s vs ds z Q sb dk hs e f
  unfold vbi at e
  split at e <;> (try (simp at *; done))
  obtain ⟨bs, e1, rfl⟩ := Option.map_eq_some_iff.mp e
  obtain ⟨v, rfl, h⟩ := hs.one
  obtain ⟨p, xs, rfl, g1, g3⟩ := h.lst sb
  rw [g3.bls e1] at g1
  exact ⟨p, bs, rfl, SqL.of g1, f.here sb dk (.bl _)⟩
theorem ok_any (K : PySem.W.Frag) : CallOk K (vbi .any) (rAny K) := by
  intro dr R H s vs ds z Q sb dk hs e f
  unfold vbi at e
  split at e <;> (try (simp at *; done))
  obtain ⟨bs, e1, rfl⟩ := Option.map_eq_some_iff.mp e
  obtain ⟨v, rfl, h⟩ := hs.one
  obtain ⟨p, xs, rfl, g1, g3⟩ := h.lst sb
  rw [g3.bls e1] at g1
  exact ⟨p, bs, rfl, SqL.of g1, f.here sb dk (.bl _)⟩
theorem ok_sum (K : PySem.W.Frag) : CallOk K (vbi .sum) (rSum K) := by
  intro dr R H s vs ds z Q sb dk hs e f
  unfold vbi at e
  split at e <;> (try (simp at *; done))
  obtain ⟨bs, e1, rfl⟩ := Option.map_eq_some_iff.mp e
  obtain ⟨v, rfl, h⟩ := hs.one
  obtain ⟨p, xs, rfl, g1, g3⟩ := h.lst sb
  rw [g3.ints e1] at g1
  exact ⟨p, bs, rfl, SqL.of g1, f.here sb dk (.int _)⟩
theorem maxI_spec : ∀ {ns : List Int} {m : Int}, maxI ns = some m → m ∈ ns ∧ ∀ y ∈ ns, y ≤ m
  | [], m, h => by simp [maxI] at h
  | [x], m, h => by simp [maxI] at h; subst h; simp
  | x :: y :: r, m, h => by
    simp only [maxI] at h
    obtain ⟨k, e, h⟩ := Option.map_eq_some_iff.mp h
    obtain ⟨h1, h2⟩ := maxI_spec e
    by_cases c : k > x
    · rw [if_pos c] at h
      subst h
      refine ⟨List.mem_cons_of_mem _ h1, fun z hz => ?_⟩
      rcases List.mem_cons.mp hz with rfl | hz
      · omega
      · exact h2 z hz
    · rw [if_neg c] at h
      subst h
      refine ⟨List.mem_cons_self, fun z hz => ?_⟩
      rcases List.mem_cons.mp hz with rfl | hz
      · omega
      · have := h2 z hz
        omega
theorem minI_spec : ∀ {ns : List Int} {m : Int}, minI ns = some m → m ∈ ns ∧ ∀ y ∈ ns, m ≤ y
  | [], m, h => by simp [minI] at h
  | [x], m, h => by simp [minI] at h; subst h; simp
  | x :: y :: r, m, h => by
    simp only [minI] at h
    obtain ⟨k, e, h⟩ := Option.map_eq_some_iff.mp h
    obtain ⟨h1, h2⟩ := minI_spec e
    by_cases c : k < x
    · rw [if_pos c] at h
      subst h
      refine ⟨List.mem_cons_of_mem _ h1, fun z hz => ?_⟩
      rcases List.mem_cons.mp hz with rfl | hz
      · omega
      · exact h2 z hz
    · rw [if_neg c] at h
      subst h
      refine ⟨List.mem_cons_self, fun z hz => ?_⟩
      rcases List.mem_cons.mp hz with rfl | hz
      · omega
      · have := h2 z hz
        omega
theorem ok_best {kk : BiK} {F : List Val → Option Val} (K : PySem.W.Frag) (hF : ∀ ds z, vbi kk ds = some z → ∃ l, (ds = [.lst l] ∨ ds = [.tup l]) ∧ F l = some z) : CallOk K (vbi kk) (rBest K F) := by
  intro dr R H s vs ds z Q sb dk hs e f
  obtain ⟨l, hl, e1⟩ := hF ds z e
  rcases hl with rfl | rfl
  · obtain ⟨v, rfl, h⟩ := hs.one
    obtain ⟨p, xs, rfl, g1, g3⟩ := h.lst sb
    exact ⟨dr, R, p, xs, l, z, rfl, sb, .inl (SqL.of g1), g3, e1, fun v hv => f.here sb dk hv⟩
  · obtain ⟨v, rfl, h⟩ := hs.one
    obtain ⟨p, xs, rfl, g1, g2, g3⟩ := h.tup sb
    exact ⟨dr, R, p, xs, l, z, rfl, sb, .inr (SqT.of g1), g3, e1, fun v hv => f.here sb dk hv⟩
theorem ok_max1 (K : PySem.W.Frag) : CallOk K (vbi .max1) (rBest K maxV) := ok_best K fun ds z e => by
  unfold vbi at e
  split at e <;> (try (simp at *; done))
  · exact ⟨_, .inl rfl, e⟩
  · exact ⟨_, .inr rfl, e⟩
theorem ok_min1 (K : PySem.W.Frag) : CallOk K (vbi .min1) (rBest K minV) := ok_best K fun ds z e => by
  unfold vbi at e
  split at e <;> (try (simp at *; done))
  · exact ⟨_, .inl rfl, e⟩
  · exact ⟨_, .inr rfl, e⟩
theorem ok_max2 (K : PySem.W.Frag) : CallOk K (vbi .max2) (fun xs H Q => ∃ i j, xs = [.int i, .int j] ∧ Q (.int (if j > i then j else i)) H) := by
  intro dr R H s vs ds z Q sb dk hs e f
  unfold vbi at e
  split at e <;> (try (simp at *; done))
  rename_i i j
  simp only [Option.some.injEq] at e
  subst e
  obtain ⟨v, w, rfl, h1, h2⟩ := hs.two
  rw [h1.int, h2.int]
  exact ⟨_, _, rfl, f.here sb dk (.int _)⟩
theorem ok_min2 (K : PySem.W.Frag) : CallOk K (vbi .min2) (fun xs H Q => ∃ i j, xs = [.int i, .int j] ∧ Q (.int (if j < i then j else i)) H) := by
  intro dr R H s vs ds z Q sb dk hs e f
  unfold vbi at e
  split at e <;> (try (simp at *; done))
  simp only [Option.some.injEq] at e
  subst e
  obtain ⟨v, w, rfl, h1, h2⟩ := hs.two
  rw [h1.int, h2.int]
  exact ⟨_, _, rfl, f.here sb dk (.int _)⟩
theorem ok_abs (K : PySem.W.Frag) : CallOk K (vbi .abs) (fun xs H Q => ∃ i, xs = [.int i] ∧ Q (.int (if i < 0 then -i else i)) H) := by
  intro dr R H s vs ds z Q sb dk hs e f
  unfold vbi at e
  split at e <;> (try (simp at *; done))
  simp only [Option.some.injEq] at e
  subst e
  obtain ⟨v, rfl, h1⟩ := hs.one
  rw [h1.int]
  exact ⟨_, rfl, f.here sb dk (.int _)⟩
theorem ok_int (K : PySem.W.Frag) : CallOk K (vbi .int) (fun xs H Q => (∃ i, xs = [.int i] ∧ Q (.int i) H) ∨ ∃ k, xs = [.bl k] ∧ Q (.int (if k then 1 else 0)) H) := by
  intro dr R H s vs ds z Q sb dk hs e f
  unfold vbi at e
  split at e <;> (try (simp at *; done))
  · simp only [Option.some.injEq] at e
    subst e
    obtain ⟨v, rfl, h1⟩ := hs.one
    rw [h1.int]
    exact .inl ⟨_, rfl, f.here sb dk (.int _)⟩
  · simp only [Option.some.injEq] at e
    subst e
    obtain ⟨v, rfl, h1⟩ := hs.one
    rw [h1.bl]
    exact .inr ⟨_, rfl, f.here sb dk (.int _)⟩
theorem ok_list (K : PySem.W.Frag) : CallOk K (vbi .list) (fun xs H Q => ∃ p ys, xs = [.ref p] ∧ (SqL K H p ys ∨ SqT K H p ys) ∧ ∀ l, H l = none → Q (.ref l) (upd H l (.lst ys))) := by
  intro dr R H s vs ds z Q sb dk hs e f
  unfold vbi at e
  split at e <;> (try (simp at *; done))
  · simp only [Option.some.injEq] at e
    subst e
    obtain ⟨v, rfl, h⟩ := hs.one
    obtain ⟨p, xs, rfl, g1, g3⟩ := h.lst sb
    exact ⟨p, xs, rfl, .inl (SqL.of g1), fun t ht => f.newL sb dk g3 (by first | exact h.lstLen | exact h.tupLen) t ht⟩
  · simp only [Option.some.injEq] at e
    subst e
    obtain ⟨v, rfl, h⟩ := hs.one
    obtain ⟨p, xs, rfl, g1, g2, g3⟩ := h.tup sb
    exact ⟨p, xs, rfl, .inr (SqT.of g1), fun t ht => f.newL sb dk g3 (by first | exact h.lstLen | exact h.tupLen) t ht⟩
theorem ok_tuple (K : PySem.W.Frag) : CallOk K (vbi .tuple) (fun xs H Q => ∃ p ys, xs = [.ref p] ∧ ((SqL K H p ys ∧ ∀ l, H l = none → Q (.ref l) (upd H l (.tup ys))) ∨ (SqT K H p ys ∧ Q (.ref p) H))) := by
  intro dr R H s vs ds z Q sb dk hs e f
  unfold vbi at e
  split at e <;> (try (simp at *; done))
  · simp only [Option.some.injEq] at e
    subst e
    obtain ⟨v, rfl, h⟩ := hs.one
    obtain ⟨p, xs, rfl, g1, g3⟩ := h.lst sb
    exact ⟨p, xs, rfl, .inl ⟨SqL.of g1, fun t ht => f.newT sb dk g3 (by first | exact h.lstLen | exact h.tupLen) t ht⟩⟩
  · simp only [Option.some.injEq] at e
    subst e
    obtain ⟨v, rfl, h⟩ := hs.one
    obtain ⟨p, xs, rfl, g1, g2, g3⟩ := h.tup sb
    exact ⟨p, xs, rfl, .inr ⟨SqT.of g1, f.here sb dk (.tup g2 g3 h.tupLen)⟩⟩
/-- the region with all tuples of numbers -/
def isIntsV : List V → Bool
  | [] => true
  | .int _ :: xs => isIntsV xs
  | _ :: _ => false
def withT (R H : Hp) : Hp := fun a => match R a with
  | some o => some o
  | none => match H a with
    | some (.tup xs) => if isIntsV xs then some (.tup xs) else none
    | _ => none
theorem isIntsV_map : ∀ (k : List Int), isIntsV (k.map V.int) = true
  | [] => rfl
  | _ :: k => isIntsV_map k
theorem withT_old {R H : Hp} {a : Addr} {o : HO} (h : R a = some o) : withT R H a = some o := by unfold withT; rw [h]
theorem withT_cases {R H : Hp} {a : Addr} {o : HO} (h : withT R H a = some o) : R a = some o ∨ (R a = none ∧ H a = some o ∧ ∃ xs, o = .tup xs) := by
  unfold withT at h
  split at h
  · rename_i e
    exact .inl (e.trans h)
  · rename_i e
    split at h
    · rename_i xs e2
      split at h
      · cases h
        exact .inr ⟨e, e2, xs, rfl⟩
      · cases h
    · cases h
theorem withT_sub {R H : Hp} (sb : Sub R H) : Sub (withT R H) H := fun a o h => by
  rcases withT_cases h with h | h
  · exact sb a o h
  · exact h.2.1
theorem withT_none {R H : Hp} {a : Addr} {o : HO} (h1 : R a = none) (h2 : H a = some o) (nt : ∀ xs, o ≠ .tup xs) : withT R H a = none := by
  cases q : withT R H a with
  | none => rfl
  | some u =>
    rcases withT_cases q with h | ⟨_, h, xs, rfl⟩
    · rw [h1] at h; cases h
    · rw [h2] at h
      cases h
      exact absurd rfl (nt xs)
theorem withT_dr {K : PySem.W.Frag} {dr : Dr} {s : DSt} {R H : Hp} (dk : DrOk K dr s R H) : DrOk K dr s (withT R H) H where
  dw := by
    have h := dk.dw
    unfold DwOk at h ⊢
    split at h
    · trivial
    · obtain ⟨h1, h2, h3, h4, h5⟩ := h
      exact ⟨h1, h2, h3, withT_none h4 h1 (fun _ z => nomatch z), withT_none h5 h2 (fun _ z => nomatch z)⟩
    · exact h
  len := dk.len
  inj := dk.inj
  sep := dk.sep
  cel := fun i a e => by
    obtain ⟨d, u, h1, h2, h3, h4⟩ := dk.cel i a e
    exact ⟨d, u, h1, withT_none h2 h3 h4.nt, h3, h4.mono (DrLe.refl _) fun b v q => withT_old q⟩
  ded := dk.ded
theorem withT_grow {K : PySem.W.Frag} {dr : Dr} {s : DSt} {R H : Hp} (dk : DrOk K dr s R H) : Grow dr dr R (withT R H) H H := by
  refine ⟨fun a o h => withT_old h, fun a o h n => ?_, fun _ _ h _ => h, fun _ h => h, DrLe.refl dr, fun a n m => absurd n m⟩
  rcases withT_cases h with h | ⟨_, h, xs, rfl⟩
  · rw [h] at n; cases n
  · exact .inr (.inl ⟨xs, h⟩)
theorem rp_intsV {K : PySem.W.Frag} {dr dr' : Dr} {R R' : Hp} : ∀ {k : List Int} {xs : List V}, RpAll K dr R xs (k.map .int) → xs = k.map V.int ∧ RpAll K dr' R' xs (k.map .int)
  | [], _, h => by
    cases h
    exact ⟨rfl, .nil⟩
  | i :: k, _, h => by
    cases h with
    | cons h1 h2 =>
      cases h1
      obtain ⟨e, r⟩ := rp_intsV (dr' := dr') (R' := R') h2
      exact ⟨by rw [e]; rfl, .cons (.int i) r⟩
theorem rp_withT {K : PySem.W.Frag} {dr dr' : Dr} {R H : Hp} (sb : Sub R H) : ∀ {ys : List V} {ds : List Val}, (∀ d ∈ ds, ∃ k : List Int, d = kT k) → RpAll K dr H ys ds → RpAll K dr' (withT R H) ys ds
  | _, [], _, h => by
    cases h
    exact .nil
  | _, d :: ds, hk, h => by
    cases h with
    | cons h1 h2 =>
      refine .cons ?_ (rp_withT sb (fun d hd => hk d (List.mem_cons_of_mem _ hd)) h2)
      obtain ⟨k, rfl⟩ := hk d List.mem_cons_self
      unfold kT at h1 ⊢
      cases h1 with
      | tup h hs hl =>
        obtain ⟨e, r⟩ := rp_intsV (dr' := dr') (R' := withT R H) hs
        refine .tup ?_ r hl
        rw [e] at h ⊢
        unfold withT
        split
        · rename_i o eo
          rw [sb _ _ eo] at h
          exact h
        · rw [h]
          simp only [isIntsV_map, if_true]
def rSortAll (K : PySem.W.Frag) : List V → Hp → VK → Prop := fun vs H Q => rSortD K vs H Q ∨ (rSortDT K vs H Q ∨ rSortDN K vs H Q)
theorem cr_sortAll {X : Cx} (hc : X.calm = true) (hu : X.A.units + 64 < cLine) : CallR X (.builtin "sorted") (rSortAll X.K) := by
  intro pins s σ H vs us Q I r h
  rcases h with h | h | h
  · exact cr_sortD hu pins s σ H vs us Q I r h
  · exact cr_sortDT hc hu pins s σ H vs us Q I r h
  · exact cr_sortDN hc hu pins s σ H vs us Q I r h
theorem ok_sorted (K : PySem.W.Frag) : CallOk K (vbi .sorted) (rSortAll K) := by
  intro dr R H s vs ds z Q sb dk hs e f
  unfold vbi at e
  split at e <;> (try (simp at *; done))
  · obtain ⟨ys, e1, rfl⟩ := Option.map_eq_some_iff.mp e
    simp only [sortV, Option.ite_none_right_eq_some, Option.some.injEq] at e1
    obtain ⟨ok, rfl⟩ := e1
    obtain ⟨v, rfl, h⟩ := hs.one
    obtain ⟨p, xs, rfl, g1, g3⟩ := h.lst sb
    exact .inl ⟨dr, R, p, xs, _, rfl, sb, SqL.of g1, g3, ok, fun ys t hy ht => f.newL sb dk hy (by rw [(sortL_perm _).length_eq]; exact h.lstLen) t ht⟩
  · rename_i ks vs0 _x
    simp only [Option.ite_none_right_eq_some] at e
    obtain ⟨sm, e⟩ := e
    obtain ⟨ys, e1, rfl⟩ := Option.map_eq_some_iff.mp e
    simp only [sortV, Option.ite_none_right_eq_some, Option.some.injEq] at e1
    obtain ⟨ok, rfl⟩ := e1
    obtain ⟨v, rfl, h⟩ := hs.one
    rcases h with hx | hx
    · cases hx with
      | @dct a' ps _ _ hR hk hvs hlen =>
        refine .inr (.inl ⟨a', ps, ks, rfl, sb _ _ hR, hk, sm, ok, fun ys p hy hp => ?_⟩)
        have g := withT_grow dk
        have f' : Fin K dr (withT R H) H s (.lst (sortL (ks.map kT))) Q := fun dr' R' H' g' sb' dk' v rv => f dr' R' H' (g.trans g') sb' dk' v rv
        have len : ks.length ≤ lim := by
          have e1 := congrArg List.length hk
          have e2 := hvs.len
          rw [List.length_map] at e1 e2
          rw [List.length_map] at e1
          omega
        exact f'.newL (withT_sub sb) (withT_dr dk) (rp_withT sb (fun d hd => by
          obtain ⟨k, _, rfl⟩ := List.mem_map.mp ((sortL_perm _).mem_iff.mp hd)
          exact ⟨k, rfl⟩) hy) (by rw [(sortL_perm _).length_eq, List.length_map]; exact len) p hp
    · exact (hx.not (fun _ z => nomatch z) (fun _ _ z => nomatch z)).elim
  · rename_i ks vs0 _x
    simp only [Option.ite_none_right_eq_some, Bool.and_eq_true, decide_eq_true_eq] at e
    obtain ⟨⟨tk, len⟩, e⟩ := e
    obtain ⟨ys, e1, rfl⟩ := Option.map_eq_some_iff.mp e
    simp only [sortV, Option.ite_none_right_eq_some, Option.some.injEq] at e1
    obtain ⟨ok, rfl⟩ := e1
    obtain ⟨v, rfl, h⟩ := hs.one
    obtain ⟨a, o, rfl, h1, ob⟩ := h.dcn sb
    rcases ob with ⟨xs, ds, _, h2, _⟩ | ⟨ps, ks', vs', rfl, h2, _, hi, hne, _⟩ | ⟨xs, ks', vs', rfl, h2, hk, ht, hx, _⟩
    · cases h2
    · cases h2
      cases ks with
      | nil => exact absurd rfl hne
      | cons k ks =>
        simp only [List.all_cons, Bool.and_eq_true] at tk hi
        have t1 := tk.1
        have t2 := hi.1
        cases k <;> simp [isTupK, isI] at t1 t2
    · cases h2
      exact .inr (.inr ⟨dr, R, a, xs, ks, rfl, sb, h1, hx, ok, fun ys t hy ht' => f.newL sb dk hy (by rw [(sortL_perm _).length_eq]; exact len) t ht'⟩)

/-! ### methods -/
def MethOk (K : PySem.W.Frag) (F : Val → Val → Option Val) (r : V → List V → Hp → VK → Prop) : Prop :=
  ∀ dr R H s vx vy x y z Q, Sub R H → DrOk K dr s R H → Sh K dr R H vx x → Sh K dr R H vy y → F x y = some z → Fin K dr R H s z Q → r vx [vy] H Q
theorem findV_spec (x : Val) (px : plain x = true) : ∀ (ds : List Val) (k j : Nat), plains ds = true → findV x ds k = some j → ∃ m, j = k + m ∧ (∃ z, (toDs ds)[m]? = some z ∧ PyData.eqv z (toD x) = true) ∧ ∀ (i : Nat) z', i < m → (toDs ds)[i]? = some z' → PyData.eqv z' (toD x) = false
  | [], k, j, _, h => by simp [findV] at h
  | y :: ys, k, j, p, h => by
    simp only [plains, Bool.and_eq_true] at p
    unfold findV at h
    split at h
    · rename_i c
      simp only [Option.some.injEq] at h
      refine ⟨0, by omega, ⟨toD y, by simp [toDs], by rw [veq_toD y x p.1 px]; exact c⟩, fun i z' hi => by omega⟩
    · rename_i c
      obtain ⟨m, h1, ⟨z, h2, h3⟩, h4⟩ := findV_spec x px ys (k + 1) j p.2 h
      refine ⟨m + 1, by omega, ⟨z, by simpa [toDs] using h2, h3⟩, fun i z' hi hz => ?_⟩
      cases i with
      | zero =>
        simp [toDs] at hz
        subst hz
        rw [veq_toD y x p.1 px]
        simpa using c
      | succ i => exact h4 i z' (by omega) (by simpa [toDs] using hz)
theorem ok_index (K : PySem.W.Frag) : MethOk K (vmeth .index) (rIndexD K) := by
  intro dr R H s vx vy x y z Q sb dk hx hy e f
  cases x with
  | lst ds =>
    simp only [vmeth, okIn, Option.ite_none_right_eq_some, Bool.and_eq_true, decide_eq_true_eq] at e
    obtain ⟨⟨⟨⟨p1, p2⟩, d1⟩, d2⟩, e⟩ := e
    obtain ⟨j, e1, rfl⟩ := Option.map_eq_some_iff.mp e
    obtain ⟨m, rfl, ⟨w, h2, h3⟩, h4⟩ := findV_spec y p1 ds 0 j p2 e1
    have dl := hx.dp sb (by simpa [plain] using p2)
    have sl := shaped_of hx (by simp only [dep]; omega)
    simp only [toD] at dl sl
    obtain ⟨p, xs, rfl, g1, g3⟩ := hx.lst sb
    refine ⟨p, vy, toD y, toDs ds, 0 + m, w, rfl, rfl, dl, hy.dp sb p1, sl, shaped_of hy (by omega), by simpa using h2, h3, fun i z' hi => h4 i z' (by omega), f.here sb dk (.int _)⟩
  | _ => simp [vmeth] at e
/-- l.count(x) -/
def rCountD (K : PySem.W.Frag) : V → List V → Hp → VK → Prop := fun x xs H Q => ∃ (a : Addr) (y : V) (d : PyData) (ds : List PyData), x = V.ref a ∧ xs = [y] ∧ Dp K H (V.ref a) (.list ds) ∧ Dp K H y d ∧
  SeqAt.shaped (.list ds) = true ∧ SeqAt.shaped d = true ∧ Q (.int (ds.countP fun z => PyData.eqv z d : Nat)) H
theorem mt_countD {X : Cx} (hu : X.A.units + 65 < cLine) : MtR X "list.count" (rCountD X.K) := by
  intro pins s σ H x xs v us Q I rx rxs ⟨a, y, d, ds, ex, exs, hl, hy, sl, sd, q⟩
  subst ex exs
  cases rx
  match us, rxs with
  | [uy], .cons ry .nil =>
    obtain ⟨_, readY⟩ := Dp.reads I d y uy hy ry
    have lay := SeqAt.canLay_of_shaped (d := .list ds) sl
    cases hl with
    | lst hs ha =>
      obtain ⟨vals, rel, ⟨⟨oc, od, odt, osl⟩, len, at_, c1, c2, c3⟩, _⟩ := I.list hs
      simp only at c1 c3
      subst c1 c3
      obtain ⟨_, readL⟩ := Dp.readsAll I ds _ vals ha rel
      have eqs := SeqAt.items_eqAt (vs := vals.toArray) (show ReadsAll s.heap vals.toArray.toList ds _ from readL) readY lay (SeqAt.canLay_of_shaped sd) (room_in_shaped sd hu)
      have num : vals.toArray.toList.countP (fun u => PyData.eqv (SeqAt.readOf s.heap u) d) = ds.countP fun z => PyData.eqv z d := by
        conv => rhs; rw [← SeqAt.readsAll_map ds vals _ lay readL, List.countP_map]
        rfl
      refine call_meets PySem.F.slot_list_count ⟨_, at_, rfl⟩ PySem.F.entry_list_count (PySem.F.args_list_count_2 _ _) (SeqAt.list_countAt a vals.toArray len od osl uy _) ⟨at_, eqs, .int (ds.countP fun z => PyData.eqv z d : Nat), H, I.tok _, ⟨s.toks, ?_⟩, q⟩
      rw [num]
theorem isInts_plain : ∀ {ds : List Val} {ns : List Int}, isInts ds = some ns → ds = ns.map .int ∧ plains ds = true ∧ deps ds = 0
  | [], ns, e => by simp [isInts] at e; subst e; exact ⟨rfl, rfl, rfl⟩
  | d :: ds, ns, e => by
    cases d <;> simp [isInts] at e
    obtain ⟨r, e1, e2⟩ := e
    subst e2
    obtain ⟨h1, h2, h3⟩ := isInts_plain e1
    exact ⟨by rw [h1]; rfl, by simp [plains, plain, h2], by simp [deps, dep, h3]⟩
theorem countP_toDs (y : Val) (py : plain y = true) : ∀ ds : List Val, plains ds = true → (toDs ds).countP (fun z => PyData.eqv z (toD y)) = ds.countP fun z => veq z y
  | [], _ => rfl
  | d :: ds, h => by
    simp only [plains, Bool.and_eq_true] at h
    simp only [toDs, List.countP_cons, veq_toD d y h.1 py, countP_toDs y py ds h.2]
theorem countP_ints (i : Int) : ∀ ns : List Int, (ns.map Val.int).countP (fun z => veq z (.int i)) = ns.count i
  | [] => rfl
  | n :: ns => by
    simp only [List.map_cons, List.countP_cons, countP_ints i ns, List.count_cons, veq]
    rfl
theorem ok_count (K : PySem.W.Frag) : MethOk K (vmeth .count) (rCountD K) := by
  intro dr R H s vx vy x y z Q sb dk hx hy e f
  cases x with
  | lst ds =>
    have key : plain y = true → plains ds = true → dep y ≤ 60 → deps ds ≤ 60 → z = .int (ds.countP fun z => veq z y : Nat) → rCountD K vx [vy] H Q := by
      intro p1 p2 d1 d2 ez
      have dl := hx.dp sb (by simpa [plain] using p2)
      have sl := shaped_of hx (by simp only [dep]; omega)
      simp only [toD] at dl sl
      obtain ⟨p, xs, rfl, g1, g3⟩ := hx.lst sb
      refine ⟨p, vy, toD y, toDs ds, rfl, rfl, dl, hy.dp sb p1, sl, shaped_of hy (by omega), ?_⟩
      rw [countP_toDs y p1 ds p2]
      subst ez
      exact f.here sb dk (.int _)
    by_cases hi : ∃ i, y = .int i
    · obtain ⟨i, rfl⟩ := hi
      simp only [vmeth] at e
      obtain ⟨ns, e1, rfl⟩ := Option.map_eq_some_iff.mp e
      obtain ⟨h1, h2, h3⟩ := isInts_plain e1
      refine key rfl h2 (by simp [dep]) (by omega) ?_
      rw [h1, countP_ints]
    · have e' : (if okIn y ds then some (Val.int (ds.countP fun z => veq z y : Nat)) else none) = some z := by
        cases y <;> first | exact e | exact absurd ⟨_, rfl⟩ hi
      simp only [okIn, Option.ite_none_right_eq_some, Bool.and_eq_true, decide_eq_true_eq, Option.some.injEq] at e'
      obtain ⟨⟨⟨⟨p1, p2⟩, d1⟩, d2⟩, e'⟩ := e'
      exact key p1 p2 d1 d2 e'.symm
  | _ => cases y <;> simp [vmeth] at e

/-! ### isinstance -/
def tyName : TyK → String
  | .tInt => "int" | .tBool => "bool" | .tTuple => "tuple" | .tStr => "str" | .tList => "list"
def valTy : Val → Option String
  | .non => some "NoneType" | .bl _ => some "bool" | .int _ => some "int" | .str _ => some "str" | .tup _ => some "tuple" | .lst _ => some "list"
  | _ => none
theorem valTy_ok {K : PySem.W.Frag} {dr : Dr} {R H : Hp} {v : V} {d : Val} {n : String} (h : Sh K dr R H v d) (sb : Sub R H) (e : valTy d = some n) : TyX K H v (.type n) := by
  cases d with
  | non => cases e; rw [h.non]; exact .base .non
  | bl b => cases e; rw [h.bl]; exact .base (.bl b)
  | int i => cases e; rw [h.int]; exact .base (.int i)
  | str x => cases e; rw [h.str.1]; exact .base (.str _)
  | tup ds =>
    cases e
    obtain ⟨p, xs, rfl, g1, _⟩ := h.tup sb
    exact .base (.tup g1)
  | lst ds =>
    cases e
    obtain ⟨p, xs, rfl, g1, _⟩ := h.lst sb
    exact .base (.lst g1)
  | drw => cases e
  | scr ns => cases e
  | dct _ _ => cases e
  | dcn _ _ => cases e
  | ref _ => cases e
  | exc _ => cases e
theorem isty_kit : ∀ (t : TyK) (d : Val) (b : Bool), isty t d = some b → ∃ n, valTy d = some n ∧ kitB n (tyName t) = some b := by
  intro t d b h
  cases d <;> cases t <;> simp [isty] at h <;> subst h <;> refine ⟨_, rfl, ?_⟩ <;> decide +kernel
end BG

/-! BG.Chk: the checker: a Python expression is a given core expression. -/
namespace BG
open PySem PySem.Spec PyProof.Rows L2

structure GC where
  N : List Str
  sc : Scope
  blk : Option Scope
  O : List Nat
  fns : List (Str × Nat × Nat)
  free : List Str
  cons : List (Str × Val)
  /-- the exceptions' classes that are known -/
  excs : List Nat

/-- all classes of exceptions are known -/
def all8 (G : GC) : Bool := (List.range 8).all fun c => decide (c ∈ G.excs)
def isListE : Ex → Bool
  | .list _ => true
  | _ => false
/-- a new list -/
def isFresh : Ex → Bool
  | .list _ => true
  | .comp _ _ _ _ => true
  | .bin .mul (.list _) _ => true
  | .bin .add a b => isListE a || isListE b
  | .dnewN => true
  | .dlit _ _ => true
  | _ => false
def isBox : Ex → Bool
  | .list _ => true
  | .dnewN => true
  | _ => false
def isVis (sc : Scope) (x : Str) : Bool := decide (sc.names.lookup x = some .local) || decide (sc.names.lookup x = some .cell) || decide (sc.names.lookup x = some .free)
def isLoc (sc : Scope) (x : Str) : Bool := decide (sc.names.lookup x = some .local) || decide (sc.names.lookup x = some .cell)
def isGl (sc : Scope) (x : Str) : Bool := decide (sc.names.lookup x = some .globalImplicit)
def notDbg (x : Str) : Bool := !(x == ("__debug__" : Str)) && !(x == ("__classdict__" : Str)) && !(x == ("__name__" : Str))
/-- a built-in name, not hidden -/
def isBi (G : GC) (x n : Str) : Bool := decide (x = n) && isGl G.sc n && decide (n ∈ G.free)
def cstOk : Val → Const → Bool
  | .int i, .int j => decide (i = j)
  | .bl a, .bool b => decide (a = b)
  | .non, .none => true
  | .str cs, .str z => decide (z.cps.toList = cs) && cs.all (fun c => decide (c < 1114112)) && decide (cs.length ≤ lim)
  | _, _ => false
def sameC : Val → Val → Bool
  | .int i, .int j => decide (i = j)
  | .str x, .str y => decide (x = y)
  | _, _ => false
def notSlice : Expr → Bool
  | .Slice _ _ _ _ => false
  | _ => true
def notSet : Expr → Bool
  | .Set _ _ _ => false
  | _ => true
def notStar : Expr → Bool
  | .Starred _ _ => false
  | _ => true
def notSuper : Expr → Bool
  | .Call _ _ _ _ => false
  | _ => true
def notComp : Expr → Bool
  | .ListComp _ _ _ _ => false
  | .SetComp _ _ _ _ => false
  | .DictComp _ _ _ _ _ => false
  | _ => true
def biName : BiK → Str
  | .len => "len" | .all => "all" | .any => "any" | .tuple => "tuple" | .list => "list" | .sorted => "sorted" | .max1 => "max" | .min1 => "min" | .max2 => "max" | .min2 => "min"
  | .sum => "sum" | .abs => "abs" | .sortedSet => "sorted" | .lenSet => "len" | .str => "str" | .int => "int"
def meName : MeK → Str
  | .index => "index" | .count => "count" | .join => "join"
def ownOf (N : List Str) (l : List Nat) : List (Str × Nat) := l.filterMap fun i => (N[i]?).map fun x => (x, i)

mutual
/-- a target -/
def chkG (G : GC) : Tg → Expr → Bool
  | .name i, .Name x _ => decide (G.N[i]? = some x) && isLoc G.sc x && (match G.blk with
    | none => true
    | some sc0 => decide (sc0.names.lookup x = some .cell) || decide (G.sc.names.lookup x = some .local))
  | .tup r, .Tuple es _ _ => chkGs G r es
  | _, _ => false
def chkGs (G : GC) : Tg → List Expr → Bool
  | .nil, [] => true
  | .cons t r, e :: es => notStar e && chkG G t e && chkGs G r es
  | _, _ => false
end

def strict (O : List Nat) : Ex → Bool
  | .nil => true
  | .cons a r => !isOwn O a && strict O r
  | _ => false
def chkBi1 : BiK → Bool
  | .len => true | .all => true | .any => true | .tuple => true | .list => true | .sorted => true | .max1 => true | .min1 => true | .sum => true | .abs => true | .int => true | .str => true
  | _ => false
def isSSet : BiK → Bool
  | .sortedSet => true
  | .lenSet => true
  | _ => false
def chkBi2 : BiK → Bool
  | .max2 => true | .min2 => true
  | _ => false

mutual
def chkE (G : GC) : Ex → Expr → Bool
  | .var i, e => match e with
    | .Name x _ => decide (G.N[i]? = some x) && isVis G.sc x && notDbg x
    | _ => false
  | .cst v, e => match e with
    | .Constant c _ _ => cstOk v c
    | _ => false
  | .glb _ v, e => match e with
    | .Name y _ => isGl G.sc y && notDbg y && G.cons.any (fun p => decide (p.1 = y) && sameC p.2 v)
    | _ => false
  | .bin k a b, e => match e with
    | .BinOp x op y _ => decide (op = binOp k) && chkE G a x && chkE G b y
    | _ => false
  | .neg a, e => match e with
    | .UnaryOp op x _ => decide (op = .USub) && chkE G a x
    | _ => false
  | .not a, e => match e with
    | .UnaryOp op x _ => decide (op = .Not) && chkE G a x
    | _ => false
  | .and a b, e => match e with
    | .BoolOp op (x :: y :: rest) p => decide (op = .And) && chkE G a x && !isOwn G.O b && (match rest with
      | [] => chkE G b y
      | _ :: _ => chkE G b (.BoolOp .And (y :: rest) p))
    | _ => false
  | .or a b, e => match e with
    | .BoolOp op (x :: y :: rest) p => decide (op = .Or) && chkE G a x && !isOwn G.O b && (match rest with
      | [] => chkE G b y
      | _ :: _ => chkE G b (.BoolOp .Or (y :: rest) p))
    | _ => false
  | .cmp k a b, e => match e with
    | .Compare x [op] [y] _ => decide (op = cmpOp k) && notSet y && chkE G a x && chkE G b y
    | _ => false
  | .chain k k' a b c, e => match e with
    | .Compare x [op, op'] [y, z] _ => decide (op = cmpOp k) && decide (op' = cmpOp k') && notSet z && chkE G a x && chkE G b y && chkE G c z
    | _ => false
  | .ite c a b, e => match e with
    | .IfExp z x y _ => chkE G c z && chkE G a x && chkE G b y && !isOwn G.O a && !isOwn G.O b
    | _ => false
  | .tup a, e => match e with
    | .Tuple es _ _ => decide (es.length ≤ lim) && strict G.O a && chkAs G a es
    | _ => false
  | .list a, e => match e with
    | .List es _ => decide (es.length ≤ lim) && strict G.O a && chkAs G a es
    | _ => false
  | .idx a i, e => match e with
    | .Subscript x y _ => notSlice y && chkE G a x && chkE G i y
    | _ => false
  | .slice a lo hi, e => match e with
    | .Subscript x (.Slice l h none _) _ => chkE G a x && chkO G lo l && chkO G hi h
    | _ => false
  | .rev a, e => match e with
    | .Subscript x (.Slice none none (some (.UnaryOp op (.Constant (.int 1) _ _) _)) _) _ => decide (op = .USub) && chkE G a x
    | _ => false
  | .call f a, e => match e with
    | .Call (.Name x _) es [] _ => isGl G.sc x && notDbg x && G.fns.any (fun p => decide (p.1 = x) && decide (p.2.1 = f) && decide (p.2.2 = es.length)) && strict G.O a && chkAs G a es
    | _ => false
  | .bi k a, e => match e with
    | .Call (.Name x _) [y] [] _ => isBi G x (biName k) && (match a, y with
      | .cons (.range1 b) .nil, .Call (.Name r _) [z] [] _ => isBi G r "range" && (decide (biName k = "list") || decide (biName k = "tuple")) && notStar z && chkE G b z
      | .cons b .nil, .Call (.Name r _) [z] [] _ => if isSSet k then isBi G r "set" && notStar z && chkE G b z else chkBi1 k && chkE G b y
      | .cons b .nil, _ => chkBi1 k && notStar y && chkE G b y
      | _, _ => false)
    | .Call (.Name x _) [y, z] [] _ => chkBi2 k && isBi G x (biName k) && (match a with
      | .cons b (.cons c .nil) => notStar y && notStar z && chkE G b y && chkE G c z
      | _ => false)
    | _ => false
  | .isinst a t, e => match e with
    | .Call (.Name x _) [y, .Name z _] [] _ => isBi G x "isinstance" && isBi G z (tyName t) && notStar y && chkE G a y
    | _ => false
  | .meth k a b, e => match e with
    | .Call (.Attribute o n ap) [y] [] cp => decide (n = meName k) && decide (ap.endLine = cp.line) && notSuper o && notStar y && chkE G a o && chkE G b y
    | _ => false
  | .comp t src cond elt, e => match e with
    | .ListComp el [⟨tg, it, ifs, as⟩] scope _ => decide (as = 0) && chkI G tg src it && blkC G.N G.sc scope (ownOf G.N (slots t)) && (slots t).all (fun i => !decide (i ∈ G.O) && (G.N[i]?).isSome) &&
      chkG { G with sc := relS scope G.sc, blk := some scope } t tg && notSlice it && notSet it &&
      (match cond, ifs with
      | .no, [] => true
      | .no, _ => false
      | c, [c'] => chkE { G with sc := relS scope G.sc, blk := some scope } c c'
      | _, _ => false) && chkE { G with sc := relS scope G.sc, blk := some scope } elt el && !isOwn G.O elt
    | _ => false
  | .dnew, e => match e with
    | .Dict [] [] _ => true
    | _ => false
  | .dnewN, e => match e with
    | .Dict [] [] _ => true
    | _ => false
  | .dlit k v, e => match e with
    | .Dict [some x] [y] _ => !isOwn G.O k && !isOwn G.O v && chkE G k x && chkE G v y
    | _ => false
  | .dget a k x, e => match e with
    | .Call (.Attribute o n ap) [y, z] [] cp => decide (n = "get") && decide (ap.endLine = cp.line) && notSuper o && notStar y && notStar z && !isOwn G.O x && chkE G a o && chkE G k y && chkE G x z
    | _ => false
  | .box a, e => isBox a && chkE G a e
  | .rop k a b c, e => match k, e with
    | .idx, .Subscript x y _ => notSlice y && chkE G a x && chkE G b y
    | .isIn, .Compare x [op] [y] _ => decide (op = .In) && notSet y && chkE G a x && chkE G b y
    | .notIn, .Compare x [op] [y] _ => decide (op = .NotIn) && notSet y && chkE G a x && chkE G b y
    | .get, .Call (.Attribute o n ap) [y, z] [] cp => decide (n = "get") && decide (ap.endLine = cp.line) && notSuper o && notStar y && notStar z && !isOwn G.O c && chkE G a o && chkE G b y && chkE G c z
    | .len, .Call (.Name x _) [y] [] _ => isBi G x "len" && notStar y && chkE G a y
    | .isE, .Compare x [op] [.List [] _] _ => decide (op = .Eq) && chkE G a x
    | .notE, .Compare x [op] [.List [] _] _ => decide (op = .NotEq) && chkE G a x
    | _, _ => false
  | .isexc a c, e => match e with
    | .Call (.Name x _) [y, .Name z _] [] _ => isBi G x "isinstance" && notStar y && chkE G a y && all8 G && (if c = 8 then isBi G z "ValueError" else decide (c < 8) && decide (z = xname c) && isGl G.sc z)
    | _ => false
  | .range1 _, _ => false
  | .range2 _ _, _ => false
  | .nil, _ => false
  | .cons _ _, _ => false
  | .no, _ => false
  | .enum _, _ => false
  | .zip _ _, _ => false
  | .enumZip _ _, _ => false
/-- arguments -/
def chkAs (G : GC) : Ex → List Expr → Bool
  | .nil, es => match es with
    | [] => true
    | _ => false
  | .cons a r, es => match es with
    | e :: es => notStar e && chkE G a e && chkAs G r es
    | [] => false
  | _, _ => false
def chkO (G : GC) : Ex → Option Expr → Bool
  | .no, e => match e with
    | none => true
    | some _ => false
  | .cons a .nil, e => match e with
    | some e => chkE G a e
    | none => false
  | _, _ => false
/-- what is walked -/
def chkI (G : GC) (tg : Expr) : Ex → Expr → Bool
  | .cons (.range1 a) .nil, e => match e with
    | .Call (.Name r _) [z] [] _ => isBi G r "range" && notStar z && chkE G a z
    | _ => false
  | .cons (.range2 a b) .nil, e => match e with
    | .Call (.Name r _) [y, z] [] _ => isBi G r "range" && notStar y && notStar z && chkE G a y && chkE G b z
    | _ => false
  | .cons a .nil, e => chkE G a e
  | .enum a, e => match e, tg with
    | .Call (.Name r _) [z] [] _, .Tuple _ _ _ => isBi G r "enumerate" && notStar z && chkE G a z
    | _, _ => false
  | .zip a b, e => match e, tg with
    | .Call (.Name r _) [y, z] [] _, .Tuple _ _ _ => isBi G r "zip" && notStar y && notStar z && chkE G a y && chkE G b z
    | _, _ => false
  | .enumZip a b, e => match e, tg with
    | .Call (.Name r _) [.Call (.Name q _) [y, z] [] _] [] _, .Tuple _ _ _ => isBi G r "enumerate" && isBi G q "zip" && notStar y && notStar z && chkE G a y && chkE G b z
    | _, _ => false
  | _, _ => false
end
def isOwnS (O : List Nat) : Ex → Bool
  | .cons a _ => isOwn O a
  | .enum a => isOwn O a
  | .zip a b => isOwn O a || isOwn O b
  | .enumZip a b => isOwn O a || isOwn O b
  | _ => false
end BG

/-! BG.ChkS: the checker for statements. -/
namespace BG
open PySem PySem.Spec PyProof.Rows L2
def notTuple : Expr → Bool
  | .Tuple _ _ _ => false
  | _ => true
def rmO (O : List Nat) (i : Nat) : List Nat := O.filter fun j => !decide (j = i)
def rmS (O S : List Nat) : List Nat := O.filter fun j => !decide (j ∈ S)
/-- a store into a name -/
def nameOk (G : GC) (i : Nat) (x : Str) : Bool := decide (G.N[i]? = some x) && isLoc G.sc x
/-- name = value: where a comprehension's store is exchanged with the end of its block -/
def asgOk (G : GC) (i : Nat) (x : Str) (p : Pos) (c : Ex) (v : Expr) : Bool :=
  nameOk G i x && (notComp v || (match v with
    | .ListComp _ _ scope pos => if decide (G.sc.names.lookup x = some .local) then decide (p.line = pos.line) && !(scope.names.any fun y => y.1 == x && (y.2 == .local || y.2 == .cell)) else true
    | _ => false))
/-- a, b = x, y: stored from the right (some names), as a tuple (none), or not told -/
def swOf (sc : Scope) (ts vs : List Expr) : Option (Option (List Str)) :=
  if (!(ts.length == 2 || ts.length == 3) || vs.length != ts.length) = true then some none
  else if (vs.any fun | .Starred .. => true | _ => false) = true then some none
  else
    let names := ts.filterMap fun
      | .Name id pos => if sc.names.lookup id == some .local && pos.line == (ts.head?.map (·.pos.line)).getD 0 then some id else none
      | _ => none
    if (names.length != ts.length || names.eraseDups.length != names.length) = true then some none
    else if vs.all (foldedForSure 8) = true then some none
    else if vs.all (constantsAlone 8) = true then none
    else some (some names)
def swShape (sc : Scope) (ts : List Expr) (ns : List Str) : Bool :=
  match ts, ns with
          | [.Name x _, .Name y _], [x', y'] => decide (x = x') && decide (y = y') && !decide (x = y) && decide (sc.names.lookup x = some .local) && decide (sc.names.lookup y = some .local)
          | [.Name x _, .Name y _, .Name z _], [x', y', z'] => decide (x = x') && decide (y = y') && decide (z = z') && !decide (x = y) && !decide (x = z) && !decide (y = z) && decide (sc.names.lookup x = some .local) && decide (sc.names.lookup y = some .local) && decide (sc.names.lookup z = some .local)
          | _, _ => false
def parO (own : List Nat) : Tg → List Nat → List Nat
  | .cons (.name i) r, O => parO own r (if i ∈ own then i :: rmO O i else rmO O i)
  | _, O => O
def parArgs (G : GC) (own : List Nat) : Tg → Ex → Bool
  | .nil, .nil => true
  | .cons (.name i) r, .cons a b => (if decide (i ∈ own) then isFresh a else !isOwn G.O a) && parArgs G own r b
  | _, _ => false

mutual
def chkB (G : GC) (Ob Oc : List Nat) : Sx → List Nat → List Stmt → Option (Option (List Nat))
  | .nil, O, ss => match ss with
    | [] => some (some O)
    | _ => none
  | .seq (.freeze i) r, O, ss => chkB G Ob Oc r (rmO O i) ss
  | .seq (.frz i) r, O, ss => chkB G Ob Oc r O ss
  | .seq (.dupd i a kx v) r, O, ss => match ss with
    | .Assign [.Name x _] (.Call (.Name f _) [ea] [] _) _ :: .Assign [.Subscript (.Name x' p') ek _] ev _ :: rest =>
      if decide (x' = x) && nameOk G i x && isBi { G with O := O } f "dict" && decide (i ∉ O) && notStar ea && notComp ev && notSlice ek && chkE { G with O := O } (.var i) (.Name x p') && chkE { G with O := O } a ea && chkE { G with O := O } kx ek && chkE { G with O := O } v ev && !isOwn O v then chkB G Ob Oc r O rest else none
    | _ => none
  | .seq a r, O, ss => match ss with
    | [] => none
    | s :: rest => match chk1 G Ob Oc a O s with
      | none => none
      | some none => (match r, rest with
        | .nil, [] => some none
        | _, _ => none)
      | some (some O') => chkB G Ob Oc r O' rest
  | _, _, _ => none
def chk1 (G : GC) (Ob Oc : List Nat) : Sx → List Nat → Stmt → Option (Option (List Nat))
  | .asg i c, O, s => match s with
    | .Assign [.Name x p] v _ => if asgOk G i x p c v && chkE { G with O := O } c v && !isOwn O c then some (some (rmO O i)) else none
    | _ => none
  | .own i c, O, s => match s with
    | .Assign [.Name x p] v _ => if asgOk G i x p c v && chkE { G with O := O } c v && isFresh c then some (some (i :: rmO O i)) else none
    | _ => none
  | .asgT t c, O, s => match s with
    | .Assign [tg] v _ => if notTuple v && notComp v && notStar tg && chkG { G with O := O } t tg && chkE { G with O := O } c v && !isOwn O c then some (some (rmS O (slots t))) else none
    | _ => none
  | .par t own a, O, s => match s with
    | .Assign [.Tuple ts _ _] (.Tuple vs _ _) _ => if chkGs { G with O := O } t ts && chkAs { G with O := O } a vs && parArgs { G with O := O } own t a && decide (vs.length ≤ lim) && (match swOf G.sc ts vs with
        | some none => true
        | some (some ns) => swShape G.sc ts ns
        | none => false) then some (some (parO own t O)) else none
    | _ => none
  | .aug i k c, O, s => match s with
    | .AugAssign (.Name x _) op v _ => if nameOk G i x && decide (op = binOp k) && (match k with
        | .add => true
        | .sub => true
        | _ => false) && decide (i ∉ O) && chkE { G with O := O } c v then some (some O) else none
    | _ => none
  | .ext i c, O, s => match s with
    | .AugAssign (.Name x _) op v _ => if nameOk G i x && decide (op = .Add) && decide (i ∈ O) && chkE { G with O := O } c v && !isOwn O c then some (some O) else none
    | _ => none
  | .append i c, O, s => match s with
    | .Expr (.Call (.Attribute (.Name x _) n ap) [v] [] cp) _ => if decide (n = "append") && decide (ap.endLine = cp.line) && notStar v && decide (i ∈ O) && chkE { G with O := O } (.var i) (.Name x ap) && chkE { G with O := O } c v && !isOwn O c then some (some O) else none
    | _ => none
  | .setI i ix c, O, s => match s with
    | .Assign [.Subscript (.Name x p) y _] v _ => if notComp v && notSlice y && decide (i ∈ O) && chkE { G with O := O } (.var i) (.Name x p) && chkE { G with O := O } ix y && chkE { G with O := O } c v && !isOwn O c then some (some O) else none
    | _ => none
  | .expr c, O, s => match s with
    | .Expr v _ => if notComp v && chkE { G with O := O } c v then some (some O) else none
    | _ => none
  | .ite c t f, O, s => match s with
    | .If v a b _ => if chkE { G with O := O } c v then (match chkB G Ob Oc t O a, chkB G Ob Oc f O b with
      | some none, some r => some r
      | some r, some none => some r
      | some (some O1), some (some O2) => if O1 = O2 then some (some O1) else none
      | _, _ => none) else none
    | _ => none
  | .forS t src b, O, s => match s with
    | .For tg it body [] _ => if chkI { G with O := O } tg src it && notSet it && !isOwnS O src && chkG { G with O := O } t tg && (slots t).all (fun i => !decide (i ∈ O)) then (match chkB G O O b O body with
      | some none => some (some O)
      | some (some O1) => if O1 = O then some (some O) else none
      | none => none) else none
    | _ => none
  | .whileS _ c b, O, s => match s with
    | .While v body [] _ => if chkE { G with O := O } c v then (match chkB G O O b O body with
      | some none => some (some O)
      | some (some O1) => if O1 = O then some (some O) else none
      | none => none) else none
    | _ => none
  | .ret c, O, s => match s with
    | .Return (some v) _ => if chkE { G with O := O } c v && !isOwn O c then some none else none
    | _ => none
  | .brk, O, s => match s with
    | .Break _ => if O = Ob then some none else none
    | _ => none
  | .cont, O, s => match s with
    | .Continue _ => if O = Oc then some none else none
    | _ => none
  | .raise c, _, s => match s with
    | .Raise (some (.Call (.Name x _) [.Constant (.str _) _ _] [] _)) none _ => if decide (c < 7) && decide (c ∈ G.excs) && decide (x = xname c) && isGl G.sc x then some none else none
    | _ => none
  | .appR r c, O, s => match s with
    | .Expr (.Call (.Attribute o n ap) [v] [] cp) _ => if decide (n = "append") && decide (ap.endLine = cp.line) && notSuper o && notStar v && chkE { G with O := O } r o && chkE { G with O := O } c v && !isOwn O c then some (some O) else none
    | _ => none
  | .setR i ix c, O, s => match s with
    | .Assign [.Subscript (.Name x p) y _] v _ => if notComp v && notSlice y && decide (i ∉ O) && chkE { G with O := O } (.var i) (.Name x p) && chkE { G with O := O } ix y && chkE { G with O := O } c v && !isOwn O c then some (some O) else none
    | _ => none
  | .tryS b i j, O, s => match s with
    | .Try body [.ExceptHandler (some (.Name x _)) (some n) [.Assign [.Name m _] (.Name n' _) _] _] [] [] _ => if all8 G && decide (O = []) && decide (x = xname 7) && isGl G.sc x && decide (n' = n) && decide (i ≠ j) && decide (G.N[j]? = some n) && decide (G.N[i]? = some m) && decide (G.sc.names.lookup n = some .local) && decide (G.sc.names.lookup m = some .local) && notDbg n then (match chkB G Ob Oc b [] body with
      | some none => some (some [])
      | some (some O1) => if O1 = [] then some (some []) else none
      | none => none) else none
    | _ => none
  | _, _, _ => none
end
end BG

/-! BG.SetL: set(x) of a list of ints, in the form from which it can be sorted. -/
namespace BG
open PySem PySem.Spec PyProof.Rows L2
abbrev obS (w : World) : Obj := { cls := .type "set", dict := none, data := .set #[] 0 (.fresh 0 0 (!w.params.followText "set-order")) }
section
variable {P : Program} {w : World} {A : Around} {E : Value → Shared → Prop} {s : Shared}
theorem set_lstI {l : Addr} {its : Array Value} (ns : List Int) {Q : Value → Shared → Prop} (hh : A.handled = none) (hl : s.heap.IsList l its) (hit : IntsAre its.toList ns) (hb : ns.length + 1 < scanBound)
    (fin : ∀ (h' : Heap) (tk c : Nat), SetR w h' s.heap.objs.size (fun j => decide (j ∈ ns)) c → c ≤ ns.length → (∀ b o, s.heap.get? b = some o → h'.get? b = some o) → Q (.ref s.heap.objs.size) { s with heap := h', toks := tk }) : wpAny (model P w) A (call (.type "set") [.ref l]) Q E s := by
  have isz : its.size = ns.length := by have q := IntsAre.length hit; rwa [Array.length_toList] at q
  obtain ⟨c0, tl0, m0⟩ := F.called_set.mro
  have m1 := F.called_set.made; have m2 := F.called_set.sub; have m3 := F.called_set.notType; have m4 := F.called_set.canCreate; have m5 := F.typeCall_set_1 (.ref l)
  refine wpAny_call (codeAny_of_tree (show wpAny _ _ (callAny (.type "set") _) _ _ _ from wpAny_pure ⟨Code.quiet_builtin _ (by decide +kernel), codeAny_builtin F.entry_type_call ?_⟩))
  rw [Around.under_plain (weight_type_call_type "set" [Value.ref l] []) rfl]
  repeat any_goals (first | assumption | wp_step)
  refine codeAny_mono (code_set_led1 (.ref l) (E := E) (Q₁ := fun v s1 => v = .ref s.heap.objs.size ∧ s1 = { s with heap := s.heap.push (obS w) }) ⟨rfl, rfl⟩) fun r s1 hr => ?_
  match r, hr with
  | .error e, hr => exact hr
  | .ok (.ret v), hr =>
    obtain ⟨rfl, rfl⟩ := hr
    have gS : (s.heap.push (obS w)).get? s.heap.objs.size = some (obS w) := Heap.get?_push_size _ rfl
    have tS : Shared.TypeIs { s with heap := s.heap.push (obS w) } (.ref s.heap.objs.size) "set" := ⟨_, gS, rfl⟩
    have i1 := F.called_set.init.lookup; have i2 := F.called_set.init.bind (.ref s.heap.objs.size)
    repeat any_goals (first | assumption | wp_step)
    refine codeAny_mono (codeAny_call_builtin (R := wants (fun v s2 => v = .none ∧ ∃ h' tk c, s2 = { s with heap := h', toks := tk } ∧ SetR w h' s.heap.objs.size (fun j => decide (j ∈ ns)) c ∧ c ≤ ns.length ∧ ∀ b o, s.heap.get? b = some o → h'.get? b = some o) E) F.called_set.init.plain F.entry_set_init (check_set_init_1 tS ?_)) fun r2 s2 hr2 => ?_
    · obtain ⟨⟨oc, od, oe, os⟩, ho, hc, nl, hd⟩ := hl
      dsimp only at hc hd
      subst hc hd
      have go : (s.heap.push (obS w)).get? l = some { cls := .type "list", dict := od, data := .seq its nl, slots := os } := Heap.get?_push_of_some _ ho
      have u1 := F.sub_list_set; have u2 := F.sub_list_frozenset; have u3 : (Value.type "list" == Value.type "dict") = false := by decide
      have il : (s.heap.push (obS w)).IsList l its := ⟨_, go, rfl, nl, rfl⟩
      unfold Builtin.«set.__init__» noKeywords Builtin.Frozenset.updateFrom; generalize hPI : pyIter = PI
      wp_walk
      subst hPI
      refine wpAny_pyIter_list il (wpAny_bind (wpAny_runValue ?_))
      have lt : l < s.heap.objs.size := Heap.lt_size ho
      have z3 : A.in1.in1.in1.handled = none := by simp only [Around.in1_handled, hh]
      have zz : (s.heap.push (obS w)).objs.size = s.heap.objs.size + 1 := Heap.size_push ..
      have nI : l ≠ (s.heap.push (obS w)).objs.size := fun q => absurd lt (by rw [zz] at q; rw [q]; exact Nat.not_lt.mpr (Nat.le_succ _))
      have nS : s.heap.objs.size ∉ [(s.heap.push (obS w)).objs.size, l] := by
        simp only [List.mem_cons, List.not_mem_nil, or_false, zz]
        exact fun q => q.elim (fun q => Nat.ne_of_lt (Nat.lt_succ_self _) q) (fun q => Nat.ne_of_gt lt q)
      have val : ∀ (i : Nat) (v : Value), its[i]? = some v → ∃ k t, ns[i]? = some k ∧ v = .int k t := by
        intro i v hv
        have hi : i < ns.length := isz ▸ (Array.getElem?_eq_some_iff.mp hv).1
        obtain ⟨t, rfl⟩ := IntsAre.int_at hit i v (by rwa [Array.getElem?_toList])
        exact ⟨ns[i], t, List.getElem?_eq_getElem hi, by simp [List.getD_eq_getElem?_getD, List.getElem?_eq_getElem hi]⟩
      refine set_update_ints (Walks.list z3 _ l nI its).toS s.heap.objs.size nS ns isz hb val (its.size - 0) 0 _ (by omega) (Nat.zero_le _) ⟨⟨_, Heap.get?_push_size _ rfl, rfl, rfl⟩, il.push _⟩ ⟨0, Nat.le_refl 0, setR_new_at (Heap.get?_push_of_some _ gS)⟩ ?_
      intro ⟨h', g2, d2, t2, o2⟩ c2 mv hc2 hS2
      have e1 : g2 = s.gens := mv.gens; have e2 : d2 = s.drawn := mv.drawn; have e3 : o2 = s.os := mv.os
      subst e1 e2 e3
      refine show wpAny _ _ _ _ _ _ from wpAny_pure (show wpAny _ _ (ret Value.none) _ _ _ from wpAny_pure ⟨rfl, h', t2, c2, rfl, hS2, by omega, fun b o e => ?_⟩)
      have hb0 := Heap.lt_size e
      exact mv.heap b o (by
        simp only [List.mem_cons, List.not_mem_nil, or_false, zz]
        exact fun q => q.elim (fun q => Nat.ne_of_lt hb0 q) (fun q => Nat.ne_of_lt (Nat.lt_succ_of_lt hb0) q)) (Heap.get?_push_of_some _ (Heap.get?_push_of_some _ e))
    · match r2, hr2 with
      | .error e, hr2 => exact hr2
      | .ok (.ret v), hr2 =>
        obtain ⟨rfl, h', tk, c2, rfl, hS2, hc2, hk2⟩ := hr2
        repeat any_goals (first | assumption | wp_step)
        exact fin _ _ _ hS2 hc2 hk2
      | .ok (.next), hr2 => exact hr2.elim
      | .ok (.brk), hr2 => exact hr2.elim
      | .ok (.cont), hr2 => exact hr2.elim
end
end BG

/-! BG.SetT: set(x) of a list of tuples of ints, few of them different. -/
namespace BG
open PySem PySem.Spec PyProof.Rows L2
section
variable {P : Program} {w : World} {A : Around} {E : Value → Shared → Prop} {s : Shared}
theorem upd_tups {J : Addr} {fp wr : List Addr} {G : Array GenState → Array GenState → Prop} {n : Nat} {Pv : Nat → Value → Prop} {St : Nat → Shared → Prop} {R : Result → Shared → Prop}
    (W : WalksS P w A.in1 J fp wr G n Pv St) (a : Addr) (ha : a ∉ fp) (ks : List (Addr × List Int)) (hn : n = ks.length) (few : ∀ L : List (Addr × List Int), (L.map (·.2)).Nodup → (∀ p ∈ L, p ∈ ks) → L.length + 1 < 64) (hv : ∀ i v, Pv i v → ∃ p, ks[i]? = some p ∧ v = .ref p.1)
    (g0 : Heap) (hk : ∀ p ∈ ks, IsT P w g0 p.2 p.1) (hS : g0.get? a = none) (hW : ∀ b ∈ wr, g0.get? b = none) (hu : A.in1.units < cLine) :
    ∀ (k i : Nat) (s : Shared), n - i = k → i ≤ n → St i s → (∀ b o, g0.get? b = some o → s.heap.get? b = some o) → (∃ L es ep t, SetTR P w s.heap a L es ep t ∧ Got ks i L) →
      (∀ s' L es ep t, Moved (a :: wr) G s s' → SetTR P w s'.heap a L es ep t → Got ks n L → (∀ b o, g0.get? b = some o → s'.heap.get? b = some o) → R (.ok (.ret .none)) s') →
      codeAny (model P w) A (.builtin "set.update.loop" ⟨[.ref a, .ref J], []⟩) R s
  | 0, i, s, e, hi, st, kp, ⟨L, es, ep, t, T, g⟩, fin => by
    obtain rfl : i = n := by omega
    refine codeAny_builtin F.entry_set_update_loop ?_
    rw [Around.under_plainId F.plain_set_update_loop _]
    refine show wpAny _ A.in1 (pyNext (.ref J) >>= _) _ _ s from wpAny_bind (W.done s _ _ st fun s' hm => ?_)
    have kp' : ∀ b o, g0.get? b = some o → s'.heap.get? b = some o := fun b o e => hm.heap b o (fun hb => by rw [hW b hb] at e; cases e) (kp b o e)
    exact show wpAny _ A.in1 (ret Value.none) _ _ s' from wpAny_pure (fin s' L es ep t (hm.mono fun b hb => List.mem_cons_of_mem _ hb) (T.keep (fun o e => hm.heap a o (fun q => ha (W.sub _ q)) e) fun p hp => isT_keep (hk p (List.mem_of_mem_take (g.sub p hp))) kp') g kp')
  | k + 1, i, s, e, hi, st, kp, ⟨L, es, ep, t, T, g⟩, fin => by
    have lt : i < n := by omega
    refine codeAny_builtin F.entry_set_update_loop ?_
    rw [Around.under_plainId F.plain_set_update_loop _]
    refine show wpAny _ A.in1 (pyNext (.ref J) >>= _) _ _ s from wpAny_bind (W.item i s _ _ lt st fun v s' hP st' hm => ?_)
    obtain ⟨p, hp, rfl⟩ := hv i v hP
    have kp' : ∀ b o, g0.get? b = some o → s'.heap.get? b = some o := fun b o e => hm.heap b o (fun hb => by rw [hW b hb] at e; cases e) (kp b o e)
    have T' : SetTR P w s'.heap a L es ep t := T.keep (fun o e => hm.heap a o (fun q => ha (W.sub _ q)) e) fun q hq => isT_keep (hk q (List.mem_of_mem_take (g.sub q hq))) kp'
    have hx : IsT P w s'.heap p.2 p.1 := isT_keep (hk p (List.mem_of_getElem? hp)) kp'
    refine show wpAny _ A.in1 (holding [Value.ref p.1] (setAdd a (.ref p.1)) >>= _) _ _ s' from wpAny_bind (wpAny_holding ?_)
    unfold setAdd
    refine wpAny_holding (wpAny_bind (wpAny_pyHash_tuple hu hx ?_))
    refine add_at (s := { s' with toks := s'.toks + (p.2.length + 1) }) T' hx hu (few L T'.nd fun q hq => List.mem_of_mem_take (g.sub q hq)) fun b h' L' es' ep' t' hb T2 c1 c2 => ?_
    have g' : Got ks (i + 1) L' := by
      by_cases c : p.2 ∈ L.map (·.2)
      · rw [c1 c]; exact g.same hp c
      · exact g.more hp (c2 c)
    have kp2 : ∀ b o, g0.get? b = some o → h'.get? b = some o := fun b o e => (hb.2 b (fun z => by rw [z, hS] at e; cases e)).trans (kp' b o e)
    refine wpAny_pure ⟨plainId_quiet F.plain_set_update_loop _, upd_tups W a ha ks hn few hv g0 hk hS hW hu k (i + 1) _ (by omega) lt (W.frame _ s' _ _ st' (Nat.le_add_right _ _) fun b z o e => ?_) kp2 ⟨L', es', ep', t', T2, g'⟩ fun s2 L2 es2 ep2 t2 m2 T3 g3 kp3 => ?_⟩
    · rw [hb.2 b (fun q : b = a => ha (q ▸ z))]; exact e
    · refine fin s2 L2 es2 ep2 t2 (Moved.trans W.gtrans ((hm.mono fun b hb => List.mem_cons_of_mem _ hb).then_heap (Nat.le_add_right _ _) fun b o z e => ?_) m2) T3 g3 kp3
      rw [hb.2 b (fun q : b = a => z (q ▸ List.mem_cons_self))]; exact e
theorem set_lstT {l : Addr} {its : Array Value} (ks : List (Addr × List Int)) {Q : Value → Shared → Prop} (hh : A.handled = none) (hl : s.heap.IsList l its) (hit : its.toList = ks.map fun p => Value.ref p.1)
    (hk : ∀ p ∈ ks, IsT P w s.heap p.2 p.1) (few : ∀ L : List (Addr × List Int), (L.map (·.2)).Nodup → (∀ p ∈ L, p ∈ ks) → L.length + 1 < 64) (hu : A.units + 3 < cLine)
    (fin : ∀ (h' : Heap) (tk : Nat) L es ep t, SetTR P w h' s.heap.objs.size L es ep t → Got ks ks.length L → (∀ b o, s.heap.get? b = some o → h'.get? b = some o) → Q (.ref s.heap.objs.size) { s with heap := h', toks := tk }) : wpAny (model P w) A (call (.type "set") [.ref l]) Q E s := by
  have isz : its.size = ks.length := by have q := congrArg List.length hit; rwa [Array.length_toList, List.length_map] at q
  obtain ⟨c0, tl0, m0⟩ := F.called_set.mro
  have m1 := F.called_set.made; have m2 := F.called_set.sub; have m3 := F.called_set.notType; have m4 := F.called_set.canCreate; have m5 := F.typeCall_set_1 (.ref l)
  refine wpAny_call (codeAny_of_tree (show wpAny _ _ (callAny (.type "set") _) _ _ _ from wpAny_pure ⟨Code.quiet_builtin _ (by decide +kernel), codeAny_builtin F.entry_type_call ?_⟩))
  rw [Around.under_plain (weight_type_call_type "set" [Value.ref l] []) rfl]
  repeat any_goals (first | assumption | wp_step)
  refine codeAny_mono (code_set_led1 (.ref l) (E := E) (Q₁ := fun v s1 => v = .ref s.heap.objs.size ∧ s1 = { s with heap := s.heap.push (obS w) }) ⟨rfl, rfl⟩) fun r s1 hr => ?_
  match r, hr with
  | .error e, hr => exact hr
  | .ok (.ret v), hr =>
    obtain ⟨rfl, rfl⟩ := hr
    have gS : (s.heap.push (obS w)).get? s.heap.objs.size = some (obS w) := Heap.get?_push_size _ rfl
    have tS : Shared.TypeIs { s with heap := s.heap.push (obS w) } (.ref s.heap.objs.size) "set" := ⟨_, gS, rfl⟩
    have i1 := F.called_set.init.lookup; have i2 := F.called_set.init.bind (.ref s.heap.objs.size)
    repeat any_goals (first | assumption | wp_step)
    refine codeAny_mono (codeAny_call_builtin (R := wants (fun v s2 => v = .none ∧ ∃ h' tk L es ep t, s2 = { s with heap := h', toks := tk } ∧ SetTR P w h' s.heap.objs.size L es ep t ∧ Got ks ks.length L ∧ ∀ b o, s.heap.get? b = some o → h'.get? b = some o) E) F.called_set.init.plain F.entry_set_init (check_set_init_1 tS ?_)) fun r2 s2 hr2 => ?_
    · obtain ⟨⟨oc, od, oe, os⟩, ho, hc, nl, hd⟩ := hl
      dsimp only at hc hd
      subst hc hd
      have go : (s.heap.push (obS w)).get? l = some { cls := .type "list", dict := od, data := .seq its nl, slots := os } := Heap.get?_push_of_some _ ho
      have u1 := F.sub_list_set; have u2 := F.sub_list_frozenset; have u3 : (Value.type "list" == Value.type "dict") = false := by decide
      have il : (s.heap.push (obS w)).IsList l its := ⟨_, go, rfl, nl, rfl⟩
      unfold Builtin.«set.__init__» noKeywords Builtin.Frozenset.updateFrom; generalize hPI : pyIter = PI
      wp_walk
      subst hPI
      refine wpAny_pyIter_list il (wpAny_bind (wpAny_runValue ?_))
      have lt : l < s.heap.objs.size := Heap.lt_size ho
      have z3 : A.in1.in1.in1.handled = none := by simp only [Around.in1_handled, hh]
      have zz : (s.heap.push (obS w)).objs.size = s.heap.objs.size + 1 := Heap.size_push ..
      have nI : l ≠ (s.heap.push (obS w)).objs.size := fun q => absurd lt (by rw [zz] at q; rw [q]; exact Nat.not_lt.mpr (Nat.le_succ _))
      have nS : s.heap.objs.size ∉ [(s.heap.push (obS w)).objs.size, l] := by
        simp only [List.mem_cons, List.not_mem_nil, or_false, zz]
        exact fun q => q.elim (fun q => Nat.ne_of_lt (Nat.lt_succ_self _) q) (fun q => Nat.ne_of_gt lt q)
      have val : ∀ (i : Nat) (v : Value), its[i]? = some v → ∃ p, ks[i]? = some p ∧ v = .ref p.1 := by
        intro i v hv
        rw [← Array.getElem?_toList, hit, List.getElem?_map] at hv
        obtain ⟨p, hp, rfl⟩ := Option.map_eq_some_iff.mp hv
        exact ⟨p, hp, rfl⟩
      have non : ∀ b, s.heap.objs.size ≤ b → s.heap.get? b = none := fun b hb => by
        match q : s.heap.get? b with
        | none => rfl
        | some o => exact absurd (Heap.lt_size q) (Nat.not_lt.mpr hb)
      refine upd_tups (Walks.list z3 _ l nI its).toS s.heap.objs.size nS ks isz few val s.heap hk (non _ (Nat.le_refl _)) (fun b hb => non b (by rw [List.mem_singleton.mp hb, zz]; exact Nat.le_succ _)) hu (its.size - 0) 0 _ (by omega) (Nat.zero_le _) ⟨⟨_, Heap.get?_push_size _ rfl, rfl, rfl⟩, il.push _⟩
        (fun b o e => Heap.get?_push_of_some _ (Heap.get?_push_of_some _ e)) ⟨[], #[], 0, _, setTR_fresh (Heap.get?_push_of_some _ gS), Got.zero ks⟩ ?_
      intro ⟨h', g2, d2, t2, o2⟩ L es ep t mv T g kp
      have e1 : g2 = s.gens := mv.gens; have e2 : d2 = s.drawn := mv.drawn; have e3 : o2 = s.os := mv.os
      subst e1 e2 e3
      rw [isz] at g
      exact show wpAny _ _ _ _ _ _ from wpAny_pure (show wpAny _ _ (ret Value.none) _ _ _ from wpAny_pure ⟨rfl, h', t2, L, es, ep, t, rfl, T, g, kp⟩)
    · match r2, hr2 with
      | .error e, hr2 => exact hr2
      | .ok (.ret v), hr2 =>
        obtain ⟨rfl, h', tk, L, es, ep, t, rfl, T, g, kp⟩ := hr2
        repeat any_goals (first | assumption | wp_step)
        exact fin _ _ _ _ _ _ T g kp
      | .ok (.next), hr2 => exact hr2.elim
      | .ok (.brk), hr2 => exact hr2.elim
      | .ok (.cont), hr2 => exact hr2.elim
end
end BG

/-! BG.SoundE: the checker is right for expressions. -/
namespace BG
open PySem PySem.Spec PyProof.Rows L2

/-- a class of exceptions, as it stands -/
structure XOk (K : PySem.W.Frag) (mg : Str → Option Value) (L : List Nat) (c : Nat) : Prop where
  gl : mg (xname c) = some (.ref (xcA K c))
  xi : PySem.W.excIn K (xcA K c) He.veBase "ValueError.__new__" = true
  kp : PySem.W.keepIn K (.ref (xcA K c)) = true
  sb : PySem.W.subIn K (.ref (xcA K c)) (.type "BaseException") = some true
  ty : PySem.W.typeIn K (.ref (xcA K c)) = some (.type "type")
  em : PySem.W.exmOne K (.ref (xcA K c)) (.ref (xcA K 7)) = some true
  ec : ExcC K (xcA K c)
  kt : ∀ c' ∈ L, PySem.W.kitOne K (.ref (xcA K c)) (.ref (xcA K c')) = some (subX c c')
  kv : PySem.W.kitOne K (.ref (xcA K c)) (.type "ValueError") = some true
/-- the wish, by the classes' numbers -/
def wxOf (K : PySem.W.Frag) (xw : Nat → St → Hp → Prop) : WX := fun cls d σ H => ∃ c, cls = .ref (xcA K c) ∧ d = none ∧ xw c σ H
structure Cok (X : Cx) (G : GC) (cf : CF) (k : Nat) : Prop where
  sc : X.env.scope = G.sc
  N : X.N = G.N
  nd : X.N.Nodup
  calm : X.calm = true
  room : Room k X.A
  fn : ∀ x, (∀ sc0, G.blk = some sc0 → sc0.names.lookup x = some .cell) → X.fn x = true
  fns : ∀ p ∈ G.fns, ∃ f fd ps, ps.length = p.2.2 ∧ FnOk X.prog X.w X.K X.mg X.base (L2.CX X.prog X.w) k f fd ps (spOf X.K p.2.2 (cf.f p.2.1)) ∧ X.mg p.1 = some (.ref f) ∧ PySem.W.keepIn X.K (.ref f) = true ∧ Binds X.K fd ps []
  free : ∀ x ∈ G.free, X.mg x = none
  cons : ∀ p ∈ G.cons, ∃ u v, X.mg p.1 = some u ∧ RelV v u ∧ ∀ dr R, Rp X.K dr R v p.2
  tk : Takes X (wxOf X.K cf.xw)
  excs : ∀ c ∈ G.excs, XOk X.K X.mg G.excs c

theorem PE.weak {X : Cx} {e : Expr} {t t' : TE} (h : PE X e t) (w : ∀ σ H Q, t' σ H Q → t σ H Q) : PE X e t' := ⟨fun pins s σ H Q I q => h.run pins s σ H Q I (w σ H Q q)⟩
theorem PT.weak {X : Cx} {e : Expr} {t t' : TT} (h : PT X e t) (w : ∀ σ H Q, t' σ H Q → t σ H Q) : PT X e t' := ⟨fun pins s σ H Q I q => h.run pins s σ H Q I (w σ H Q q)⟩
theorem PW.weak {X : Cx} {e : Expr} {t t' : TT} (h : PW X e t) (w : ∀ σ H Q, t' σ H Q → t σ H Q) : PW X e t' := ⟨fun wh pins s σ H Q I q => h.run wh pins s σ H Q I (w σ H Q q)⟩
theorem PA.weak {X : Cx} {e : List Expr} {t t' : TA} (h : PA X e t) (w : ∀ σ H Q, t' σ H Q → t σ H Q) : PA X e t' := ⟨fun pos pins s σ H Q I q => h.run pos pins s σ H Q I (w σ H Q q)⟩
theorem PO.weak {X : Cx} {e : Option Expr} {t t' : TO} (h : PO X e t) (w : ∀ σ H Q, t' σ H Q → t σ H Q) : PO X e t' := ⟨fun pins s σ H Q I q => h.run pins s σ H Q I (w σ H Q q)⟩

theorem Beh.imp {α : Type} {K : PySem.W.Frag} {xw : Nat → Hp → Prop} {dr : Dr} {R H : Hp} {o : Out α} {Q Q' : α → Dr → Hp → Hp → Prop} (h : Beh K xw dr R H o Q) (w : ∀ d dr' R' H', Q d dr' R' H' → Q' d dr' R' H') : Beh K xw dr R H o Q' := by
  cases o with
  | ok a s => exact fun dr' R' H' g sb dk => w _ _ _ _ (h dr' R' H' g sb dk)
  | exc c s => exact h
  | bad => exact h.elim
/-! ### what a value of a kind stands for -/
section
variable {K : PySem.W.Frag} {O : List Nat} {c : Ex} {dr : Dr} {R H : Hp} {v : V}
theorem Res.int {i : Int} (h : Res K O c dr R H v (.int i)) : v = .int i := h.sh.int
theorem Res.bl {b : Bool} (h : Res K O c dr R H v (.bl b)) : v = .bl b := h.sh.bl
end

section
variable {X : Cx} {G : GC} {cf : CF} {k : Nat} {e : Expr} {c : Ex} {pos : Pos}
/-- a test by its value -/
theorem pt_of (h : PE X e (tE X.K cf G.O c)) (he : ∀ whole, isTrue e X.env whole = (do let v ← whole; standAt e.pos; holding [v] (truthy v))) : PT X e (tT X.K cf G.O c) := by
  refine PT.weak (pt_val h he) fun σ H Q q => ?_
  obtain ⟨en, s, dr, R, rel, b⟩ := q
  exact ⟨en, s, dr, R, rel, b.imp fun d dr' R' H' ⟨bb, eb, q⟩ v rv => by subst eb; exact ⟨bb, rv.bl, q⟩⟩

theorem s_var (C : Cok X G cf k) {i : Nat} {x : Str} (h : chkE G (.var i) (.Name x pos) = true) : PE X (.Name x pos) (tE X.K cf G.O (.var i)) := by
  simp only [chkE, Bool.and_eq_true, decide_eq_true_eq, isVis, Bool.or_eq_true, notDbg, Bool.not_eq_true'] at h
  obtain ⟨⟨h1, h2⟩, ⟨h3, h4⟩, h5⟩ := h
  have hv : Vis X.env.scope x := by
    rw [C.sc]
    rcases h2 with (h2 | h2) | h2
    · exact .inl h2
    · exact .inr (.inl h2)
    · exact .inr (.inr h2)
  refine PE.weak (pe_var (i := i) (by rw [C.N]; exact h1) hv h3 h4) fun σ H Q q => ?_
  obtain ⟨en, s, dr, R, rel, b⟩ := q
  unfold ev at b
  split at b
  · rename_i d ed
    obtain ⟨v, hv, hr⟩ := rel.val i d ed
    refine ⟨v, hv, b dr R H (Grow.refl dr R H) rel.sub rel.drok v ?_⟩
    unfold Res
    simp only [isOwn, decide_eq_true_eq]
    exact hr
  · exact b.elim

theorem s_cst {v : Val} {cc : Const} {j : Nat} (h : chkE G (.cst v) (.Constant cc j pos) = true) : PE X (.Constant cc j pos) (tE X.K cf G.O (.cst v)) := by
  simp only [chkE] at h
  cases v with
  | int i =>
    cases cc <;> simp [cstOk] at h
    subst h
    refine PE.weak pe_int fun σ H Q ⟨en, s, dr, R, rel, b⟩ => b dr R H (Grow.refl dr R H) rel.sub rel.drok _ (Res.of rfl (.int _))
  | bl i =>
    cases cc <;> simp [cstOk] at h
    subst h
    refine PE.weak pe_bl fun σ H Q ⟨en, s, dr, R, rel, b⟩ => b dr R H (Grow.refl dr R H) rel.sub rel.drok _ (Res.of rfl (.bl _))
  | non =>
    cases cc <;> simp [cstOk] at h
    refine PE.weak pe_non fun σ H Q ⟨en, s, dr, R, rel, b⟩ => b dr R H (Grow.refl dr R H) rel.sub rel.drok _ (Res.of rfl .non)
  | str cs =>
    cases cc with
    | str z =>
      simp only [cstOk, Bool.and_eq_true, decide_eq_true_eq] at h
      obtain ⟨⟨h1, h2⟩, h3⟩ := h
      have ez : z = ⟨cs.toArray⟩ := by
        cases z with
        | mk a => simp only at h1; subst h1; simp
      refine PE.weak pe_str fun σ H Q ⟨en, s, dr, R, rel, b⟩ => b dr R H (Grow.refl dr R H) rel.sub rel.drok _ (Res.of rfl ?_)
      rw [ez]
      exact .str cs h2 h3
    | _ => simp [cstOk] at h
  | _ => cases cc <;> simp [cstOk] at h

theorem sameC_eq {v w : Val} (h : sameC v w = true) : v = w := by
  cases v <;> cases w <;> simp [sameC] at h <;> rw [h]
theorem s_glb (C : Cok X G cf k) {cs : List Nat} {v : Val} {y : Str} (h : chkE G (.glb cs v) (.Name y pos) = true) : PE X (.Name y pos) (tE X.K cf G.O (.glb cs v)) := by
  simp only [chkE, isGl, Bool.and_eq_true, decide_eq_true_eq, notDbg, Bool.not_eq_true', List.any_eq_true] at h
  obtain ⟨⟨h1, ⟨h2, _⟩, _⟩, p, hp, rfl, h4⟩ := h
  obtain ⟨u, w, g1, g2, g3⟩ := C.cons p hp
  have hg : Gl X p.1 := by show X.env.scope.names.lookup p.1 = _; rw [C.sc]; exact h1
  refine PE.weak (pe_glob hg g1 g2 h2) fun σ H Q ⟨en, s, dr, R, rel, b⟩ => b dr R H (Grow.refl dr R H) rel.sub rel.drok _ (Res.of rfl ?_)
  rw [← sameC_eq h4]
  exact g3 dr R

/-- two parts and an operator -/
theorem two {a b : Ex} {r : R2} {F : Val → Val → Option Val} {K : PySem.W.Frag} {O : List Nat} (ok : OpOk K F r) (hc : isOwn O c = false) (he : ∀ e s, ev cf c e s = (ev cf a e s).bind fun x s => (ev cf b e s).bind fun y s => lift (F x y) s) :
    ∀ σ H Q, tE K cf O c σ H Q → tOp r (tE K cf O a) (tE K cf O b) σ H Q := by
  intro σ H Q ⟨en, s, dr, R, rel, bh⟩
  rw [he] at bh
  refine ⟨en, s, dr, R, rel, bh.bind fun x s1 ex k1 => ?_⟩
  intro dr1 R1 H1 g1 sb1 dk1 vx rx
  refine ⟨en, s1, dr1, R1, rel.grow g1 sb1 dk1, (k1 dr1 R1 H1 g1 sb1).bind fun y s2 ey k2 => ?_⟩
  intro dr2 R2 H2 g2 sb2 dk2 vy ry
  obtain ⟨z, ez, k3⟩ := (k2 dr2 R2 H2 g2 sb2).lift
  exact ok dr2 R2 H2 s2 vx vy x y z Q sb2 dk2 (rx.grow g2).sh ry.sh ez fun dr' R' H' g sb dk v rv => k3.ok g sb dk v (Res.of hc rv)
theorem s_bin {kk : BinK} {a b : Ex} {x y : Expr} (ha : PE X x (tE X.K cf G.O a)) (hb : PE X y (tE X.K cf G.O b)) : PE X (.BinOp x (binOp kk) y pos) (tE X.K cf G.O (.bin kk a b)) :=
  PE.weak (pe_op (op_bin kk) ha hb) (two (ok_bin X.K kk) rfl fun e s => by simp only [ev])
theorem s_neg {a : Ex} {x : Expr} (ha : PE X x (tE X.K cf G.O a)) : PE X (.UnaryOp .USub x pos) (tE X.K cf G.O (.neg a)) := by
  refine PE.weak (pe_un un_neg ha) fun σ H Q ⟨en, s, dr, R, rel, bh⟩ => ?_
  simp only [ev] at bh
  refine ⟨en, s, dr, R, rel, bh.bind fun d s1 ex k1 => ?_⟩
  intro dr1 R1 H1 g1 sb1 dk1 vx rx
  have k2 := k1 dr1 R1 H1 g1 sb1
  cases d with
  | int i => exact ⟨i, rx.int, k2.ok (Grow.refl _ _ _) sb1 dk1 _ (Res.of rfl (.int _))⟩
  | _ => exact k2.elim
theorem s_not {a : Ex} {x : Expr} (ha : PE X x (tE X.K cf G.O a)) (ta : PT X x (tT X.K cf G.O a)) : PE X (.UnaryOp .Not x pos) (tE X.K cf G.O (.not a)) ∧ PT X (.UnaryOp .Not x pos) (tT X.K cf G.O (.not a)) := by
  constructor
  · refine PE.weak (pe_not ha) fun σ H Q ⟨en, s, dr, R, rel, bh⟩ => ?_
    simp only [ev] at bh
    refine ⟨en, s, dr, R, rel, bh.bind fun d s1 ex k1 => ?_⟩
    intro dr1 R1 H1 g1 sb1 dk1 vx rx
    have k2 := k1 dr1 R1 H1 g1 sb1
    cases d with
    | bl i => exact ⟨i, rx.bl, k2.ok (Grow.refl _ _ _) sb1 dk1 _ (Res.of rfl (.bl _))⟩
    | _ => exact k2.elim
  · refine PT.weak (pt_not ta) fun σ H Q ⟨en, s, dr, R, rel, bh⟩ => ?_
    simp only [ev] at bh
    refine ⟨en, s, dr, R, rel, bh.bind fun d s1 ex k1 => ?_⟩
    intro dr1 R1 H1 g1 sb1 dk1
    have k2 := k1 dr1 R1 H1 g1 sb1
    cases d with
    | bl i =>
      refine ⟨i, rfl, ?_⟩
      obtain ⟨b, eb, q⟩ := k2.ok (Grow.refl _ _ _) sb1 dk1
      cases eb
      exact q
    | _ => exact k2.elim
theorem s_and {a b : Ex} {x y : Expr} {rest : List Expr} (hb0 : isOwn G.O b = false) (ha : PE X x (tE X.K cf G.O a)) (ta : PT X x (tT X.K cf G.O a)) (hb : PE X (.BoolOp .And (y :: rest) pos) (tE X.K cf G.O b)) (tb : PW X (.BoolOp .And (y :: rest) pos) (tT X.K cf G.O b)) :
    PE X (.BoolOp .And (x :: y :: rest) pos) (tE X.K cf G.O (.and a b)) ∧ PW X (.BoolOp .And (x :: y :: rest) pos) (tT X.K cf G.O (.and a b)) := by
  constructor
  · refine PE.weak (pe_and ha hb) fun σ H Q ⟨en, s, dr, R, rel, bh⟩ => ?_
    simp only [ev] at bh
    refine ⟨en, s, dr, R, rel, bh.bind fun d s1 ex k1 => ?_⟩
    intro dr1 R1 H1 g1 sb1 dk1 vx rx
    have k2 := k1 dr1 R1 H1 g1 sb1
    cases d with
    | bl i =>
      refine ⟨i, rx.bl, ?_⟩
      cases i with
      | true =>
        rw [if_pos rfl]
        exact ⟨en, s1, dr1, R1, rel.grow g1 sb1 dk1, Beh.imp k2 fun d dr' R' H' w v rv => w v (Res.of rfl (rv.rp hb0))⟩
      | false =>
        rw [if_neg Bool.false_ne_true]
        exact k2.ok (Grow.refl _ _ _) sb1 dk1 _ (Res.of rfl (.bl _))
    | _ => exact k2.elim
  · refine PW.weak (pw_and ta tb) fun σ H Q ⟨en, s, dr, R, rel, bh⟩ => ?_
    simp only [ev] at bh
    refine ⟨en, s, dr, R, rel, bh.bind fun d s1 ex k1 => ?_⟩
    intro dr1 R1 H1 g1 sb1 dk1
    have k2 := k1 dr1 R1 H1 g1 sb1
    cases d with
    | bl i =>
      refine ⟨i, rfl, ?_⟩
      cases i with
      | true =>
        rw [if_pos rfl]
        exact ⟨en, s1, dr1, R1, rel.grow g1 sb1 dk1, k2⟩
      | false =>
        rw [if_neg Bool.false_ne_true]
        obtain ⟨b, eb, q⟩ := k2.ok (Grow.refl _ _ _) sb1 dk1
        cases eb
        exact q
    | _ => exact k2.elim
theorem s_or {a b : Ex} {x y : Expr} {rest : List Expr} (hb0 : isOwn G.O b = false) (ha : PE X x (tE X.K cf G.O a)) (ta : PT X x (tT X.K cf G.O a)) (hb : PE X (.BoolOp .Or (y :: rest) pos) (tE X.K cf G.O b)) (tb : PW X (.BoolOp .Or (y :: rest) pos) (tT X.K cf G.O b)) :
    PE X (.BoolOp .Or (x :: y :: rest) pos) (tE X.K cf G.O (.or a b)) ∧ PW X (.BoolOp .Or (x :: y :: rest) pos) (tT X.K cf G.O (.or a b)) := by
  constructor
  · refine PE.weak (pe_or ha hb) fun σ H Q ⟨en, s, dr, R, rel, bh⟩ => ?_
    simp only [ev] at bh
    refine ⟨en, s, dr, R, rel, bh.bind fun d s1 ex k1 => ?_⟩
    intro dr1 R1 H1 g1 sb1 dk1 vx rx
    have k2 := k1 dr1 R1 H1 g1 sb1
    cases d with
    | bl i =>
      refine ⟨i, rx.bl, ?_⟩
      cases i with
      | false =>
        rw [if_neg Bool.false_ne_true]
        exact ⟨en, s1, dr1, R1, rel.grow g1 sb1 dk1, Beh.imp k2 fun d dr' R' H' w v rv => w v (Res.of rfl (rv.rp hb0))⟩
      | true =>
        rw [if_pos rfl]
        exact k2.ok (Grow.refl _ _ _) sb1 dk1 _ (Res.of rfl (.bl _))
    | _ => exact k2.elim
  · refine PW.weak (pw_or ta tb) fun σ H Q ⟨en, s, dr, R, rel, bh⟩ => ?_
    simp only [ev] at bh
    refine ⟨en, s, dr, R, rel, bh.bind fun d s1 ex k1 => ?_⟩
    intro dr1 R1 H1 g1 sb1 dk1
    have k2 := k1 dr1 R1 H1 g1 sb1
    cases d with
    | bl i =>
      refine ⟨i, rfl, ?_⟩
      cases i with
      | false =>
        rw [if_neg Bool.false_ne_true]
        exact ⟨en, s1, dr1, R1, rel.grow g1 sb1 dk1, k2⟩
      | true =>
        rw [if_pos rfl]
        obtain ⟨b, eb, q⟩ := k2.ok (Grow.refl _ _ _) sb1 dk1
        cases eb
        exact q
    | _ => exact k2.elim
theorem notSet_mark {op : CmpOp} {y : Expr} (h : notSet y = true) : behindInMarks op y = false := by
  cases y <;> first | rfl | simp [notSet] at h
theorem s_cmp (C : Cok X G cf k) {kk : CmpK} {a b : Ex} {x y : Expr} (hs : notSet y = true) (ha : PE X x (tE X.K cf G.O a)) (hb : PE X y (tE X.K cf G.O b)) :
    PE X (.Compare x [cmpOp kk] [y] pos) (tE X.K cf G.O (.cmp kk a b)) ∧ PT X (.Compare x [cmpOp kk] [y] pos) (tT X.K cf G.O (.cmp kk a b)) := by
  have hu : X.A.units + 65 < cLine := by have := C.room.un; omega
  have T := two (cf := cf) (c := .cmp kk a b) (a := a) (b := b) (K := X.K) (O := G.O) (ok_cmp X.K kk) rfl fun e s => by simp only [ev]
  refine ⟨PE.weak (pe_cmpR (op_cmp hu kk) ha hb (notSet_mark hs)) T, PT.weak (pt_cmpR (op_cmp hu kk) ha hb (notSet_mark hs)) fun σ H Q q => T σ H _ ?_⟩
  obtain ⟨en, s, dr, R, rel, bh⟩ := q
  exact ⟨en, s, dr, R, rel, bh.imp fun d dr' R' H' ⟨bb, eb, q⟩ v rv => by subst eb; exact ⟨bb, rv.bl, q⟩⟩
theorem lastMarks_of {op op' : CmpOp} {y z : Expr} (h : notSet z = true) : lastMarks [op, op'] [y, z] = false := notSet_mark (op := op') h
theorem tChain_of (C : Cok X G cf k) {kk kk' : CmpK} {a b c : Ex} : ∀ σ H Q, tE X.K cf G.O (.chain kk kk' a b c) σ H Q → tChain (rCmp X.K kk) (rCmp X.K kk') (tE X.K cf G.O a) (tE X.K cf G.O b) (tE X.K cf G.O c) σ H Q := by
  intro σ H Q ⟨en, s, dr, R, rel, bh⟩
  simp only [ev] at bh
  refine ⟨en, s, dr, R, rel, bh.bind fun x s1 ex k1 => ?_⟩
  intro dr1 R1 H1 g1 sb1 dk1 vx rx
  refine ⟨en, s1, dr1, R1, rel.grow g1 sb1 dk1, (k1 dr1 R1 H1 g1 sb1).bind fun y s2 ey k2 => ?_⟩
  intro dr2 R2 H2 g2 sb2 dk2 vy ry
  have k3 := k2 dr2 R2 H2 g2 sb2
  cases ec : vcmp kk x y with
  | none => rw [ec] at k3; exact k3.elim
  | some bb =>
    rw [ec] at k3
    refine ok_cmp X.K kk dr2 R2 H2 s2 vx vy x y (.bl bb) _ sb2 dk2 (rx.grow g2).sh ry.sh (by show Option.map Val.bl (vcmp kk x y) = _; rw [ec]; rfl) fun dr' R' H' g sb dk v rv => ?_
    cases rv
    refine ⟨bb, rfl, ?_⟩
    cases bb with
    | true =>
      rw [if_pos rfl]
      refine ⟨en, s2, dr', R', (rel.grow g1 sb1 dk1).grow (g2.trans g) sb dk, (Beh.trans k3 g).bind fun z s3 ez k4 => ?_⟩
      intro dr3 R3 H3 g3 sb3 dk3 vz rz
      obtain ⟨w, ew, k5⟩ := (k4 dr3 R3 H3 g3 sb3).lift
      exact ok_cmp X.K kk' dr3 R3 H3 s3 vy vz y z w _ sb3 dk3 (ry.grow (g.trans g3)).sh rz.sh ew fun dr' R' H' g sb dk v rv => k5.ok g sb dk v (Res.of rfl rv)
    | false =>
      rw [if_neg Bool.false_ne_true]
      exact k3 dr' R' H' g sb dk _ (Res.of rfl (.bl _))
theorem s_chain (C : Cok X G cf k) {kk kk' : CmpK} {a b c : Ex} {x y z : Expr} (hs : notSet z = true) (ha : PE X x (tE X.K cf G.O a)) (hb : PE X y (tE X.K cf G.O b)) (hc : PE X z (tE X.K cf G.O c)) :
    PE X (.Compare x [cmpOp kk, cmpOp kk'] [y, z] pos) (tE X.K cf G.O (.chain kk kk' a b c)) ∧ PT X (.Compare x [cmpOp kk, cmpOp kk'] [y, z] pos) (tT X.K cf G.O (.chain kk kk' a b c)) := by
  have hu : X.A.units + 65 < cLine := by have := C.room.un; omega
  refine ⟨PE.weak (pe_chain (op_cmp hu kk) (op_cmp hu kk') ha hb hc (lastMarks_of hs)) (tChain_of C), PT.weak (pt_chain (op_cmp hu kk) (op_cmp hu kk') ha hb hc (lastMarks_of hs)) fun σ H Q q => tChain_of C σ H _ ?_⟩
  obtain ⟨en, s, dr, R, rel, bh⟩ := q
  exact ⟨en, s, dr, R, rel, bh.imp fun d dr' R' H' ⟨bb, eb, q⟩ v rv => by subst eb; exact ⟨bb, rv.bl, q⟩⟩
theorem pt_ite {z x y : Expr} {tz tx ty : TT} (hz : PT X z tz) (hx : PT X x tx) (hy : PT X y ty) : PT X (.IfExp z x y pos) (fun σ H Q => tz σ H fun c H1 => if c = true then tx σ H1 Q else ty σ H1 Q) := by
  refine ⟨fun pins s σ H Q I h => ?_⟩
  show wpAny _ _ (do if ← isTrue z X.env (eval z X.env) then isTrue x X.env (eval x X.env) else isTrue y X.env (eval y X.env)) _ _ _
  refine wpAny_bind (thn (hz.run pins s σ H _ I h) fun d s1 ⟨H1, I1, q1⟩ => ?_)
  cases d with
  | true => exact hx.run pins s1 σ H1 Q I1 q1
  | false => exact hy.run pins s1 σ H1 Q I1 q1
theorem s_ite {c a b : Ex} {z x y : Expr} (h1 : isOwn G.O a = false) (h2 : isOwn G.O b = false) (tc : PT X z (tT X.K cf G.O c)) (ha : PE X x (tE X.K cf G.O a)) (hb : PE X y (tE X.K cf G.O b)) (ta : PT X x (tT X.K cf G.O a)) (tb : PT X y (tT X.K cf G.O b)) :
    PE X (.IfExp z x y pos) (tE X.K cf G.O (.ite c a b)) ∧ PT X (.IfExp z x y pos) (tT X.K cf G.O (.ite c a b)) := by
  constructor
  · refine PE.weak (pe_ifExp tc ha hb) fun σ H Q ⟨en, s, dr, R, rel, bh⟩ => ?_
    simp only [ev] at bh
    refine ⟨en, s, dr, R, rel, bh.bind fun d s1 ex k1 => ?_⟩
    intro dr1 R1 H1 g1 sb1 dk1
    have k2 := k1 dr1 R1 H1 g1 sb1
    cases d with
    | bl i =>
      refine ⟨i, rfl, ?_⟩
      cases i with
      | true =>
        rw [if_pos rfl]
        exact ⟨en, s1, dr1, R1, rel.grow g1 sb1 dk1, Beh.imp k2 fun d dr' R' H' w v rv => w v (Res.of rfl (rv.rp h1))⟩
      | false =>
        rw [if_neg Bool.false_ne_true]
        exact ⟨en, s1, dr1, R1, rel.grow g1 sb1 dk1, Beh.imp k2 fun d dr' R' H' w v rv => w v (Res.of rfl (rv.rp h2))⟩
    | _ => exact k2.elim
  · refine PT.weak (pt_ite tc ta tb) fun σ H Q ⟨en, s, dr, R, rel, bh⟩ => ?_
    simp only [ev] at bh
    refine ⟨en, s, dr, R, rel, bh.bind fun d s1 ex k1 => ?_⟩
    intro dr1 R1 H1 g1 sb1 dk1
    have k2 := k1 dr1 R1 H1 g1 sb1
    cases d with
    | bl i =>
      refine ⟨i, rfl, ?_⟩
      cases i with
      | true =>
        rw [if_pos rfl]
        exact ⟨en, s1, dr1, R1, rel.grow g1 sb1 dk1, k2⟩
      | false =>
        rw [if_neg Bool.false_ne_true]
        exact ⟨en, s1, dr1, R1, rel.grow g1 sb1 dk1, k2⟩
    | _ => exact k2.elim
/-! ### arguments, displays -/
theorem star_of {x : Expr} (h : notStar x = true) (es : List Expr) (env : PySem.Env) : starEach (x :: es) env = (false, eval x env) :: starEach es env := by
  cases x <;> first | rfl | simp [notStar] at h
theorem pa_nil' : PA X [] (tAs X.K cf G.O .nil) := by
  refine PA.weak pa_nil fun σ H Q ⟨en, s, dr, R, rel, bh⟩ => ?_
  simp only [evs] at bh
  exact bh.ok (Grow.refl _ _ _) rel.sub rel.drok _ .nil
theorem pa_cons' {a r : Ex} {x : Expr} {es : List Expr} (hs : notStar x = true) (ha : PE X x (tE X.K cf G.O a)) (hr : PA X es (tAs X.K cf G.O r)) : PA X (x :: es) (tAs X.K cf G.O (.cons a r)) := by
  refine PA.weak (pa_cons ha hr (star_of hs es _)) fun σ H Q ⟨en, s, dr, R, rel, bh⟩ => ?_
  simp only [evs] at bh
  refine ⟨en, s, dr, R, rel, bh.bind fun d s1 ex k1 => ?_⟩
  intro dr1 R1 H1 g1 sb1 dk1 vx rx
  refine ⟨en, s1, dr1, R1, rel.grow g1 sb1 dk1, (k1 dr1 R1 H1 g1 sb1).bind fun ds s2 ey k2 => ?_⟩
  intro dr2 R2 H2 g2 sb2 dk2 vs rs
  exact (k2 dr2 R2 H2 g2 sb2).ok (Grow.refl _ _ _) sb2 dk2 _ (.cons (rx.grow g2) rs)
theorem ResA.rp {K : PySem.W.Frag} {O : List Nat} {dr : Dr} {R H : Hp} : ∀ {c : Ex} {vs : List V} {ds : List Val}, strict O c = true → ResA K O dr R H c vs ds → RpAll K dr R vs ds
  | _, _, _, _, .nil => .nil
  | _, _, _, h, .cons r rs => by
    simp only [strict, Bool.and_eq_true, Bool.not_eq_true'] at h
    exact .cons (r.rp h.1) (ResA.rp h.2 rs)
theorem chkAs_len (G : GC) : ∀ {a : Ex} {es : List Expr} {K : PySem.W.Frag} {O : List Nat} {dr : Dr} {R H : Hp} {vs : List V} {ds : List Val}, chkAs G a es = true → ResA K O dr R H a vs ds → vs.length = es.length
  | .nil, es, _, _, _, _, _, _, _, h, r => by
    cases r
    cases es with
    | nil => rfl
    | cons x l => simp [chkAs] at h
  | .cons a b, es, _, _, _, _, _, _, _, h, r => by
    cases r with
    | cons r rs =>
      cases es with
      | nil => simp [chkAs] at h
      | cons x l =>
        simp only [chkAs, Bool.and_eq_true] at h
        simp only [List.length_cons]
        rw [chkAs_len G h.2 rs]
theorem s_tup {a : Ex} {es : List Expr} {x1 : Nat} (hk : chkAs G a es = true) (hl : es.length ≤ lim) (st : strict G.O a = true) (ha : PA X es (tAs X.K cf G.O a)) : PE X (.Tuple es x1 pos) (tE X.K cf G.O (.tup a)) := by
  refine PE.weak (pe_tup ha) fun σ H Q ⟨en, s, dr, R, rel, bh⟩ => ?_
  simp only [ev] at bh
  refine ⟨en, s, dr, R, rel, bh.bind fun ds s1 ex k1 => ?_⟩
  intro dr1 R1 H1 g1 sb1 dk1 vs rs
  have k2 := k1 dr1 R1 H1 g1 sb1
  refine ⟨by rw [chkAs_len G hk rs]; exact lim_line hl, fun p hp => ?_⟩
  exact Fin.newT (K := X.K) (s := s1) (Q := Q) (fun dr' R' H' g sb dk v rv => k2.ok g sb dk v (Res.of rfl rv)) sb1 dk1 (rs.rp st) (by rw [← (rs.rp st).len, chkAs_len G hk rs]; exact hl) p hp
theorem s_list {a : Ex} {es : List Expr} (hk : chkAs G a es = true) (hl : es.length ≤ lim) (st : strict G.O a = true) (ha : PA X es (tAs X.K cf G.O a)) : PE X (.List es pos) (tE X.K cf G.O (.list a)) := by
  refine PE.weak (pe_lst ha) fun σ H Q ⟨en, s, dr, R, rel, bh⟩ => ?_
  simp only [ev] at bh
  refine ⟨en, s, dr, R, rel, bh.bind fun ds s1 ex k1 => ?_⟩
  intro dr1 R1 H1 g1 sb1 dk1 vs rs
  have k2 := k1 dr1 R1 H1 g1 sb1
  refine ⟨by rw [chkAs_len G hk rs]; exact lim_line hl, fun p hp => ?_⟩
  exact Fin.newL (K := X.K) (s := s1) (Q := Q) (fun dr' R' H' g sb dk v rv => k2.ok g sb dk v (Res.of rfl rv)) sb1 dk1 (rs.rp st) (by rw [← (rs.rp st).len, chkAs_len G hk rs]; exact hl) p hp
theorem plainIx_of {y : Expr} (h : notSlice y = true) : PlainIx y := by
  intro o i
  cases y <;> first | rfl | simp [notSlice] at h
theorem s_idx {a b : Ex} {x y : Expr} (hu : X.A.units + 64 < cLine) (hs : notSlice y = true) (ha : PE X x (tE X.K cf G.O a)) (hb : PE X y (tE X.K cf G.O b)) : PE X (.Subscript x y pos) (tE X.K cf G.O (.idx a b)) :=
  PE.weak (pe_ix (ix_all hu) ha hb (plainIx_of hs)) (two (ok_idx X.K) rfl fun e s => by simp only [ev])
theorem po_none' : PO X none (tPo X.K cf G.O .no) := by
  refine PO.weak po_none fun σ H Q ⟨en, s, dr, R, rel, bh⟩ => ?_
  simp only [evo] at bh
  exact bh.ok (Grow.refl _ _ _) rel.sub rel.drok
theorem po_some' {a : Ex} {x : Expr} (ha : PE X x (tE X.K cf G.O a)) : PO X (some x) (tPo X.K cf G.O (.cons a .nil)) := by
  refine PO.weak (po_some ha) fun σ H Q ⟨en, s, dr, R, rel, bh⟩ => ?_
  simp only [evo] at bh
  refine ⟨en, s, dr, R, rel, bh.bind fun d s1 ex k1 => ?_⟩
  intro dr1 R1 H1 g1 sb1 dk1 vx rx
  obtain ⟨o, eo, k2⟩ := (k1 dr1 R1 H1 g1 sb1).lift
  cases d with
  | int i =>
    simp only [asOpt, Option.some.injEq] at eo
    subst eo
    exact ⟨i, rx.int, k2.ok (Grow.refl _ _ _) sb1 dk1⟩
  | _ => simp [asOpt] at eo
theorem s_slice {a lo hi : Ex} {x : Expr} {l h : Option Expr} {p2 : Pos} (ha : PE X x (tE X.K cf G.O a)) (hl : PO X l (tPo X.K cf G.O lo)) (hh : PO X h (tPo X.K cf G.O hi)) : PE X (.Subscript x (.Slice l h none p2) pos) (tE X.K cf G.O (.slice a lo hi)) := by
  refine PE.weak (pe_slice sl_all ha hl hh) fun σ H Q ⟨en, s, dr, R, rel, bh⟩ => ?_
  simp only [ev] at bh
  refine ⟨en, s, dr, R, rel, bh.bind fun d s1 ex k1 => ?_⟩
  intro dr1 R1 H1 g1 sb1 dk1 vx rx
  refine ⟨en, s1, dr1, R1, rel.grow g1 sb1 dk1, (k1 dr1 R1 H1 g1 sb1).bind fun o1 s2 ey k2 => ?_⟩
  intro dr2 R2 H2 g2 sb2 dk2
  refine ⟨en, s2, dr2, R2, (rel.grow g1 sb1 dk1).grow g2 sb2 dk2, (k2 dr2 R2 H2 g2 sb2).bind fun o2 s3 ez k3 => ?_⟩
  intro dr3 R3 H3 g3 sb3 dk3
  obtain ⟨z, e3, k4⟩ := (k3 dr3 R3 H3 g3 sb3).lift
  exact ok_slice X.K sb3 dk3 (rx.grow (g2.trans g3)).sh e3 fun dr' R' H' g sb dk v rv => k4.ok g sb dk v (Res.of rfl rv)
theorem s_rev {a : Ex} {x : Expr} {kk : Nat} {p1 p2 p3 : Pos} (ha : PE X x (tE X.K cf G.O a)) : PE X (.Subscript x (.Slice none none (some (.UnaryOp .USub (.Constant (.int 1) kk p1) p2)) p3) pos) (tE X.K cf G.O (.rev a)) := by
  refine PE.weak (pe_revL ha) fun σ H Q ⟨en, s, dr, R, rel, bh⟩ => ?_
  simp only [ev] at bh
  refine ⟨en, s, dr, R, rel, bh.bind fun d s1 ex k1 => ?_⟩
  intro dr1 R1 H1 g1 sb1 dk1 vx rx
  have k2 := k1 dr1 R1 H1 g1 sb1
  cases d with
  | lst ds =>
    obtain ⟨p, xs, rfl, q1, q3⟩ := rx.sh.lst sb1
    refine ⟨p, xs, rfl, SqL.of q1, fun t ht => ?_⟩
    exact Fin.newL (K := X.K) (s := s1) (Q := Q) (fun dr' R' H' g sb dk v rv => k2.ok g sb dk v (Res.of rfl rv)) sb1 dk1 q3.rev (by rw [List.length_reverse]; exact rx.sh.lstLen) t ht
  | _ => exact k2.elim
end
end BG

/-! BG.SoundC: calls, iterations, comprehensions. -/
namespace BG
open PySem PySem.Spec PyProof.Rows L2
section
variable {X : Cx} {G : GC} {cf : CF} {k : Nat} {e : Expr} {c : Ex} {pos : Pos}
theorem gl_of (C : Cok X G cf k) {x : Str} (h : isGl G.sc x = true) : Gl X x := by
  show X.env.scope.names.lookup x = _
  rw [C.sc]
  exact of_decide_eq_true h
theorem dbg_of {x : Str} (h : notDbg x = true) : (x == ("__debug__" : Str)) = false ∧ x ≠ "__name__" := by
  simp only [notDbg, Bool.and_eq_true, Bool.not_eq_true'] at h
  refine ⟨h.1.1, fun q => ?_⟩
  rw [q] at h
  exact absurd h.2 (by decide +kernel)
theorem any_star (pos : Pos) (env : PySem.Env) (G : GC) : ∀ {a : Ex} {es : List Expr}, chkAs G a es = true → (backTo pos (starEach es env)).any (·.1) = false
  | .nil, es, h => by
    cases es with
    | nil => rfl
    | cons x l => simp [chkAs] at h
  | .cons a r, es, h => by
    cases es with
    | nil => rfl
    | cons x l =>
      simp only [chkAs, Bool.and_eq_true] at h
      rw [star_of h.1.1]
      show (false || (backTo pos (starEach l env)).any (·.1)) = false
      rw [any_star pos env G h.2]
      rfl
  | .var _, es, h => by simp [chkAs] at h
  | .cst _, es, h => by simp [chkAs] at h
  | .glb _ _, es, h => by simp [chkAs] at h
  | .bin _ _ _, es, h => by simp [chkAs] at h
  | .neg _, es, h => by simp [chkAs] at h
  | .not _, es, h => by simp [chkAs] at h
  | .and _ _, es, h => by simp [chkAs] at h
  | .or _ _, es, h => by simp [chkAs] at h
  | .cmp _ _ _, es, h => by simp [chkAs] at h
  | .chain _ _ _ _ _, es, h => by simp [chkAs] at h
  | .ite _ _ _, es, h => by simp [chkAs] at h
  | .tup _, es, h => by simp [chkAs] at h
  | .list _, es, h => by simp [chkAs] at h
  | .idx _ _, es, h => by simp [chkAs] at h
  | .slice _ _ _, es, h => by simp [chkAs] at h
  | .rev _, es, h => by simp [chkAs] at h
  | .no, es, h => by simp [chkAs] at h
  | .call _ _, es, h => by simp [chkAs] at h
  | .bi _ _, es, h => by simp [chkAs] at h
  | .isinst _ _, es, h => by simp [chkAs] at h
  | .meth _ _ _, es, h => by simp [chkAs] at h
  | .dnew, es, h => by simp [chkAs] at h
  | .dget _ _ _, es, h => by simp [chkAs] at h
  | .dnewN, es, h => by simp [chkAs] at h
  | .dlit _ _, es, h => by simp [chkAs] at h
  | .box _, es, h => by simp [chkAs] at h
  | .rop _ _ _ _, es, h => by simp [chkAs] at h
  | .isexc _ _, es, h => by simp [chkAs] at h
  | .comp _ _ _ _, es, h => by simp [chkAs] at h
  | .range1 _, es, h => by simp [chkAs] at h
  | .range2 _ _, es, h => by simp [chkAs] at h
  | .enum _, es, h => by simp [chkAs] at h
  | .zip _ _, es, h => by simp [chkAs] at h
  | .enumZip _ _, es, h => by simp [chkAs] at h

/-! ### a def called -/
theorem s_call (C : Cok X G cf k) {f : Nat} {a : Ex} {x : Str} {p : Pos} {es : List Expr} (h : chkE G (.call f a) (.Call (.Name x p) es [] pos) = true) (ha : PA X es (tAs X.K cf G.O a)) : PE X (.Call (.Name x p) es [] pos) (tE X.K cf G.O (.call f a)) := by
  simp only [chkE, Bool.and_eq_true, List.any_eq_true, decide_eq_true_eq] at h
  obtain ⟨⟨⟨⟨h1, h2⟩, q, hq, ⟨rfl, rfl⟩, h5⟩, st⟩, hk⟩ := h
  obtain ⟨fa, fd, ps, l1, F, g1, g2, g3⟩ := C.fns q hq
  have wish : ∀ {σ : St} {dr : Dr} {R H : Hp} {o : Out Val} {Q : Val → Dr → Hp → Hp → Prop}, Beh X.K (cf.at σ) dr R H o Q → Beh X.K (fun c H' => WE (wxOf X.K cf.xw) σ (.ref (xcA X.K c)) none H') dr R H o Q := by
    intro σ dr R H o Q b
    cases o with
    | ok d s => exact b
    | exc c s => exact fun dr' R' H' g sb dk => ⟨c, rfl, rfl, b dr' R' H' g sb dk⟩
    | bad => exact b
  have W : ∀ σ H Q, tE X.K cf G.O (.call q.2.1 a) σ H Q → tCallS (spOf X.K q.2.2 (cf.f q.2.1)) (WE (wxOf X.K cf.xw)) (tAs X.K cf G.O a) σ H Q := by
    intro σ H Q ⟨en, s, dr, R, rel, bh⟩
    simp only [ev] at bh
    refine ⟨en, s, dr, R, rel, bh.bind fun ds s1 ex k1 => ?_⟩
    intro dr1 R1 H1 gg1 sb1 dk1 vs rs
    exact ⟨ds, s1, dr1, R1, sb1, dk1, rs.rp st, by rw [chkAs_len G hk rs, h5], wish ((k1 dr1 R1 H1 gg1 sb1).imp fun d dr' R' H' w v rv => w v (Res.of rfl rv))⟩
  cases es with
  | nil =>
    have ea : a = .nil := by
      cases a <;> first | rfl | simp [chkAs] at hk
    subst ea
    refine PE.weak (pe_call0S F C.room (gl_of C h1) g1 g2 g3 (fun σ => passAt C.tk σ) (dbg_of h2).1) fun σ H Q q => ?_
    obtain ⟨en, s, dr, R, rel, bh⟩ := W σ H Q q
    simp only [evs] at bh
    exact bh.ok (Grow.refl _ _ _) rel.sub rel.drok [] .nil
  | cons e1 es =>
    have hk2 := hk
    cases a with
    | cons a1 a2 =>
      simp only [chkAs, Bool.and_eq_true] at hk
      exact PE.weak (pe_callS F C.room (gl_of C h1) g1 g2 g3 (fun σ => passAt C.tk σ) ha (dbg_of h2).1 (star_of hk.1.1 _ _) (any_star pos _ G hk.2)) W
    | _ => simp [chkAs] at hk

/-! ### built-in functions -/
def biVal : BiK → Value
  | .len => .builtin "len" | .all => .builtin "all" | .any => .builtin "any" | .tuple => .type "tuple" | .list => .type "list" | .sorted => .builtin "sorted" | .max1 => .builtin "max" | .min1 => .builtin "min" | .max2 => .builtin "max" | .min2 => .builtin "min"
  | .sum => .builtin "sum" | .abs => .builtin "abs" | .sortedSet => .builtin "sorted" | .lenSet => .builtin "len" | .str => .type "str" | .int => .type "int"
theorem bi_boot : ∀ kk : BiK, bootBuiltins (biName kk) = some (biVal kk) := by
  intro kk
  cases kk <;> decide +kernel
theorem bi_ne : ∀ kk : BiK, biName kk ≠ "__name__" ∧ (biName kk == ("__debug__" : Str)) = false := by
  intro kk
  cases kk <;> decide +kernel
theorem isBi_of (C : Cok X G cf k) {x n : Str} (h : isBi G x n = true) : x = n ∧ Gl X n ∧ X.mg n = none := by
  simp only [isBi, Bool.and_eq_true, decide_eq_true_eq] at h
  exact ⟨h.1.1, gl_of C h.1.2, C.free _ h.2⟩
theorem pe_biv {kk : BiK} {r : List V → Hp → VK → Prop} {e1 : Expr} {es : List Expr} {t : TA} {p : Pos} (hc : CallR X (biVal kk) r) (hg : Gl X (biName kk)) (hm : X.mg (biName kk) = none) (ha : PA X (e1 :: es) t) (he : starEach (e1 :: es) X.env = (false, eval e1 X.env) :: starEach es X.env) (hp : (backTo pos (starEach es X.env)).any (·.1) = false) :
    PE X (.Call (.Name (biName kk) p) (e1 :: es) [] pos) (tCB r t) := by
  cases kk <;> first
    | exact pe_callB (x := biName _) hc hg hm (bi_boot _) ha (bi_ne _).1 (bi_ne _).2 he hp
    | exact pe_callTy (x := biName _) hc hg hm (bi_boot _) ha (bi_ne _).1 (bi_ne _).2 he hp
theorem cr_strA {X : Cx} : CallR X (.type "str") (fun xs H Q => (∃ i, xs = [.int i] ∧ i.natAbs.log2 < 1920 ∧ Q (.str (toString i)) H) ∨ ∃ a, xs = [.str a] ∧ Q (.str a) H) := fun pins s σ H xs us Q I r h =>
  h.elim (fun h => call_str_int pins s σ H xs us Q I r h) fun h => SkE.call_str_str pins s σ H xs us Q I r h
theorem digit_str {i : Int} (h0 : 0 ≤ i) (h9 : i < 10) : ((toString i : String) : Str) = ⟨[48 + i.toNat].toArray⟩ := by
  have : i = 0 ∨ i = 1 ∨ i = 2 ∨ i = 3 ∨ i = 4 ∨ i = 5 ∨ i = 6 ∨ i = 7 ∨ i = 8 ∨ i = 9 := by omega
  rcases this with rfl | rfl | rfl | rfl | rfl | rfl | rfl | rfl | rfl | rfl <;> decide +kernel
theorem ok_strA (K : PySem.W.Frag) : CallOk K (vbi .str) (fun xs H Q => (∃ i, xs = [.int i] ∧ i.natAbs.log2 < 1920 ∧ Q (.str (toString i)) H) ∨ ∃ a, xs = [.str a] ∧ Q (.str a) H) := by
  intro dr R H s vs ds z Q sb dk hs e f
  unfold vbi at e
  split at e <;> (try (simp at *; done))
  · rename_i i _
    simp only [Option.ite_none_right_eq_some, Option.some.injEq] at e
    obtain ⟨⟨h0, h9⟩, rfl⟩ := e
    obtain ⟨v, rfl, h1⟩ := hs.one
    rw [h1.int]
    refine .inl ⟨i, rfl, ?_, ?_⟩
    · have : i = 0 ∨ i = 1 ∨ i = 2 ∨ i = 3 ∨ i = 4 ∨ i = 5 ∨ i = 6 ∨ i = 7 ∨ i = 8 ∨ i = 9 := by omega
      rcases this with rfl | rfl | rfl | rfl | rfl | rfl | rfl | rfl | rfl | rfl <;> decide
    · rw [digit_str h0 h9]
      exact f.here sb dk (.str _ (by simp; omega) (by show 1 ≤ lim; decide))
  · simp only [Option.some.injEq] at e
    subst e
    obtain ⟨v, rfl, h1⟩ := hs.one
    obtain ⟨rfl, hc, hl⟩ := h1.str
    exact .inr ⟨_, rfl, f.here sb dk (.str _ hc hl)⟩
/-- the rule of a built-in function -/
theorem bi_rule (C : Cok X G cf k) (kk : BiK) (h : chkBi1 kk = true ∨ chkBi2 kk = true) : ∃ r, CallR X (biVal kk) r ∧ CallOk X.K (vbi kk) r := by
  have hu : X.A.units + 64 < cLine := C.room.units
  cases kk with
  | len => exact ⟨_, call_len, ok_len _⟩
  | all => exact ⟨_, cr_all C.calm, ok_all _⟩
  | any => exact ⟨_, cr_any C.calm, ok_any _⟩
  | tuple => exact ⟨_, call_tuple_of, ok_tuple _⟩
  | list => exact ⟨_, call_list_of, ok_list _⟩
  | sorted => exact ⟨_, cr_sortAll C.calm hu, ok_sorted _⟩
  | max1 => exact ⟨_, cr_max1 C.calm hu, ok_max1 _⟩
  | min1 => exact ⟨_, cr_min1 C.calm hu, ok_min1 _⟩
  | max2 => exact ⟨_, call_max2 C.calm, ok_max2 _⟩
  | min2 => exact ⟨_, call_min2 C.calm, ok_min2 _⟩
  | sum => exact ⟨_, cr_sum C.calm, ok_sum _⟩
  | abs => exact ⟨_, call_abs, ok_abs _⟩
  | int => exact ⟨_, call_int1, ok_int _⟩
  | sortedSet => rcases h with h | h <;> simp [chkBi1, chkBi2] at h
  | lenSet => rcases h with h | h <;> simp [chkBi1, chkBi2] at h
  | str => exact ⟨_, cr_strA, ok_strA _⟩
theorem s_bi (C : Cok X G cf k) {kk : BiK} {a : Ex} {p : Pos} {e1 : Expr} {es : List Expr} (h : chkBi1 kk = true ∨ chkBi2 kk = true) (hg : Gl X (biName kk)) (hm : X.mg (biName kk) = none) (hk : chkAs G a (e1 :: es) = true) (ha : PA X (e1 :: es) (tAs X.K cf G.O a)) :
    PE X (.Call (.Name (biName kk) p) (e1 :: es) [] pos) (tE X.K cf G.O (.bi kk a)) := by
  obtain ⟨r, cr, ok⟩ := bi_rule C kk h
  have hst : notStar e1 = true ∧ (backTo pos (starEach es X.env)).any (·.1) = false := by
    cases a with
    | cons a1 a2 =>
      simp only [chkAs, Bool.and_eq_true] at hk
      exact ⟨hk.1.1, any_star pos _ G hk.2⟩
    | _ => simp [chkAs] at hk
  refine PE.weak (pe_biv cr hg hm ha (star_of hst.1 _ _) hst.2) fun σ H Q ⟨en, s, dr, R, rel, bh⟩ => ?_
  simp only [ev] at bh
  refine ⟨en, s, dr, R, rel, bh.bind fun ds s1 ex k1 => ?_⟩
  intro dr1 R1 H1 g1 sb1 dk1 vs rs
  obtain ⟨z, ez, k2⟩ := (k1 dr1 R1 H1 g1 sb1).lift
  exact ok dr1 R1 H1 s1 vs ds z Q sb1 dk1 rs.sh ez fun dr' R' H' g sb dk v rv => k2.ok g sb dk v (Res.of rfl rv)
/-- list(range(n)), tuple(range(n)) -/
theorem rgV_rp {K : PySem.W.Frag} {dr : Dr} {R : Hp} (n : Int) : RpAll K dr R (rgV 0 n) (rangeL 0 n.toNat) := by
  unfold rgV rangeL
  rw [Int.sub_zero]
  generalize List.range n.toNat = l
  induction l with
  | nil => exact .nil
  | cons x l ih => exact .cons (.int _) ih
theorem s_rg (C : Cok X G cf k) {kk : BiK} {b : Ex} {p p2 pos2 : Pos} {z : Expr} (h : biName kk = "list" ∨ biName kk = "tuple") (hg : Gl X (biName kk)) (hm : X.mg (biName kk) = none) (hg2 : Gl X "range") (hm2 : X.mg "range" = none) (hs : notStar z = true) (hb : PE X z (tE X.K cf G.O b)) :
    PE X (.Call (.Name (biName kk) p) [.Call (.Name "range" p2) [z] [] pos2] [] pos) (tE X.K cf G.O (.bi kk (.cons (.range1 b) .nil))) := by
  have W : ∀ (t : List V → HO) (wr : List Val → Val), (∀ ds, vbi kk [.lst ds] = some (wr ds)) → (∀ {dr R H s Q xs ds}, Fin X.K dr R H s (wr ds) Q → Sub R H → DrOk X.K dr s R H → RpAll X.K dr R xs ds → ds.length ≤ lim → ∀ p, H p = none → Q (.ref p) (upd H p (t xs))) →
      ∀ σ H Q, tE X.K cf G.O (.bi kk (.cons (.range1 b) .nil)) σ H Q → tRg1 (tE X.K cf G.O b) σ H fun a b H1 => RgOk a b ∧ ∀ q, H1 q = none → Q (.ref q) (upd H1 q (t (rgV a b))) := by
    intro t wr hv hn σ H Q ⟨en, s, dr, R, rel, bh⟩
    simp only [ev, evs] at bh
    refine ⟨en, s, dr, R, rel, ?_⟩
    cases eb : ev cf b en s with
    | exc c s0 => rw [eb] at bh; exact bh
    | bad => rw [eb] at bh; exact bh
    | ok d s0 =>
      rw [eb] at bh
      simp only [Out.bind_ok] at bh
      intro dr1 R1 H1 g1 sb1 dk1 vx rx
      cases d with
      | int n =>
        refine ⟨n, rx.int, ?_⟩
        simp only at bh
        by_cases c : n ≤ lim ∧ -1000000 ≤ n
        · rw [if_pos c] at bh
          simp only [Out.bind_ok] at bh
          have k2 := Beh.trans bh g1
          rw [hv] at k2
          have hl : (lim : Int) = 1000000 := by decide
          refine ⟨⟨by omega, by omega, by omega, by omega, by omega⟩, fun q hq => ?_⟩
          exact hn (s := s0) (Q := Q) (fun dr' R' H' g sb dk v rv => k2.ok g sb dk v (Res.of rfl rv)) sb1 dk1 (rgV_rp n) (by unfold rangeL; rw [List.length_map, List.length_range]; omega) q hq
        · rw [if_neg c] at bh
          exact bh.elim
      | _ => exact bh.elim
  cases kk <;> (try (rcases h with h | h <;> exact absurd h (by decide +kernel)))
  · exact PE.weak (pe_tupRg C.calm hg hm (prg_1 hg2 hm2 hb (star_of hs _ _)) rfl) (W HO.tup Val.tup (fun _ => rfl) fun f sb dk hs hl p hp => f.newT sb dk hs hl p hp)
  · exact PE.weak (pe_listRg C.calm hg hm (prg_1 hg2 hm2 hb (star_of hs _ _)) rfl) (W HO.lst Val.lst (fun _ => rfl) fun f sb dk hs hl p hp => f.newL sb dk hs hl p hp)
theorem s_isinst (C : Cok X G cf k) {t : TyK} {a : Ex} {y : Expr} {p p2 : Pos} (hg : Gl X "isinstance") (hm : X.mg "isinstance" = none) (hg2 : Gl X (tyName t)) (hm2 : X.mg (tyName t) = none) (hs : notStar y = true) (ha : PE X y (tE X.K cf G.O a)) :
    PE X (.Call (.Name "isinstance" p) [y, .Name (tyName t) p2] [] pos) (tE X.K cf G.O (.isinst a t)) := by
  have hty : PE X (.Name (tyName t : Str) p2) (tC (.ty (tyName t))) := by
    refine pe_bltn (u := .type (tyName t)) hg2 hm2 ?_ rfl ?_ ?_ <;> cases t <;> decide +kernel
  refine PE.weak (pe_callB call_isi hg hm (by decide +kernel) (pa_cons ha (pa_cons hty pa_nil rfl) (star_of hs _ _)) (by decide +kernel) (by decide +kernel) (star_of hs _ _) rfl) fun σ H Q ⟨en, s, dr, R, rel, bh⟩ => ?_
  simp only [ev] at bh
  refine ⟨en, s, dr, R, rel, bh.bind fun d s1 ex k1 => ?_⟩
  intro dr1 R1 H1 g1 sb1 dk1 vx rx
  obtain ⟨z, ez, k2⟩ := (k1 dr1 R1 H1 g1 sb1).lift
  obtain ⟨b, eb, rfl⟩ := Option.map_eq_some_iff.mp ez
  obtain ⟨n, e1, e2⟩ := isty_kit t d b eb
  exact ⟨vx, .ty (tyName t), .type n, .type (tyName t), b, rfl, .ty _, valTy_ok rx.sh sb1 e1, kit_ty e2, k2.ok (Grow.refl _ _ _) sb1 dk1 _ (Res.of rfl (.bl _))⟩
theorem base_of {o : Expr} {n : Str} {env : PySem.Env} (h : notSuper o = true) : attributeBase o n env (eval o env) = eval o env := by
  cases o <;> first | rfl | simp [notSuper] at h
/-! ### sep.join(list) -/
theorem sh_strs {K : PySem.W.Frag} {dr : Dr} {R : Hp} : ∀ {ds : List Val} {ys : List (List Nat)} {vs : List V}, strsOf ds = some ys → RpAll K dr R vs ds → vs = ys.map (fun y => V.str ⟨y.toArray⟩) ∧ ∀ y ∈ ys, y.all (fun c => decide (c < 1114112)) = true
  | [], ys, _, h, r => by
    cases r
    simp [strsOf] at h
    subst h
    exact ⟨rfl, fun y hy => nomatch hy⟩
  | d :: ds, ys, _, h, r => by
    cases r with
    | cons r rs =>
      cases d <;> simp [strsOf] at h
      obtain ⟨zs, h1, rfl⟩ := h
      obtain ⟨rfl, h2⟩ := sh_strs h1 rs
      cases r with
      | str _ hc hl => exact ⟨rfl, fun y hy => by
          rcases List.mem_cons.mp hy with rfl | hy
          · exact hc
          · exact h2 y hy⟩
theorem join_same (S : List Nat) : ∀ ys : List (List Nat), joinV S ys = TL.joinL S ys
  | [] => rfl
  | [p] => rfl
  | p :: q :: r => by
    show p ++ (S ++ joinV S (q :: r)) = p ++ (S ++ TL.joinL S (q :: r))
    rw [join_same S (q :: r)]
theorem join_all {S : List Nat} (hS : S.all (fun c => decide (c < 1114112)) = true) : ∀ {ys : List (List Nat)}, (∀ y ∈ ys, y.all (fun c => decide (c < 1114112)) = true) → (joinV S ys).all (fun c => decide (c < 1114112)) = true
  | [], _ => rfl
  | [p], h => h p List.mem_cons_self
  | p :: q :: r, h => by
    show (p ++ (S ++ joinV S (q :: r))).all _ = true
    rw [List.all_append, List.all_append, h p List.mem_cons_self, hS, join_all hS fun y hy => h y (List.mem_cons_of_mem _ hy)]
    rfl
theorem join_len {S : List Nat} : ∀ {ys : List (List Nat)}, (joinV S ys).length ≤ (ys.map (·.length)).sum + ys.length * S.length
  | [] => Nat.zero_le _
  | [p] => by simp [joinV]
  | p :: q :: r => by
    have := join_len (S := S) (ys := q :: r)
    simp only [joinV, List.length_append, List.map_cons, List.sum_cons, List.length_cons, Nat.add_mul, Nat.one_mul] at this ⊢
    omega
theorem s_join {a b : Ex} {o y : Expr} {ap : Pos} (hl : ap.endLine = pos.line) (ho : notSuper o = true) (hs : notStar y = true) (ha : PE X o (tE X.K cf G.O a)) (hb : PE X y (tE X.K cf G.O b)) :
    PE X (.Call (.Attribute o "join" ap) [y] [] pos) (tE X.K cf G.O (.meth .join a b)) := by
  refine PE.weak (L2.pe_join ha hb (star_of hs _ _) (base_of ho) (by rw [hl]; simp)) fun σ H Q ⟨en, s, dr, R, rel, bh⟩ => ?_
  simp only [ev] at bh
  refine ⟨en, s, dr, R, rel, bh.bind fun x s1 ex k1 => ?_⟩
  intro dr1 R1 H1 g1 sb1 dk1 vx rx
  obtain ⟨y, s2, ey, k2⟩ := (k1 dr1 R1 H1 g1 sb1).nox
  have hx : ∃ cs ds, x = .str cs ∧ y = .lst ds := by
    cases ez : vmeth .join x y with
    | none =>
      have k3 := k2 dr1 R1 H1 (Grow.refl _ _ _) sb1
      rw [ez] at k3
      exact k3.elim
    | some z => cases x <;> cases y <;> first | exact ⟨_, _, rfl, rfl⟩ | simp [vmeth] at ez
  obtain ⟨cs, ds, rfl, rfl⟩ := hx
  obtain ⟨rfl, hcs, hl'⟩ := rx.sh.str
  refine ⟨⟨_, rfl⟩, en, s1, dr1, R1, rel.grow g1 sb1 dk1, ?_⟩
  rw [ey]
  intro dr2 R2 H2 g2 sb2 dk2 vy ry
  obtain ⟨z, ez, k3⟩ := (k2 dr2 R2 H2 g2 sb2).lift
  simp only [vmeth] at ez
  obtain ⟨ys, e1, e2⟩ := Option.bind_eq_some_iff.mp ez
  simp only [Option.ite_none_right_eq_some, Option.some.injEq] at e2
  obtain ⟨hm, rfl⟩ := e2
  obtain ⟨p, vs, rfl, q1, q3⟩ := ry.sh.lst sb2
  obtain ⟨rfl, hc⟩ := sh_strs e1 q3
  have lm : lim = 1000000 := rfl
  have e3 : (ys.map fun y => V.str ⟨y.toArray⟩) = (ys.map SX.S).map V.str := by rw [List.map_map]; rfl
  refine ⟨_, p, ys.map SX.S, rfl, rfl, .inl (by rw [← e3]; exact SqL.of q1), ?_, ?_⟩
  · have e4 : ((ys.map SX.S).map (·.length)) = ys.map (·.length) := by
      rw [List.map_map]
      exact List.map_congr_left fun y _ => by simp [Function.comp, SX.S, Str.length]
    have e5 : (SX.S cs).length = cs.length := by simp [SX.S, Str.length]
    rw [e4, List.length_map]
    show _ + _ * (SX.S cs).length ≤ _
    rw [e5]
    omega
  · have e6 : Txt.join (SX.S cs) (ys.map SX.S) = SX.S (joinV cs ys) := by rw [SX.join_S, join_same]
    show Q (.str (Txt.join (SX.S cs) (ys.map SX.S))) H2
    rw [e6]
    exact k3.ok (Grow.refl _ _ _) sb2 dk2 _ (Res.of rfl (.str _ (join_all hcs hc) (Nat.le_trans join_len hm)))
theorem s_meth (C : Cok X G cf k) {kk : MeK} {a b : Ex} {o y : Expr} {ap : Pos} (hl : ap.endLine = pos.line) (ho : notSuper o = true) (hs : notStar y = true) (ha : PE X o (tE X.K cf G.O a)) (hb : PE X y (tE X.K cf G.O b)) :
    PE X (.Call (.Attribute o (meName kk) ap) [y] [] pos) (tE X.K cf G.O (.meth kk a b)) := by
  have hu : X.A.units + 65 < cLine := by have := C.room.un; omega
  have hline : (ap.endLine == pos.line) = true := by rw [hl]; simp
  have hfew : ((backTo pos (starEach [y] X.env)).all (fun x => !x.1) && (backToKw pos (keywordEach [] X.env)).all (fun x => x.1.isSome) && decide ([y].length + ([] : List Keyword).length + (if ([] : List Keyword).isEmpty then 0 else 1) < 30)) = true := by
    rw [star_of hs]
    rfl
  have W : (kk = .index ∨ kk = .count) → ∀ {r : V → List V → Hp → VK → Prop}, MethOk X.K (vmeth kk) r → ∀ σ H Q, tE X.K cf G.O (.meth kk a b) σ H Q → tBM X.K "list" r (tE X.K cf G.O a) (tCons (tE X.K cf G.O b) tNil) σ H Q := by
    intro hk r ok σ H Q ⟨en, s, dr, R, rel, bh⟩
    simp only [ev] at bh
    refine ⟨en, s, dr, R, rel, bh.bind fun x s1 ex k1 => ?_⟩
    intro dr1 R1 H1 g1 sb1 dk1 vx rx
    obtain ⟨y, s2, ey, k2⟩ := (k1 dr1 R1 H1 g1 sb1).nox
    have hx : ∃ ds, x = .lst ds := by
      cases ez : vmeth kk x y with
      | none =>
        have k3 := k2 dr1 R1 H1 (Grow.refl _ _ _) sb1
        rw [ez] at k3
        exact k3.elim
      | some z =>
        rcases hk with rfl | rfl <;> cases x <;> first | exact ⟨_, rfl⟩ | simp [vmeth] at ez
    obtain ⟨ds, rfl⟩ := hx
    obtain ⟨p, xs, rfl, q1, q3⟩ := rx.sh.lst sb1
    refine ⟨.inl ⟨rfl, _, SqL.of q1⟩, en, s1, dr1, R1, rel.grow g1 sb1 dk1, ?_⟩
    rw [ey]
    intro dr2 R2 H2 g2 sb2 dk2 vy ry
    obtain ⟨z, ez, k3⟩ := (k2 dr2 R2 H2 g2 sb2).lift
    exact ok dr2 R2 H2 s2 _ vy _ y z Q sb2 dk2 (rx.grow g2).sh ry.sh ez fun dr' R' H' g sb dk v rv => k3.ok g sb dk v (Res.of rfl rv)
  cases kk with
  | index => exact PE.weak (pe_bm PySem.F.plainAttrs_list PySem.F.slot_list_index PySem.F.type_list_index (mt_indexD hu) ha (pa_cons hb pa_nil (star_of hs _ _)) (base_of ho) hfew hline (star_of hs _ _) rfl) (W (.inl rfl) (ok_index X.K))
  | count => exact PE.weak (pe_bm PySem.F.plainAttrs_list PySem.F.slot_list_count PySem.F.type_list_count (mt_countD hu) ha (pa_cons hb pa_nil (star_of hs _ _)) (base_of ho) hfew hline (star_of hs _ _) rfl) (W (.inr rfl) (ok_count X.K))
  | join => exact s_join hl ho hs ha hb
end
/-! ### sorted(set(t)) -/
theorem mem_insI {x y : Int} : ∀ {l : List Int}, y ∈ insI x l ↔ y = x ∨ y ∈ l
  | [] => by simp [insI]
  | z :: l => by
    unfold insI
    split
    · simp
    · simp only [List.mem_cons, mem_insI (l := l)]
      constructor
      · rintro (h | h | h) <;> simp [h]
      · rintro (h | h | h) <;> simp [h]
theorem mem_sortI {y : Int} : ∀ {l : List Int}, y ∈ sortI l ↔ y ∈ l
  | [] => by simp [sortI]
  | z :: l => by simp [sortI, mem_insI, mem_sortI (l := l)]
theorem mem_dedupI {y : Int} : ∀ {l : List Int}, y ∈ dedupI l ↔ y ∈ l
  | [] => by simp [dedupI]
  | z :: l => by
    unfold dedupI
    split
    · rename_i h
      rw [mem_dedupI]
      constructor
      · exact fun q => List.mem_cons_of_mem _ q
      · intro q
        rcases List.mem_cons.mp q with rfl | q
        · exact h
        · exact q
    · simp [mem_dedupI (l := l)]
theorem insI_lt {x : Int} : ∀ {l : List Int}, l.Pairwise (· < ·) → x ∉ l → (insI x l).Pairwise (· < ·)
  | [], _, _ => by simp [insI]
  | z :: l, h, n => by
    obtain ⟨h1, h2⟩ := List.pairwise_cons.mp h
    have nz : x ≠ z := fun e => n (e ▸ List.mem_cons_self)
    unfold insI
    split
    · rename_i c
      refine List.pairwise_cons.mpr ⟨fun y hy => ?_, h⟩
      rcases List.mem_cons.mp hy with rfl | hy
      · omega
      · have := h1 y hy; omega
    · rename_i c
      refine List.pairwise_cons.mpr ⟨fun y hy => ?_, insI_lt h2 fun q => n (List.mem_cons_of_mem _ q)⟩
      rcases mem_insI.mp hy with rfl | hy
      · omega
      · exact h1 y hy
theorem nodup_dedupI : ∀ {l : List Int}, (dedupI l).Nodup
  | [] => by simp [dedupI]
  | z :: l => by
    unfold dedupI
    split
    · exact nodup_dedupI
    · rename_i h
      exact List.nodup_cons.mpr ⟨fun q => h (mem_dedupI.mp q), nodup_dedupI⟩
theorem sortI_lt : ∀ {l : List Int}, l.Nodup → (sortI l).Pairwise (· < ·)
  | [], _ => by simp [sortI]
  | z :: l, h => by
    obtain ⟨h1, h2⟩ := List.nodup_cons.mp h
    exact insI_lt (sortI_lt h2) fun q => h1 (mem_sortI.mp q)
theorem lt_unique : ∀ {l m : List Int}, l.Pairwise (· < ·) → m.Pairwise (· < ·) → (∀ k, k ∈ l ↔ k ∈ m) → l = m
  | [], [], _, _, _ => rfl
  | [], y :: m, _, _, h => absurd ((h y).mpr List.mem_cons_self) (by simp)
  | x :: l, [], _, _, h => absurd ((h x).mp List.mem_cons_self) (by simp)
  | x :: l, y :: m, hl, hm, h => by
    obtain ⟨a1, a2⟩ := List.pairwise_cons.mp hl
    obtain ⟨b1, b2⟩ := List.pairwise_cons.mp hm
    have e : x = y := by
      have p1 := (h x).mp List.mem_cons_self
      have p2 := (h y).mpr List.mem_cons_self
      rcases List.mem_cons.mp p1 with p1 | p1
      · exact p1
      · rcases List.mem_cons.mp p2 with p2 | p2
        · exact p2.symm
        · have := b1 x p1; have := a1 y p2; omega
    subst e
    rw [lt_unique a2 b2 fun k => ?_]
    constructor
    · intro q
      rcases List.mem_cons.mp ((h k).mp (List.mem_cons_of_mem _ q)) with e | q'
      · have := a1 k q; omega
      · exact q'
    · intro q
      rcases List.mem_cons.mp ((h k).mpr (List.mem_cons_of_mem _ q)) with e | q'
      · have := b1 k q; omega
      · exact q'
theorem length_insI {x : Int} : ∀ {l : List Int}, (insI x l).length = l.length + 1
  | [] => rfl
  | z :: l => by
    unfold insI
    split
    · rfl
    · simp [length_insI (l := l)]
theorem length_sortI : ∀ {l : List Int}, (sortI l).length = l.length
  | [] => rfl
  | z :: l => by simp [sortI, length_insI, length_sortI (l := l)]
theorem length_dedupI : ∀ {l : List Int}, (dedupI l).length ≤ l.length
  | [] => Nat.le_refl _
  | z :: l => by
    unfold dedupI
    split
    · exact Nat.le_succ_of_le length_dedupI
    · exact Nat.succ_le_succ length_dedupI
theorem isInts_all : ∀ {ds : List Val} {ns : List Int}, isInts ds = some ns → ds = ns.map Val.int := by
  intro ds
  induction ds with
  | nil => intro ns h; simp [isInts] at h; subst h; rfl
  | cons d ds ih =>
    intro ns h
    cases d <;> simp [isInts] at h
    obtain ⟨m, h1, rfl⟩ := h
    rw [ih h1]
    rfl
theorem mem_dedupT {y : List Int} : ∀ {l : List (List Int)}, y ∈ dedupT l ↔ y ∈ l
  | [] => by simp [dedupT]
  | z :: l => by
    unfold dedupT
    split
    · rename_i h
      rw [mem_dedupT]
      constructor
      · exact fun q => List.mem_cons_of_mem _ q
      · intro q
        rcases List.mem_cons.mp q with rfl | q
        · exact h
        · exact q
    · simp [mem_dedupT (l := l)]
theorem nodup_dedupT : ∀ {l : List (List Int)}, (dedupT l).Nodup
  | [] => by simp [dedupT]
  | z :: l => by
    unfold dedupT
    split
    · exact nodup_dedupT
    · rename_i h
      exact List.nodup_cons.mpr ⟨fun q => h (mem_dedupT.mp q), nodup_dedupT⟩
theorem nodup_le {α : Type} [DecidableEq α] : ∀ {l m : List α}, l.Nodup → (∀ x ∈ l, x ∈ m) → l.length ≤ m.length
  | [], m, _, _ => Nat.zero_le _
  | x :: l, m, h, s => by
    obtain ⟨h1, h2⟩ := List.nodup_cons.mp h
    have hm : x ∈ m := s x List.mem_cons_self
    have := nodup_le (l := l) (m := m.erase x) h2 fun y hy => (List.mem_erase_of_ne (fun (e : y = x) => h1 (by rw [← e]; exact hy))).mpr (s y (List.mem_cons_of_mem _ hy))
    rw [List.length_erase_of_mem hm] at this
    have : 0 < m.length := List.length_pos_of_mem hm
    simp only [List.length_cons]
    omega
theorem same_lenT {l m : List (List Int)} (hl : l.Nodup) (hm : m.Nodup) (h : ∀ k, k ∈ l ↔ k ∈ m) : l.length = m.length := Nat.le_antisymm (nodup_le hl fun x hx => (h x).mp hx) (nodup_le hm fun x hx => (h x).mpr hx)
theorem rp_tups {K : PySem.W.Frag} {dr : Dr} {R H : Hp} (sb : Sub R H) : ∀ {ds : List Val} {ts : List (List Int)} {vs : List V}, isTups ds = some ts → RpAll K dr R vs ds → ∃ ks : List (Addr × List Int), vs = ks.map (fun p => V.ref p.1) ∧ ks.map (fun p => p.2) = ts ∧ ∀ p ∈ ks, SqT K H p.1 (p.2.map V.int)
  | [], ts, _, h, r => by
    cases r
    simp [isTups] at h
    subst h
    exact ⟨[], rfl, rfl, fun p hp => nomatch hp⟩
  | d :: ds, ts, _, h, r => by
    cases r with
    | cons r rs =>
      unfold isTups at h
      obtain ⟨n, h1, h⟩ := Option.bind_eq_some_iff.mp h
      obtain ⟨ns, h2, h⟩ := Option.bind_eq_some_iff.mp h
      cases h
      obtain ⟨ks, e1, e2, e3⟩ := rp_tups sb h2 rs
      cases d <;> simp [intsOf] at h1
      cases r with
      | tup hr hs hl =>
        rename_i a xs
        have ex := RpAll.ints hs h1
        subst ex
        refine ⟨(a, n) :: ks, by rw [e1]; rfl, by rw [← e2]; rfl, fun p hp => ?_⟩
        rcases List.mem_cons.mp hp with rfl | hp
        · exact SqT.of (sb _ _ hr)
        · exact e3 p hp
/-! ### sorted(set(tuples)) -/
theorem code_1000 : ∀ (l : List Int), TS.code 1000 l = codeT l
  | [] => rfl
  | d :: r => by
    show d * 1000 ^ r.length + TS.code 1000 r = d * 1000 ^ r.length + codeT r
    rw [code_1000 r]
theorem code_bd : ∀ {l : List Int}, (∀ i ∈ l, 0 ≤ i ∧ i < 1000) → 0 ≤ codeT l ∧ codeT l < 1000 ^ l.length
  | [], _ => ⟨Int.le_refl _, by decide⟩
  | d :: r, h => by
    obtain ⟨a, b⟩ := code_bd (l := r) fun i hi => h i (List.mem_cons_of_mem _ hi)
    obtain ⟨c, e⟩ := h d List.mem_cons_self
    simp only [codeT, List.length_cons, Int.pow_succ]
    generalize (1000 : Int) ^ r.length = z at a b ⊢
    have m : d * z ≤ 999 * z := Int.mul_le_mul_of_nonneg_right (by omega) (by omega)
    have n : 0 ≤ d * z := Int.mul_nonneg c (by omega)
    generalize d * z = u at m n ⊢
    exact ⟨by omega, by omega⟩
theorem code_inj : ∀ {l m : List Int}, l.length = m.length → (∀ i ∈ l, 0 ≤ i ∧ i < 1000) → (∀ i ∈ m, 0 ≤ i ∧ i < 1000) → codeT l = codeT m → l = m
  | [], [], _, _, _, _ => rfl
  | [], _ :: _, h, _, _, _ => by simp at h
  | _ :: _, [], h, _, _, _ => by simp at h
  | d :: r, d' :: r', h, hl, hm, e => by
    have h' : r.length = r'.length := by simpa using h
    obtain ⟨a, b⟩ := code_bd (l := r) fun i hi => hl i (List.mem_cons_of_mem _ hi)
    obtain ⟨a', b'⟩ := code_bd (l := r') fun i hi => hm i (List.mem_cons_of_mem _ hi)
    simp only [codeT, h'] at e b
    generalize hz : (1000 : Int) ^ r'.length = z at e b b'
    have zp : 0 < z := by omega
    have ed : d = d' := by
      have e1 : (d * z + codeT r) / z = d := by rw [Int.add_comm, Int.add_mul_ediv_right _ _ (by omega), Int.ediv_eq_zero_of_lt a b]; omega
      have e2 : (d' * z + codeT r') / z = d' := by rw [Int.add_comm, Int.add_mul_ediv_right _ _ (by omega), Int.ediv_eq_zero_of_lt a' b']; omega
      rw [← e1, ← e2, e]
    subst ed
    rw [code_inj h' (fun i hi => hl i (List.mem_cons_of_mem _ hi)) (fun i hi => hm i (List.mem_cons_of_mem _ hi)) (by omega)]
theorem insT_perm {x : List Int} : ∀ {l : List (List Int)}, (insT x l).Perm (x :: l)
  | [] => .refl _
  | y :: l => by
    unfold insT
    split
    · exact .refl _
    · exact ((insT_perm (l := l)).cons y).trans (List.Perm.swap _ _ _)
theorem sortTs_perm : ∀ {l : List (List Int)}, (sortTs l).Perm l
  | [] => .refl _
  | x :: l => insT_perm.trans ((sortTs_perm (l := l)).cons x)
theorem insT_sorted {x : List Int} : ∀ {l : List (List Int)}, l.Pairwise (fun a b => codeT a ≤ codeT b) → (insT x l).Pairwise fun a b => codeT a ≤ codeT b
  | [], _ => List.pairwise_singleton _ _
  | y :: l, h => by
    obtain ⟨h1, h2⟩ := List.pairwise_cons.mp h
    unfold insT
    split
    · rename_i q
      exact List.pairwise_cons.mpr ⟨fun z hz => by
        rcases List.mem_cons.mp hz with rfl | hz
        · exact q
        · exact Int.le_trans q (h1 z hz), h⟩
    · rename_i q
      refine List.pairwise_cons.mpr ⟨fun z hz => ?_, insT_sorted h2⟩
      rcases List.mem_cons.mp (insT_perm.mem_iff.mp hz) with rfl | hz
      · omega
      · exact h1 z hz
theorem sortTs_sorted : ∀ {l : List (List Int)}, (sortTs l).Pairwise fun a b => codeT a ≤ codeT b
  | [] => .nil
  | x :: l => insT_sorted (sortTs_sorted (l := l))
theorem okTs_of {ts : List (List Int)} (h : okTs ts = true) : ∀ t ∈ ts, 1 ≤ t.length ∧ t.length = (ts.headD []).length ∧ ∀ i ∈ t, 0 ≤ i ∧ i < 1000 := by
  intro t ht
  have q := List.all_eq_true.mp h t ht
  simp only [Bool.and_eq_true, decide_eq_true_eq, List.all_eq_true] at q
  exact ⟨q.1.1, q.1.2, q.2⟩
theorem sortTs_uniq {ts m : List (List Int)} (ok : okTs ts = true) (nd : m.Nodup) (mem : ∀ x, x ∈ m ↔ x ∈ ts) (pw : m.Pairwise fun a b => codeT a ≤ codeT b) : m = sortTs (dedupT ts) := by
  have O := okTs_of ok
  have inj : ∀ a ∈ ts, ∀ b ∈ ts, codeT a = codeT b → a = b := fun a ha b hb e => code_inj ((O a ha).2.1.trans (O b hb).2.1.symm) (O a ha).2.2 (O b hb).2.2 e
  have mem' : ∀ x, x ∈ sortTs (dedupT ts) ↔ x ∈ ts := fun x => by rw [sortTs_perm.mem_iff, mem_dedupT]
  have st : ∀ l : List (List Int), l.Nodup → (∀ x ∈ l, x ∈ ts) → l.Pairwise (fun a b => codeT a ≤ codeT b) → (l.map codeT).Pairwise (· < ·) := fun l h1 h2 h3 => by
    rw [List.pairwise_map]
    refine (List.Pairwise.and h1 h3).imp_of_mem fun {a b} ha hb q => ?_
    have n1 : codeT a ≠ codeT b := fun e => q.1 (inj a (h2 a ha) b (h2 b hb) e)
    have n2 : codeT a ≤ codeT b := q.2
    show codeT a < codeT b
    omega
  have e := lt_unique (st m nd (fun x hx => (mem x).mp hx) pw) (st (sortTs (dedupT ts)) (sortTs_perm.nodup_iff.mpr nodup_dedupT) (fun x hx => (mem' x).mp hx) sortTs_sorted) fun k => by
    rw [List.mem_map, List.mem_map]
    constructor
    · rintro ⟨x, hx, rfl⟩; exact ⟨x, (mem' x).mpr ((mem x).mp hx), rfl⟩
    · rintro ⟨x, hx, rfl⟩; exact ⟨x, (mem x).mpr ((mem' x).mp hx), rfl⟩
  have fin : ∀ (l l' : List (List Int)), (∀ x ∈ l, x ∈ ts) → (∀ x ∈ l', x ∈ ts) → l.map codeT = l'.map codeT → l = l' := fun l => by
    induction l with
    | nil => intro l' _ _ e; cases l' with | nil => rfl | cons _ _ => simp at e
    | cons a l ih =>
      intro l' h h' e
      cases l' with
      | nil => simp at e
      | cons b l' =>
        simp only [List.map_cons, List.cons.injEq] at e
        rw [inj a (h a List.mem_cons_self) b (h' b List.mem_cons_self) e.1, ih l' (fun x hx => h x (List.mem_cons_of_mem _ hx)) (fun x hx => h' x (List.mem_cons_of_mem _ hx)) e.2]
  exact fin _ _ (fun x hx => (mem x).mp hx) (fun x hx => (mem' x).mp hx) e
theorem rp_tupsR {K : PySem.W.Frag} {dr : Dr} {R H : Hp} (sb : Sub R H) : ∀ {ds : List Val} {ts : List (List Int)} {vs : List V}, isTups ds = some ts → RpAll K dr R vs ds → ∃ ks : List (Addr × List Int), vs = ks.map (fun p => V.ref p.1) ∧ ks.map (fun p => p.2) = ts ∧ (∀ p ∈ ks, SqT K H p.1 (p.2.map V.int)) ∧ ∀ p ∈ ks, Rp K dr R (.ref p.1) (kT p.2)
  | [], ts, _, h, r => by
    cases r
    simp [isTups] at h
    subst h
    exact ⟨[], rfl, rfl, fun p hp => (nomatch hp), fun p hp => nomatch hp⟩
  | d :: ds, ts, _, h, r => by
    cases r with
    | cons r rs =>
      unfold isTups at h
      obtain ⟨n, h1, h⟩ := Option.bind_eq_some_iff.mp h
      obtain ⟨ns, h2, h⟩ := Option.bind_eq_some_iff.mp h
      cases h
      obtain ⟨ks, e1, e2, e3, e4⟩ := rp_tupsR sb h2 rs
      cases d <;> simp [intsOf] at h1
      rename_i ys
      have ey := isInts_all h1
      subst ey
      have r0 := r
      cases r with
      | tup hr hs hl =>
        rename_i a xs
        have ex := RpAll.ints hs h1
        subst ex
        refine ⟨(a, n) :: ks, by rw [e1]; rfl, by rw [← e2]; rfl, fun p hp => ?_, fun p hp => ?_⟩
        · rcases List.mem_cons.mp hp with rfl | hp
          · exact SqT.of (sb _ _ hr)
          · exact e3 p hp
        · rcases List.mem_cons.mp hp with rfl | hp
          · exact r0
          · exact e4 p hp
theorem rp_refs {K : PySem.W.Frag} {dr : Dr} {R : Hp} : ∀ (L : List (Addr × List Int)), (∀ p ∈ L, Rp K dr R (.ref p.1) (kT p.2)) → RpAll K dr R (L.map fun q => V.ref q.1) ((L.map (·.2)).map kT)
  | [], _ => .nil
  | p :: L, h => .cons (h p List.mem_cons_self) (rp_refs L fun q hq => h q (List.mem_cons_of_mem _ hq))
section
variable {X : Cx} {G : GC} {cf : CF} {k : Nat} {pos : Pos}
def tSSet (K : PySem.W.Frag) (ta : TE) : TE := fun σ H Q => ta σ H fun x H1 => ∃ l, x = .ref l ∧ ((∃ ns : List Int, (SqT K H1 l (ns.map V.int) ∨ SqL K H1 l (ns.map V.int)) ∧ ns.length < 64 ∧
  ∀ (ms : List Int) (p : Addr), ms.Pairwise (· < ·) → (∀ k : Int, k ∈ ms ↔ k ∈ ns) → H1 p = none → Q (.ref p) (upd H1 p (.lst (ms.map V.int)))) ∨
  ∃ (ks : List (Addr × List Int)) (d : Nat), SqL K H1 l (ks.map fun p => V.ref p.1) ∧ (∀ p ∈ ks, SqT K H1 p.1 (p.2.map V.int)) ∧ (∀ L : List (Addr × List Int), (L.map (·.2)).Nodup → (∀ p ∈ L, p ∈ ks) → L.length + 1 < 64) ∧ 1 ≤ d ∧ (∀ p ∈ ks, p.2.length = d ∧ TS.Bd 1000 p.2) ∧
    ∀ (L' : List (Addr × List Int)) (p : Addr), (∀ q ∈ L', q ∈ ks) → (∀ q ∈ ks, q.2 ∈ L'.map (·.2)) → (L'.map (·.2)).Nodup → L'.Pairwise (fun q r => TS.code 1000 q.2 ≤ TS.code 1000 r.2) → H1 p = none → Q (.ref p) (upd H1 p (.lst (L'.map fun q => V.ref q.1))))
theorem pe_sset {a : Expr} {ta : TE} {p p2 q : Pos} (hc : X.calm = true) (hu : X.A.units + 64 < cLine) (hg : Gl X "sorted") (hm : X.mg "sorted" = none) (hg2 : Gl X "set") (hm2 : X.mg "set" = none) (ha : PE X a ta)
    (na : starEach [a] X.env = (false, eval a X.env) :: starEach [] X.env) : PE X (.Call (.Name "sorted" p) [.Call (.Name "set" p2) [a] [] q] [] pos) (tSSet X.K ta) := by
  refine ⟨fun pins s σ H Q I h => ?_⟩
  refine Call_ (ld_blt I hg hm (bi_boot .sorted) ?_)
  refine PyProof.Rows.callWith_builtin1 (PyProof.Rows.args_cons ?_ rfl) rfl rfl
  refine Call_ (ld_blt I hg2 hm2 PyProof.Rows.boot_set ?_)
  refine PyProof.Rows.callWith_type1 (PyProof.Rows.args_cons (thn (ha.run pins s σ H _ I h) fun v s1 ⟨x, H1, I1, r1, q1⟩ => PyProof.Rows.args_nil ?_) na) na rfl
  obtain ⟨l, rfl, q1⟩ := q1
  cases r1
  have hd := I1.ok.hd hc
  rcases q1 with ⟨ns, hq, h1, q1⟩ | ⟨ks, d, hl, hk, few, hd1, hB, q1⟩
  case inr =>
    obtain ⟨its, rv, pl, hz⟩ := I1.list hl
    refine set_lstT (P := X.prog) (w := X.w) ks hd pl.isList (by simpa using refs_of_vals rv) (fun p hp => I1.isT (hk p hp)) few (by omega) fun h' tk L es ep t R g k => ?_
    refine PyProof.Rows.args_nil ?_
    have I2 : Inv X pins σ H1 { s1 with heap := h', toks := tk } := I1.kept fun b o e => k b o e
    have sub : ∀ p ∈ L, p ∈ ks := fun p hp => List.mem_of_mem_take (g.sub p hp)
    generalize es2 : ({ s1 with heap := h', toks := tk } : Shared) = s2 at I2 ⊢
    have R2 : SetTR X.prog X.w s2.heap s1.heap.objs.size L es ep t := by rw [← es2]; exact R
    refine sorted_setT R2 hd hd1 (fun p hp => hB p (sub p hp)) fun s' p out c L' k2 g2 o hp hg' hout pm pw => ?_
    have hfew : L'.length < 64 := by rw [pm.length_eq]; exact R.few
    have hlen : (L'.map fun q => V.ref q.1).length ≤ sizeLine := by rw [List.length_map, sizeLine_eq]; omega
    have hn : H1 p = none := I2.hok.fresh hp
    have hv : Vals (L'.map fun q => V.ref q.1) out.toList := by rw [hout]; exact vals_of_refs L'
    have J : Inv X pins σ (upd H1 p (.lst (L'.map fun q => V.ref q.1))) { s2 with heap := s'.heap, gens := s'.gens, drawn := s'.drawn, toks := s'.toks } :=
      I2.call (ch := []) (Un.laid k2 hp hn) (I2.hok.laid k2 hp ⟨hlen, out.toList, c, hv, hg'⟩) (by rw [g2]; exact I2.bare) (fun _ z => nomatch z)
    have e : s' = { s2 with heap := s'.heap, gens := s'.gens, drawn := s'.drawn, toks := s'.toks } := by
      cases s'
      cases s2
      cases o
      rfl
    rw [e]
    refine ⟨.ref p, _, J, rfl, q1 L' p (fun q hq => sub q (pm.mem_iff.mp hq)) (fun q hq => ?_) ((pm.map (·.2)).nodup_iff.mpr R.nd) pw hn⟩
    exact (pm.map (·.2)).mem_iff.mpr (g.all q (by rw [List.take_length]; exact hq))
  rcases hq with hq | hq
  obtain ⟨its, rv, pt, hz⟩ := I1.tuple hq
  refine call_set_tupI ns hd (show s1.heap.IsTuple l its.toArray from pt) (ints_of_vals rv) (by unfold scanBound; omega) fun h' tk c R1 hcn kk => ?_
  rotate_left
  obtain ⟨its, rv, pl, hz⟩ := I1.list hq
  refine set_lstI ns hd pl.isList (ints_of_vals rv) (by unfold scanBound; omega) fun h' tk c R1 hcn kk => ?_
  all_goals
    refine PyProof.Rows.args_nil ?_
    have I2 : Inv X pins σ H1 { s1 with heap := h', toks := tk } := I1.kept fun b o e => kk b o e
    generalize es2 : ({ s1 with heap := h', toks := tk } : Shared) = s2 at I2 ⊢
    have R2 : SetR X.w s2.heap s1.heap.objs.size (fun j => decide (j ∈ ns)) c := by rw [← es2]; exact R1
    refine sorted_set R2 hd (by omega) fun s' p out c' ms k2 g o hp hg' hi' hs hm' hl => ?_
    have hlen : (ms.map V.int).length ≤ sizeLine := by rw [List.length_map, hl, sizeLine_eq]; omega
    have hn : H1 p = none := I2.hok.fresh hp
    have J : Inv X pins σ (upd H1 p (.lst (ms.map V.int))) { s2 with heap := s'.heap, gens := s'.gens, drawn := s'.drawn, toks := s'.toks } :=
      I2.call (ch := []) (Un.laid k2 hp hn) (I2.hok.laid k2 hp ⟨hlen, out.toList, c', vals_of_ints hi', hg'⟩) (by rw [g]; exact I2.bare) (fun _ z => nomatch z)
    have e : s' = { s2 with heap := s'.heap, gens := s'.gens, drawn := s'.drawn, toks := s'.toks } := by
      cases s'
      cases s2
      cases o
      rfl
    rw [e]
    exact ⟨.ref p, _, J, rfl, q1 ms p hs (fun j => by rw [hm' j, decide_eq_true_eq]) hn⟩
theorem rp_ints {K : PySem.W.Frag} {dr : Dr} {R : Hp} : ∀ (ns : List Int), RpAll K dr R (ns.map V.int) (ns.map Val.int)
  | [] => .nil
  | n :: ns => .cons (.int n) (rp_ints ns)
theorem rp_ints_inv {K : PySem.W.Frag} {dr : Dr} {R : Hp} : ∀ {ns : List Int} {vs : List V}, RpAll K dr R vs (ns.map Val.int) → vs = ns.map V.int
  | [], _, .nil => rfl
  | n :: ns, _, .cons r t => by cases r; rw [rp_ints_inv t]; rfl
theorem s_sset (C : Cok X G cf k) {b : Ex} {p p2 q : Pos} {z : Expr} (hg : Gl X "sorted") (hm : X.mg "sorted" = none) (hg2 : Gl X "set") (hm2 : X.mg "set" = none) (hs : notStar z = true) (hb : PE X z (tE X.K cf G.O b)) :
    PE X (.Call (.Name "sorted" p) [.Call (.Name "set" p2) [z] [] q] [] pos) (tE X.K cf G.O (.bi .sortedSet (.cons b .nil))) := by
  refine PE.weak (pe_sset C.calm C.room.units hg hm hg2 hm2 hb (star_of hs _ _)) fun σ H Q ⟨en, s, dr, R, rel, bh⟩ => ?_
  simp only [ev, evs] at bh
  refine ⟨en, s, dr, R, rel, ?_⟩
  cases eb : ev cf b en s with
  | exc c s0 => rw [eb] at bh; exact bh
  | bad => rw [eb] at bh; exact bh
  | ok d s0 =>
    rw [eb] at bh
    simp only [Out.bind_ok] at bh
    intro dr1 R1 H1 g1 sb1 dk1 vx rx
    obtain ⟨w, ew, k2⟩ := (Beh.trans bh g1).lift
    cases d with
    | tup xs =>
      simp only [vbi] at ew
      obtain ⟨ns, e1, e2⟩ := Option.bind_eq_some_iff.mp ew
      have en := isInts_all e1
      subst en
      by_cases c : ns.length < 64
      · rw [if_pos c] at e2
        cases e2
        obtain ⟨a, vs, rfl, ha, hr, rp⟩ := rx.sh.tup sb1
        have ev := rp_ints_inv rp
        subst ev
        refine ⟨a, rfl, .inl ⟨ns, .inl (SqT.of ha), c, fun ms p hp hmem hn => ?_⟩⟩
        have e : sortI (dedupI ns) = ms := lt_unique (sortI_lt nodup_dedupI) hp fun k => by rw [mem_sortI, mem_dedupI, hmem k]
        subst e
        have ff : Fin X.K dr1 R1 H1 s0 (.lst ((sortI (dedupI ns)).map .int)) Q := fun dr' R' H' g sb dk v rv => k2.ok g sb dk v (Res.of rfl rv)
        exact ff.newL sb1 dk1 (rp_ints _) (by rw [List.length_map, length_sortI]; have := @length_dedupI ns; have : lim = 1000000 := rfl; omega) p hn
      · rw [if_neg c] at e2
        cases e2
    | lst xs =>
      simp only [vbi] at ew
      cases e1 : isInts xs with
      | some ns =>
        rw [e1] at ew
        simp only at ew
        have en := isInts_all e1
        subst en
        by_cases c : ns.length < 64
        · rw [if_pos c] at ew
          cases ew
          obtain ⟨a, vs, rfl, ha, rp⟩ := rx.sh.lst sb1
          have ev := rp_ints_inv rp
          subst ev
          refine ⟨a, rfl, .inl ⟨ns, .inr (SqL.of ha), c, fun ms p hp hmem hn => ?_⟩⟩
          have e : sortI (dedupI ns) = ms := lt_unique (sortI_lt nodup_dedupI) hp fun k => by rw [mem_sortI, mem_dedupI, hmem k]
          subst e
          have ff : Fin X.K dr1 R1 H1 s0 (.lst ((sortI (dedupI ns)).map .int)) Q := fun dr' R' H' g sb dk v rv => k2.ok g sb dk v (Res.of rfl rv)
          exact ff.newL sb1 dk1 (rp_ints _) (by rw [List.length_map, length_sortI]; have := @length_dedupI ns; have : lim = 1000000 := rfl; omega) p hn
        · rw [if_neg c] at ew
          cases ew
      | none =>
        rw [e1] at ew
        simp only at ew
        obtain ⟨ts, e2, e3⟩ := Option.bind_eq_some_iff.mp ew
        by_cases c : (okTs ts && decide ((dedupT ts).length < 60)) = true
        · rw [if_pos c] at e3
          cases e3
          simp only [Bool.and_eq_true, decide_eq_true_eq] at c
          obtain ⟨ok, c⟩ := c
          have O := okTs_of ok
          obtain ⟨a, vs, rfl, ha, rp⟩ := rx.sh.lst sb1
          obtain ⟨ks, rfl, rfl, hk, hr⟩ := rp_tupsR sb1 e2 rp
          have mem : ∀ q ∈ ks, q.2 ∈ ks.map fun p => p.2 := fun q hq => List.mem_map.mpr ⟨q, hq, rfl⟩
          have few : ∀ L : List (Addr × List Int), (L.map (·.2)).Nodup → (∀ p ∈ L, p ∈ ks) → L.length + 1 < 64 := fun L nd sub => by
            have := nodup_le nd (m := dedupT (ks.map fun p => p.2)) fun x hx => by
              obtain ⟨q, hq, rfl⟩ := List.mem_map.mp hx
              exact mem_dedupT.mpr (mem q (sub q hq))
            rw [List.length_map] at this
            omega
          have hne : 1 ≤ ((ks.map fun p => p.2).headD []).length := by
            cases ks with
            | nil =>
              cases xs with
              | nil => simp [isInts] at e1
              | cons x xs => have := rp.len; simp at this
            | cons q ks => exact (O _ (mem q List.mem_cons_self)).1
          refine ⟨a, rfl, .inr ⟨ks, _, SqL.of ha, hk, few, hne, fun q hq => ⟨(O _ (mem q hq)).2.1, (O _ (mem q hq)).2.2⟩, fun L' p sub cov nd pw hn => ?_⟩⟩
          have e : L'.map (·.2) = sortTs (dedupT (ks.map fun p => p.2)) := sortTs_uniq ok nd (fun x => by
            constructor
            · intro hx
              obtain ⟨q, hq, rfl⟩ := List.mem_map.mp hx
              exact mem q (sub q hq)
            · intro hx
              obtain ⟨q, hq, rfl⟩ := List.mem_map.mp hx
              exact cov q hq) (by
            rw [List.pairwise_map]
            refine pw.imp fun {a b} h => ?_
            rw [code_1000, code_1000] at h
            exact h)
          have rr := rp_refs (K := X.K) (dr := dr1) (R := R1) L' fun q hq => hr q (sub q hq)
          rw [e] at rr
          have ff : Fin X.K dr1 R1 H1 s0 (.lst ((sortTs (dedupT (ks.map fun p => p.2))).map kT)) Q := fun dr' R' H' g sb dk v rv => k2.ok g sb dk v (Res.of rfl rv)
          exact ff.newL sb1 dk1 rr (by rw [List.length_map, sortTs_perm.length_eq]; have : lim = 1000000 := rfl; omega) p hn
        · rw [if_neg c] at e3
          cases e3
    | _ => simp [vbi] at ew
/-! ### len(set(x)) -/
theorem same_len {l m : List Int} (hl : l.Nodup) (hm : m.Nodup) (h : ∀ k, k ∈ l ↔ k ∈ m) : l.length = m.length := by
  have e : sortI l = sortI m := lt_unique (sortI_lt hl) (sortI_lt hm) fun k => by rw [mem_sortI, mem_sortI, h k]
  rw [← @length_sortI l, e, length_sortI]
theorem nodup_step {acc : List Int} {x : Int} (h : acc.Nodup) : (step_dedup acc x).Nodup := by
  unfold step_dedup
  split
  · exact h
  · rename_i hx
    rw [List.nodup_append]
    refine ⟨h, by simp, fun a ha b hb => ?_⟩
    simp only [List.mem_singleton] at hb
    subst hb
    intro e
    subst e
    exact hx (by simpa using ha)
theorem nodup_firstMet (val : Nat → Int) : ∀ i, (PyProof.Rows.firstMet val i).Nodup
  | 0 => List.nodup_nil
  | i + 1 => by
    rw [PyProof.Rows.firstMet_succ]
    exact nodup_step (nodup_firstMet val i)
def tLSet (K : PySem.W.Frag) (ta : TE) : TE := fun σ H Q => ta σ H fun x H1 => ∃ l, x = .ref l ∧ ((∃ ns : List Int, ((SqT K H1 l (ns.map V.int) ∧ ns.length < 64) ∨ (SqL K H1 l (ns.map V.int) ∧ ns.length < 1000)) ∧ Q (.int ((dedupI ns).length : Nat)) H1) ∨
  ∃ ks : List (Addr × List Int), SqL K H1 l (ks.map fun p => V.ref p.1) ∧ (∀ p ∈ ks, SqT K H1 p.1 (p.2.map V.int)) ∧ ks.length < 64 ∧ Q (.int ((dedupT (ks.map fun p => p.2)).length : Nat)) H1)
theorem pe_lset {a : Expr} {ta : TE} {p p2 q : Pos} (hc : X.calm = true) (hu : X.A.units + 64 < cLine) (hg : Gl X "len") (hm : X.mg "len" = none) (hg2 : Gl X "set") (hm2 : X.mg "set" = none) (ha : PE X a ta)
    (na : starEach [a] X.env = (false, eval a X.env) :: starEach [] X.env) : PE X (.Call (.Name "len" p) [.Call (.Name "set" p2) [a] [] q] [] pos) (tLSet X.K ta) := by
  refine ⟨fun pins s σ H Q I h => ?_⟩
  refine Call_ (ld_blt I hg hm (bi_boot .len) ?_)
  refine PyProof.Rows.callWith_builtin1 (PyProof.Rows.args_cons ?_ rfl) rfl rfl
  refine Call_ (ld_blt I hg2 hm2 PyProof.Rows.boot_set ?_)
  refine PyProof.Rows.callWith_type1 (PyProof.Rows.args_cons (thn (ha.run pins s σ H _ I h) fun v s1 ⟨x, H1, I1, r1, q1⟩ => PyProof.Rows.args_nil ?_) na) na rfl
  obtain ⟨l, rfl, q1⟩ := q1
  cases r1
  have hd := I1.ok.hd hc
  rcases q1 with ⟨ns, hq, q1⟩ | ⟨ks, hl, hk, hf, q1⟩
  case inr =>
    obtain ⟨its, rv, pl, hz⟩ := I1.list hl
    refine call_set_tups (P := X.prog) (w := X.w) ks hd pl.isList (by simpa using refs_of_vals rv) (fun p hp => I1.isT (hk p hp)) hf (by omega) fun h' tk L es ep t R g k => ?_
    refine PyProof.Rows.args_nil ?_
    have I2 : Inv X pins σ H1 { s1 with heap := h', toks := tk } := I1.kept fun b o e => k b o e
    obtain ⟨o, ho, hex, hdd⟩ := R.ob
    have hlen : L.length = (dedupT (ks.map fun p => p.2)).length := by
      have e := same_lenT R.nd (@nodup_dedupT (ks.map fun p => p.2)) fun x => by
        rw [mem_dedupT]
        constructor
        · intro hx
          obtain ⟨p, hp, rfl⟩ := List.mem_map.mp hx
          exact List.mem_map.mpr ⟨p, List.mem_of_mem_take (g.sub p hp), rfl⟩
        · intro hx
          obtain ⟨p, hp, rfl⟩ := List.mem_map.mp hx
          exact g.all p (by rw [List.take_length]; exact hp)
      rw [← e, List.length_map]
    have hsz : es.size = L.length := SetTR.size (s := { s1 with heap := h', toks := tk }) R
    have hfit : t.fits es.size = true := SetTR.fits (s := { s1 with heap := h', toks := tk }) R
    exact call_len_set ho hex hdd hfit (by have := R.few; rw [hsz]; omega) ⟨.int ((dedupT (ks.map fun p => p.2)).length : Nat), H1, I2.tok _, ⟨_, by rw [hsz, hlen]⟩, q1⟩
  rcases hq with ⟨hq, h1⟩ | ⟨hq, h1⟩
  · obtain ⟨its, rv, pt, hz⟩ := I1.tuple hq
    have hi : IntsAre its.toArray.toList ns := ints_of_vals rv
    refine call_set_tupI ns hd (show s1.heap.IsTuple l its.toArray from pt) hi (by unfold scanBound; omega) fun h' tk c R1 hcn kk => ?_
    refine PyProof.Rows.args_nil ?_
    have I2 : Inv X pins σ H1 { s1 with heap := h', toks := tk } := I1.kept fun b o e => kk b o e
    obtain ⟨o, es, ep, t, ho, hex, hdd, g, nd, hmm, hb, hf, hn, hr, hl⟩ := R1
    have hlen : es.size = (dedupI ns).length := by
      have e := same_len nd (@nodup_dedupI ns) fun k => by rw [← hmm k, mem_dedupI, decide_eq_true_eq]
      rw [← e, List.length_map, Array.length_toList]
    refine call_len_set ho hex hdd hf (by rw [hn]; omega) ⟨.int ((dedupI ns).length : Nat), H1, I2.tok _, ⟨_, by rw [hlen]⟩, q1⟩
  · obtain ⟨its, r, pl, hz⟩ := I1.list hq
    have hl : its.toArray.size = ns.length := by rw [List.size_toArray, ← r.length, List.length_map]
    have hi : IntsAre its.toArray.toList ns := ints_of_vals r
    refine PySem.call_set_list hd pl.isList (ns := ns) hi (by unfold scanBound; omega) fun h' tk hS hk => ?_
    refine PyProof.Rows.args_nil ?_
    rw [hl] at hS
    obtain ⟨o, es, ep, t, ho, hex, hdd, _, _, _, hf, hn⟩ := hS
    have I2 : Inv X pins σ H1 { s1 with heap := h', toks := tk } := I1.kept fun b o e => hk b o (Heap.lt_size e) e
    have hlen : (PyProof.Rows.firstMet (fun i => ns.getD i 0) ns.length).length = (dedupI ns).length := by
      refine same_len (nodup_firstMet _ _) (@nodup_dedupI ns) fun k => ?_
      have e1 := PyProof.Rows.firstMet_any (fun i => ns.getD i 0) ns.length k
      have e2 : (List.range ns.length).map (fun i => ns.getD i 0) = ns := by
        apply List.ext_getElem?
        intro i
        rw [List.getElem?_map]
        by_cases h : i < ns.length
        · rw [List.getElem?_range h, List.getElem?_eq_getElem h]
          simp [List.getD_eq_getElem?_getD, List.getElem?_eq_getElem h]
        · rw [List.getElem?_eq_none (by simpa using h), List.getElem?_eq_none (by simpa using h)]
          rfl
      rw [e2] at e1
      rw [mem_dedupI]
      have c : ∀ l : List Int, k ∈ l ↔ l.any (· == k) = true := fun l => by simp
      rw [c, c, e1]
    have hle : es.size ≤ ns.length := by rw [hn, hlen]; exact length_dedupI
    refine call_len_set ho hex hdd hf (by omega) ⟨.int ((dedupI ns).length : Nat), H1, I2.tok _, ⟨_, by rw [hn, hlen]⟩, q1⟩
theorem s_lset (C : Cok X G cf k) {b : Ex} {p p2 q : Pos} {z : Expr} (hg : Gl X "len") (hm : X.mg "len" = none) (hg2 : Gl X "set") (hm2 : X.mg "set" = none) (hs : notStar z = true) (hb : PE X z (tE X.K cf G.O b)) :
    PE X (.Call (.Name "len" p) [.Call (.Name "set" p2) [z] [] q] [] pos) (tE X.K cf G.O (.bi .lenSet (.cons b .nil))) := by
  refine PE.weak (pe_lset C.calm C.room.units hg hm hg2 hm2 hb (star_of hs _ _)) fun σ H Q ⟨en, s, dr, R, rel, bh⟩ => ?_
  simp only [ev, evs] at bh
  refine ⟨en, s, dr, R, rel, ?_⟩
  cases eb : ev cf b en s with
  | exc c s0 => rw [eb] at bh; exact bh
  | bad => rw [eb] at bh; exact bh
  | ok d s0 =>
    rw [eb] at bh
    simp only [Out.bind_ok] at bh
    intro dr1 R1 H1 g1 sb1 dk1 vx rx
    obtain ⟨w, ew, k2⟩ := (Beh.trans bh g1).lift
    cases d with
    | tup xs =>
      simp only [vbi] at ew
      obtain ⟨ns, e1, e2⟩ := Option.bind_eq_some_iff.mp ew
      have en := isInts_all e1
      subst en
      by_cases c : ns.length < 64
      · rw [if_pos c] at e2
        cases e2
        obtain ⟨a, vs, rfl, ha, hr, rp⟩ := rx.sh.tup sb1
        have ev := rp_ints_inv rp
        subst ev
        exact ⟨a, rfl, .inl ⟨ns, .inl ⟨SqT.of ha, c⟩, k2.ok (Grow.refl _ _ _) sb1 dk1 _ (Res.of rfl (.int _))⟩⟩
      · rw [if_neg c] at e2
        cases e2
    | lst xs =>
      simp only [vbi] at ew
      cases e1 : isInts xs with
      | some ns =>
        rw [e1] at ew
        simp only at ew
        have en := isInts_all e1
        subst en
        by_cases c : ns.length < 1000
        · rw [if_pos c] at ew
          cases ew
          obtain ⟨a, vs, rfl, ha, rp⟩ := rx.sh.lst sb1
          have ev := rp_ints_inv rp
          subst ev
          exact ⟨a, rfl, .inl ⟨ns, .inr ⟨SqL.of ha, c⟩, k2.ok (Grow.refl _ _ _) sb1 dk1 _ (Res.of rfl (.int _))⟩⟩
        · rw [if_neg c] at ew
          cases ew
      | none =>
        rw [e1] at ew
        simp only at ew
        obtain ⟨ts, e2, e3⟩ := Option.bind_eq_some_iff.mp ew
        by_cases c : ts.length < 64
        · rw [if_pos c] at e3
          cases e3
          obtain ⟨a, vs, rfl, ha, rp⟩ := rx.sh.lst sb1
          obtain ⟨ks, rfl, rfl, hk⟩ := rp_tups sb1 e2 rp
          exact ⟨a, rfl, .inr ⟨ks, SqL.of ha, hk, by simpa using c, k2.ok (Grow.refl _ _ _) sb1 dk1 _ (Res.of rfl (.int _))⟩⟩
        · rw [if_neg c] at e3
          cases e3
    | _ => simp [vbi] at ew
/-! ### dicts -/
theorem s_dnew : PE X (.Dict [] [] pos) (tE X.K cf G.O .dnew) := by
  refine PE.weak pe_dnewT fun σ H Q ⟨en, s, dr, R, rel, b⟩ p hp => ?_
  obtain ⟨g, sb'⟩ := grow_laid (dr := dr) (o := .dT []) hp rel.sub
  exact b dr _ _ g sb' (rel.drok.laidR rel.sub hp) _ (Res.of rfl (.dct upd_same rfl .nil (Nat.zero_le _)))
theorem s_dget (C : Cok X G cf k) {a b c : Ex} {o y z : Expr} {ap : Pos} (hl : ap.endLine = pos.line) (ho : notSuper o = true) (hs : notStar y = true) (hs2 : notStar z = true) (hn : isOwn G.O c = false) (ha : PE X o (tE X.K cf G.O a)) (hb : PE X y (tE X.K cf G.O b)) (hc : PE X z (tE X.K cf G.O c)) :
    PE X (.Call (.Attribute o "get" ap) [y, z] [] pos) (tE X.K cf G.O (.dget a b c)) := by
  have hu : X.A.units + 65 < cLine := by have := C.room.un; omega
  have hst : starEach [y, z] X.env = [(false, eval y X.env), (false, eval z X.env)] := by
    rw [star_of hs, star_of hs2]
    rfl
  have m : M2 X o "get" ap y z pos := ⟨base_of ho, by rw [hst]; rfl, by rw [hl]; simp, by rw [hst]; rfl⟩
  refine PE.weak (pe_dgetG (by omega) ha hb hc m) fun σ H Q ⟨en, s, dr, R, rel, bh⟩ => ?_
  simp only [ev] at bh
  refine ⟨en, s, dr, R, rel, bh.bind fun d s1 ed k1 => ?_⟩
  intro dr1 R1 H1 g1 sb1 dk1 vx rx
  obtain ⟨q, s2, eq, k2⟩ := (k1 dr1 R1 H1 g1 sb1).nox
  have rel1 := rel.grow g1 sb1 dk1
  obtain ⟨z', s3, ez, k3⟩ := (k2 dr1 R1 H1 (Grow.refl _ _ _) sb1).nox
  obtain ⟨w, ew, _⟩ := (k3 dr1 R1 H1 (Grow.refl _ _ _) sb1).lift
  by_cases isN : ∃ ks vs, d = .dcn ks vs
  · obtain ⟨ks, vs, rfl⟩ := isN
    obtain ⟨a', o', rfl, h1', ob1⟩ := rx.sh.dcn sb1
    have hN : IsD H1 a' ∨ ∃ xs, H1 a' = some (DN a' xs) := by
      rcases ob1 with ⟨xs, ds, _, z, _⟩ | ⟨ps, ks', vs', rfl, _⟩ | ⟨xs, ks', vs', rfl, _⟩
      · cases z
      · exact .inl (.inl ⟨_, .inl h1'⟩)
      · exact .inr ⟨_, h1'⟩
    refine ⟨a', rfl, hN, en, s1, dr1, R1, rel1, ?_⟩
    rw [eq]
    intro dr2 R2 H2 g2 sb2 dk2 vq rq
    have rel2 := rel1.grow g2 sb2 dk2
    obtain ⟨z'', s3', ez', k3⟩ := (k2 dr2 R2 H2 g2 sb2).nox
    refine ⟨en, s2, dr2, R2, rel2, ?_⟩
    rw [ez']
    intro dr3 R3 H3 g3 sb3 dk3 vz rz
    obtain ⟨w', ew', k4⟩ := (k3 dr3 R3 H3 g3 sb3).lift
    have ew2 : (if dOk ks q then some ((dfindN ks vs q).getD z'') else none) = some w' := by cases q <;> simpa [vget] using ew'
    simp only [Option.ite_none_right_eq_some, Option.some.injEq] at ew2
    obtain ⟨ok, rfl⟩ := ew2
    obtain ⟨a3, o3, ea, h3', ob3⟩ := (rx.grow (g2.trans g3)).sh.dcn sb3
    cases ea
    exact .inr ⟨ks, vs, q, z'', dr3, R3, o3, sb3, h3', ob3, (rq.grow g3).sh.key ok, rz.rp hn, ok, fun v hv => k4.ok (Grow.refl _ _ _) sb3 dk3 v (Res.of rfl hv)⟩
  have isD : ∃ ks vs qs, d = .dct ks vs ∧ q = .tup qs := by
    cases d with
    | dct ks vs =>
      cases q with
      | tup qs => exact ⟨ks, vs, qs, rfl, rfl⟩
      | _ => simp [vget] at ew
    | dcn ks vs => exact absurd ⟨ks, vs, rfl⟩ isN
    | _ => cases q <;> simp [vget] at ew
  obtain ⟨ks, vs, qs, rfl, rfl⟩ := isD
  simp [vget] at ew
  obtain ⟨qi, e1, e2⟩ := ew
  have hx := rx.sh
  rcases hx with hx | hx
  · cases hx with
    | @dct a' ps _ _ hR hk hvs hlen =>
      refine ⟨_, rfl, .inl (.inr ⟨_, .inl (sb1 _ _ hR)⟩), en, s1, dr1, R1, rel1, ?_⟩
      rw [eq]
      intro dr2 R2 H2 g2 sb2 dk2 vq rq
      have rel2 := rel1.grow g2 sb2 dk2
      obtain ⟨z'', s3', ez', k3⟩ := (k2 dr2 R2 H2 g2 sb2).nox
      refine ⟨en, s2, dr2, R2, rel2, ?_⟩
      rw [ez']
      intro dr3 R3 H3 g3 sb3 dk3 vz rz
      rw [ez] at ez'
      cases ez'
      obtain ⟨p, xs, rfl, hp, hpR, rp⟩ := rq.sh.tup sb2
      have ex := RpAll.ints rp e1
      subst ex
      have hp3 : H3 p = some (.tup ((keyI qi).map kV)) := by
        rw [keyI_kV]
        exact sb3 _ _ (g3.rs _ _ hpR)
      have ha3 : H3 a' = some (.dT ps) := sb3 _ _ (g3.rs _ _ (g2.rs _ _ hR))
      refine .inl ⟨_, DGet.t ha3 hp3, ?_⟩
      obtain ⟨w', ew', k4⟩ := (k3 dr3 R3 H3 g3 sb3).lift
      simp only [vget, e1, Option.map_some, Option.some.injEq] at ew'
      have hvs3 : RpAll X.K dr3 R3 (ps.map fun p => p.2) vs := RpAll.mono (g2.drl.trans g3.drl) (g2.rs.trans g3.rs) vs hvs
      subst ew'
      rcases val_rel (q := qi) hk hvs3 with ⟨v1, v2⟩ | ⟨v, dd, v1, v2, rv⟩
      · rw [v1]
        rw [v2] at k4
        exact k4.ok (Grow.refl _ _ _) sb3 dk3 _ (Res.of rfl (rz.rp hn))
      · rw [v1]
        rw [v2] at k4
        exact k4.ok (Grow.refl _ _ _) sb3 dk3 _ (Res.of rfl rv)
  · exact (hx.not (fun _ z => nomatch z) (fun _ _ z => nomatch z)).elim
end
end BG

/-! BG.EnZip: for i, (x, y) in enumerate(zip(a, b)). -/
namespace BG
open PySem PySem.Spec PyProof.Rows L2
/-! ### what stays -/
def Kp (ch : List Addr) (h h' : Heap) : Prop := ∀ c o, c ∉ ch → h.get? c = some o → h'.get? c = some o
section
variable {ch : List Addr} {h h1 h2 : Heap} {a : Addr}
theorem Kp.trans (k : Kp ch h h1) (k' : Kp ch h1 h2) : Kp ch h h2 := fun c o n e => k' c o n (k c o n e)
theorem Kp.same (s : Heap.SameBut a h h1) (m : a ∈ ch) : Kp ch h h1 := fun c o n e => s.extBut _ _ (fun q => n (q ▸ m)) e
theorem Kp.ext (s : Heap.ExtBut a h h1) (m : a ∈ ch) : Kp ch h h1 := fun c o n e => s _ _ (fun q => n (q ▸ m)) e
theorem Kp.push (o : Obj) : Kp ch h (h.push o) := fun c u n e => Heap.get?_push_of_some _ e
theorem Kp.wide {ch' : List Addr} (k : Kp ch h h1) (w : ∀ c ∈ ch, c ∈ ch') : Kp ch' h h1 := fun c o n e => k c o (fun q => n (w c q)) e
theorem Kp.iter {i l : Addr} {n : Nat} (k : Kp ch h h1) (m : i ∉ ch) (q : h.IsListIter i l n) : h1.IsListIter i l n := q.at fun o e => k i o m e
theorem Kp.list {l : Addr} {xs : Array Value} (k : Kp ch h h1) (m : l ∉ ch) (q : h.IsList l xs) : h1.IsList l xs := let ⟨o, e, r⟩ := q; ⟨o, k l o m e, r⟩
end
/-! ### the zip's own tuple -/
abbrev ZRec (h : Heap) (z TI TO : Addr) (f0 : Value) (f : Bool) : Prop :=
  h.get? z = some { cls := .type "zip", dict := none, data := .fields #[f0, .bool f, .bool false, .ref TI, .ref TO], slots := #[] }
def OkF (f0 : Value) : Prop := f0 = .none ∨ ∃ T : Addr, f0 = rawInt (T : Nat)
section
variable {prog : Program} {w : World} {A : Around} {E : Value → Shared → Prop} {s : Shared}
theorem lookA {a : Addr} {Q : Option Obj → Shared → Prop} (h : Q (s.heap.get? a) s) : wpAny (model prog w) A (loadIfAlive a) Q E s := fun _ _ _ => h
theorem zfree {z TI TO : Addr} {f0 : Value} {f : Bool} {Q : Bool → Shared → Prop} (hz : ZRec s.heap z TI TO f0 f) (hf : OkF f0) (ht : Q true s)
    (hn : ∀ h', ZRec h' z TI TO f0 true → Heap.SameBut z s.heap h' → Q false { s with heap := h' }) : wpAny (model prog w) A (Builtin.SmallTypes.ownedTupleIsFree (.ref z)) Q E s := by
  unfold Builtin.SmallTypes.ownedTupleIsFree
  refine wpAny_bind (wpAny_field hz rfl (x := f0) rfl ?_)
  rcases hf with rfl | ⟨T, rfl⟩
  · exact wpAny_pure ht
  · show wpAny _ _ (loadIfAlive ((T : Int).toNat) >>= _) _ _ _
    rw [Int.toNat_natCast]
    refine wpAny_bind (lookA ?_)
    cases s.heap.get? T with
    | none =>
      simp only [Option.isNone_none, if_true]
      exact wpAny_pure ht
    | some o =>
      simp only [Option.isNone_some, Bool.false_eq_true, if_false]
      refine wpAny_bind (wpAny_field hz rfl (x := .bool f) rfl ?_)
      by_cases q : f = true
      · subst q
        rw [if_neg (by decide)]
        exact wpAny_pure (hn s.heap hz (Heap.SameBut.refl _ _))
      · have q' : f = false := by simpa using q
        subst q'
        rw [if_pos (by decide)]
        exact wpAny_bind (wpAny_setField_rec hz (by simp) fun h' z' s' => wpAny_pure (hn h' z' s'))
structure ZS (h : Heap) (z TI TO i1 i2 a b : Addr) (i : Nat) : Prop where
  zr : ∃ f0 f, OkF f0 ∧ ZRec h z TI TO f0 f
  ti : IsPair h TI (.ref i1) (.ref i2)
  to : ∃ x y, IsPair h TO x y
  l1 : h.IsListIter i1 a i
  l2 : h.IsListIter i2 b i
theorem zdraw {z TI TO i1 i2 a b : Addr} {i : Nat} {xs ys : Array Value} {x y : Value} {Q : Value → Shared → Prop} (D : ZipApart z TI TO i1 i2 a b) (st : ZS s.heap z TI TO i1 i2 a b i)
    (hl1 : s.heap.IsList a xs) (hl2 : s.heap.IsList b ys) (hx : xs[i]? = some x) (hy : ys[i]? = some y)
    (hQ : ∀ h', ZS h' z TI TO i1 i2 a b (i + 1) → IsPair h' s.heap.objs.size x y → h'.objs.size = s.heap.objs.size + 1 → Kp [z, TO, i1, i2] s.heap h' → Q (.ref s.heap.objs.size) { s with heap := h' }) :
    wpAny (model prog w) A (Builtin.SmallTypes.nextOf (.ref z)) Q E s := by
  obtain ⟨⟨f0, f, hf, hz⟩, ti, ⟨u, v, to⟩, l1, l2⟩ := st
  have ty : s.TypeIs (.ref z) "zip" := ⟨_, hz, rfl⟩
  have zlt : z < s.heap.objs.size := Heap.lt_size hz
  unfold Builtin.SmallTypes.nextOf
  refine wpAny_bind (wpAny_callSpecial?_slot (name := Str.ofString "__next__") ty F.slot_zip_next (wpAny_call_entry F.slot_zip_next ty F.entry_zip_next ?_ (F.args_zip_next_1 _)))
  show wpAny _ _ (field (.ref z) 2 >>= _) _ _ _
  refine wpAny_bind (wpAny_field hz rfl (x := .bool false) rfl ?_)
  show wpAny _ _ (field (.ref z) 3 >>= _) _ _ _
  refine wpAny_bind (wpAny_field hz rfl (x := .ref TI) rfl ?_)
  refine wpAny_bind (wpAny_seqItems ti rfl ?_)
  show wpAny _ _ (Builtin.SmallTypes.ownedTupleIsFree (.ref z) >>= _) _ _ _
  refine wpAny_bind (zfree hz hf ?_ fun h1 z1 s1 => ?_)
  · -- the tuple kept for it is filled
    simp only [if_true]
    refine wpAny_bind (wpAny_rule (wpAny_bind (wpAny_field hz rfl (x := .ref TO) rfl (wpAny_bind (wpAny_setField_rec hz (by simp) fun h1 z1 s1 => wpAny_bind ?_)))))
    have k1 : Kp [z, TO, i1, i2] s.heap h1 := .same s1 (by simp)
    have kz : Kp [z] s.heap h1 := .same s1 (by simp)
    simp only [List.zipIdx_cons, List.zipIdx_nil, List.forIn_cons, List.forIn_nil]
    refine wpAny_bind (wpAny_bind (wpAny_onRaise ?_))
    show wpAny _ _ (Builtin.SmallTypes.nextOf (.ref i1) >>= _) _ _ _
    refine wpAny_bind (wpAny_nextOf_list_item (s := { s with heap := h1 }) (kz.iter (by simp [D.i1z]) l1) (kz.list (by simp [D.l1z]) hl1) hx fun h2 m1 s2 => wpAny_pure ?_)
    have k2 : Kp [z, i1] s.heap h2 := (kz.wide (by simp)).trans (.same s2 (by simp))
    have o2 : IsPair h2 TO u v := k2 _ _ (by simp [D.TOz, D.TOi1]) to
    refine wpAny_bind (wpAny_seqItems o2 rfl (wpAny_bind (wpAny_updateSeq_pair (s := { s with heap := h2 }) o2 fun h3 o3 s3 => wpAny_bind (wpAny_letGo (wpAny_pure ?_)))))
    have k3 : Kp [z, i1, TO] s.heap h3 := (k2.wide (by intro c hc; simp only [List.mem_cons, List.not_mem_nil, or_false] at hc ⊢; first | (rcases hc with q | q | q <;> simp [q]; done) | (rcases hc with q | q <;> simp [q]; done))).trans (.same s3 (by simp))
    replace o3 : IsPair h3 TO x v := o3
    refine wpAny_bind (wpAny_bind (wpAny_onRaise ?_))
    show wpAny _ _ (Builtin.SmallTypes.nextOf (.ref i2) >>= _) _ _ _
    refine wpAny_bind (wpAny_nextOf_list_item (s := { s with heap := h3 }) (k3.iter (by simp [D.i2z, D.i12.symm, D.TOi2.symm]) l2) (k3.list (by simp [D.l2z, D.l2i1, D.l2TO]) hl2) hy fun h4 m2 s4 => wpAny_pure ?_)
    have o4 : IsPair h4 TO x v := s4.extBut _ _ D.TOi2 o3
    refine wpAny_bind (wpAny_seqItems o4 rfl (wpAny_bind (wpAny_updateSeq_pair (s := { s with heap := h4 }) o4 fun h5 o5 s5 => wpAny_bind (wpAny_letGo (wpAny_pure (wpAny_pure ?_))))))
    replace o5 : IsPair h5 TO x y := o5
    have k5 : Kp [z, TO, i1, i2] s.heap h5 := ((k3.wide (by intro c hc; simp only [List.mem_cons, List.not_mem_nil, or_false] at hc ⊢; first | (rcases hc with q | q | q <;> simp [q]; done) | (rcases hc with q | q <;> simp [q]; done))).trans (.same s4 (by simp))).trans (.same s5 (by simp))
    have z5 : ZRec h5 z TI TO .ellipsis f := s5.extBut _ _ D.TOz.symm (s4.extBut _ _ D.i2z.symm (s3.extBut _ _ D.TOz.symm (s2.extBut _ _ D.i1z.symm z1)))
    have n5 : h5.objs.size = s.heap.objs.size := by rw [s5.1, s4.1, s3.1, s2.1, s1.1]
    refine wpAny_bind (wpAny_seqItems o5 rfl (wpAny_bind (wpAny_newTuple ?_)))
    show wpAny _ _ (Builtin.SmallTypes.ownedTupleHandOut (.ref z) (.ref h5.objs.size) >>= _) _ _ _
    refine wpAny_bind ?_
    unfold Builtin.SmallTypes.ownedTupleHandOut
    have z6 : ZRec (h5.push { cls := .type "tuple", data := .seq #[x, y] }) z TI TO .ellipsis f := Heap.get?_push_of_some _ z5
    refine wpAny_bind (wpAny_setField_rec z6 (by simp) fun h7 z7 s7 => ?_)
    replace z7 : ZRec h7 z TI TO (rawInt h5.objs.size) f := z7
    refine wpAny_setField_rec z7 (by simp) fun h8 z8 s8 => wpAny_pure ⟨_, rfl, ?_⟩
    replace z8 : ZRec h8 z TI TO (rawInt h5.objs.size) false := z8
    have k8 : Kp [z] h5 h8 := ((Kp.push _).trans (.same s7 (by simp))).trans (.same s8 (by simp))
    have T8 : IsPair h8 h5.objs.size x y := s8.extBut _ _ (by rw [n5]; exact Nat.ne_of_gt zlt) (s7.extBut _ _ (by rw [n5]; exact Nat.ne_of_gt zlt) (Heap.get?_push_size _ rfl))
    have n8 : h8.objs.size = s.heap.objs.size + 1 := by rw [s8.1, s7.1, Heap.size_push, n5]
    refine wpAny_pure ?_
    show Q (.ref h5.objs.size) _
    rw [n5] at z8 T8 ⊢
    have j1 : h5.IsListIter i1 a (i + 1) := ((m1.extBut s3.extBut D.TOi1.symm).extBut s4.extBut D.i12).extBut s5.extBut D.TOi1.symm
    have j2 : h5.IsListIter i2 b (i + 1) := m2.extBut s5.extBut D.TOi2.symm
    have t5 : IsPair h5 TI (.ref i1) (.ref i2) := k5 _ _ (by simp [D.TIz, D.TITO, D.TIi1, D.TIi2]) ti
    exact hQ h8 ⟨⟨_, _, .inr ⟨_, rfl⟩, z8⟩, k8 _ _ (by simp [D.TIz]) t5, ⟨x, y, k8 _ _ (by simp [D.TOz]) o5⟩, k8.iter (by simp [D.i1z]) j1, k8.iter (by simp [D.i2z]) j2⟩ T8 n8 (k5.trans (k8.wide (by simp)))
  · -- a new one is made
    simp only [Bool.false_eq_true, if_false]
    have kz : Kp [z] s.heap h1 := .same s1 (by simp)
    refine wpAny_bind ?_
    rw [← Array.forIn_toList]
    simp only [List.forIn_cons, List.forIn_nil]
    refine wpAny_bind (wpAny_bind (wpAny_holding ?_))
    show wpAny _ _ (Builtin.SmallTypes.nextOf (.ref i1) >>= _) _ _ _
    refine wpAny_bind (wpAny_nextOf_list_item (s := { s with heap := h1 }) (kz.iter (by simp [D.i1z]) l1) (kz.list (by simp [D.l1z]) hl1) hx fun h2 m1 s2 => wpAny_pure (wpAny_pure ?_))
    have k2 : Kp [z, i1] s.heap h2 := (kz.wide (by simp)).trans (.same s2 (by simp))
    refine wpAny_bind (wpAny_bind (wpAny_holding ?_))
    show wpAny _ _ (Builtin.SmallTypes.nextOf (.ref i2) >>= _) _ _ _
    refine wpAny_bind (wpAny_nextOf_list_item (s := { s with heap := h2 }) (k2.iter (by simp [D.i2z, D.i12.symm]) l2) (k2.list (by simp [D.l2z, D.l2i1]) hl2) hy fun h3 m2 s3 => wpAny_pure (wpAny_pure (wpAny_pure ?_)))
    have k3 : Kp [z, i1, i2] s.heap h3 := (k2.wide (by intro c hc; simp only [List.mem_cons, List.not_mem_nil, or_false] at hc ⊢; first | (rcases hc with q | q | q <;> simp [q]; done) | (rcases hc with q | q <;> simp [q]; done))).trans (.same s3 (by simp))
    have n3 : h3.objs.size = s.heap.objs.size := by rw [s3.1, s2.1, s1.1]
    have z3 : ZRec h3 z TI TO f0 true := s3.extBut _ _ D.i2z.symm (s2.extBut _ _ D.i1z.symm z1)
    show wpAny _ _ (newTuple [x, y] >>= _) _ _ _
    refine wpAny_bind (wpAny_newTuple (wpAny_pure ⟨_, rfl, wpAny_pure ?_⟩))
    show Q (.ref h3.objs.size) _
    have T4 : IsPair (h3.push { cls := .type "tuple", data := .seq #[x, y] }) h3.objs.size x y := Heap.get?_push_size _ rfl
    have n4 : (h3.push { cls := .type "tuple", data := .seq #[x, y] }).objs.size = h3.objs.size + 1 := Heap.size_push ..
    have kp : Kp [] h3 (h3.push { cls := .type "tuple", data := .seq #[x, y] }) := .push _
    rw [n3] at T4 n4 ⊢
    exact hQ _ ⟨⟨f0, true, hf, kp _ _ (by simp) z3⟩, kp _ _ (by simp) (k3 _ _ (by simp [D.TIz, D.TIi1, D.TIi2]) ti), ⟨u, v, kp _ _ (by simp) (k3 _ _ (by simp [D.TOz, D.TOi1, D.TOi2]) to)⟩,
      kp.iter (by simp) (m1.extBut s3.extBut D.i12), kp.iter (by simp) m2⟩ T4 n4 ((k3.wide (by intro c hc; simp only [List.mem_cons, List.not_mem_nil, or_false] at hc ⊢; first | (rcases hc with q | q | q <;> simp [q]; done) | (rcases hc with q | q <;> simp [q]; done))).trans (.push _))
theorem zend {z TI TO i1 i2 a b : Addr} {i : Nat} {xs ys : Array Value} {Q : Value → Shared → Prop} (hh : A.handled = none) (D : ZipApart z TI TO i1 i2 a b) (st : ZS s.heap z TI TO i1 i2 a b i)
    (hl1 : s.heap.IsList a xs) (hl2 : s.heap.IsList b ys) (hend : xs[i]? = none ∨ ys[i]? = none)
    (hE : ∀ h' e, Kp [z, TO, i1, i2] s.heap h' → (∃ o, h'.get? e = some o ∧ o.cls = .type "StopIteration") → E (.ref e) { s with heap := h' }) :
    wpAny (model prog w) A (Builtin.SmallTypes.nextOf (.ref z)) Q E s := by
  obtain ⟨⟨f0, f, hf, hz⟩, ti, ⟨u, v, to⟩, l1, l2⟩ := st
  have ty : s.TypeIs (.ref z) "zip" := ⟨_, hz, rfl⟩
  have ne : ∀ {h : Heap} {e : Addr} {g : Value} {b : Bool} {o : Obj}, ZRec h z TI TO g b → h.get? e = some o → o.cls = .type "StopIteration" → e ≠ z := fun q1 q2 q3 q => by
    subst q
    rw [q1] at q2
    cases q2
    simp at q3
  unfold Builtin.SmallTypes.nextOf
  refine wpAny_bind (wpAny_callSpecial?_slot (name := Str.ofString "__next__") ty F.slot_zip_next (wpAny_call_entry F.slot_zip_next ty F.entry_zip_next ?_ (F.args_zip_next_1 _)))
  show wpAny _ _ (field (.ref z) 2 >>= _) _ _ _
  refine wpAny_bind (wpAny_field hz rfl (x := .bool false) rfl ?_)
  show wpAny _ _ (field (.ref z) 3 >>= _) _ _ _
  refine wpAny_bind (wpAny_field hz rfl (x := .ref TI) rfl ?_)
  refine wpAny_bind (wpAny_seqItems ti rfl ?_)
  show wpAny _ _ (Builtin.SmallTypes.ownedTupleIsFree (.ref z) >>= _) _ _ _
  have back : ∀ {h : Heap} {e : Addr} {g : Value} {b : Bool}, ZRec h z TI TO g b → Kp [z, TO, i1, i2] s.heap h → (∃ o, h.get? e = some o ∧ o.cls = .type "StopIteration") →
      wpAny (model prog w) A.in1 (setField (.ref z) 0 .none) (fun _ s2 => E (.ref e) s2) E { s with heap := h } := fun q1 q2 ⟨o, q3, q4⟩ =>
    wpAny_setField_rec q1 (by simp) fun h' _ s' => hE h' _ (q2.trans (.same s' (by simp))) ⟨o, s'.extBut _ _ (ne q1 q3 q4) q3, q4⟩
  refine wpAny_bind (zfree hz hf ?_ fun h1 z1 s1 => ?_)
  · simp only [if_true]
    refine wpAny_bind (wpAny_rule (wpAny_bind (wpAny_field hz rfl (x := .ref TO) rfl (wpAny_bind (wpAny_setField_rec hz (by simp) fun h1 z1 s1 => wpAny_bind ?_)))))
    have kz : Kp [z] s.heap h1 := .same s1 (by simp)
    replace z1 : ZRec h1 z TI TO .ellipsis f := z1
    simp only [List.zipIdx_cons, List.zipIdx_nil, List.forIn_cons, List.forIn_nil]
    refine wpAny_bind (wpAny_bind (wpAny_onRaise ?_))
    show wpAny _ _ (Builtin.SmallTypes.nextOf (.ref i1) >>= _) _ _ _
    by_cases hx : xs[i]? = none
    · exact wpAny_bind (wpAny_nextOf_list_end (s := { s with heap := h1 }) hh (kz.iter (by simp [D.i1z]) l1) (kz.list (by simp [D.l1z]) hl1) hx fun h2 e s2 he => back (s2 _ _ D.i1z.symm z1) ((kz.wide (by simp)).trans (.ext s2 (by simp))) he)
    · obtain ⟨x, hx⟩ := Option.ne_none_iff_exists'.mp hx
      have hy : ys[i]? = none := hend.resolve_left (by rw [hx]; simp)
      refine wpAny_bind (wpAny_nextOf_list_item (s := { s with heap := h1 }) (kz.iter (by simp [D.i1z]) l1) (kz.list (by simp [D.l1z]) hl1) hx fun h2 m1 s2 => wpAny_pure ?_)
      have k2 : Kp [z, i1] s.heap h2 := (kz.wide (by simp)).trans (.same s2 (by simp))
      have o2 : IsPair h2 TO u v := k2 _ _ (by simp [D.TOz, D.TOi1]) to
      refine wpAny_bind (wpAny_seqItems o2 rfl (wpAny_bind (wpAny_updateSeq_pair (s := { s with heap := h2 }) o2 fun h3 o3 s3 => wpAny_bind (wpAny_letGo (wpAny_pure ?_)))))
      have k3 : Kp [z, i1, TO] s.heap h3 := (k2.wide (by intro c hc; simp only [List.mem_cons, List.not_mem_nil, or_false] at hc ⊢; first | (rcases hc with q | q | q <;> simp [q]; done) | (rcases hc with q | q <;> simp [q]; done))).trans (.same s3 (by simp))
      refine wpAny_bind (wpAny_bind (wpAny_onRaise ?_))
      show wpAny _ _ (Builtin.SmallTypes.nextOf (.ref i2) >>= _) _ _ _
      exact wpAny_bind (wpAny_nextOf_list_end (s := { s with heap := h3 }) hh (k3.iter (by simp [D.i2z, D.i12.symm, D.TOi2.symm]) l2) (k3.list (by simp [D.l2z, D.l2i1, D.l2TO]) hl2) hy fun h4 e s4 he =>
        back (s4 _ _ D.i2z.symm (s3.extBut _ _ D.TOz.symm (s2.extBut _ _ D.i1z.symm z1))) ((k3.wide (by intro c hc; simp only [List.mem_cons, List.not_mem_nil, or_false] at hc ⊢; first | (rcases hc with q | q | q <;> simp [q]; done) | (rcases hc with q | q <;> simp [q]; done))).trans (.ext s4 (by simp))) he)
  · simp only [Bool.false_eq_true, if_false]
    have kz : Kp [z] s.heap h1 := .same s1 (by simp)
    refine wpAny_bind ?_
    rw [← Array.forIn_toList]
    simp only [List.forIn_cons, List.forIn_nil]
    refine wpAny_bind (wpAny_bind (wpAny_holding ?_))
    show wpAny _ _ (Builtin.SmallTypes.nextOf (.ref i1) >>= _) _ _ _
    by_cases hx : xs[i]? = none
    · exact wpAny_bind (wpAny_nextOf_list_end (s := { s with heap := h1 }) hh (kz.iter (by simp [D.i1z]) l1) (kz.list (by simp [D.l1z]) hl1) hx fun h2 e s2 he => hE h2 e ((kz.wide (by simp)).trans (.ext s2 (by simp))) he)
    · obtain ⟨x, hx⟩ := Option.ne_none_iff_exists'.mp hx
      have hy : ys[i]? = none := hend.resolve_left (by rw [hx]; simp)
      refine wpAny_bind (wpAny_nextOf_list_item (s := { s with heap := h1 }) (kz.iter (by simp [D.i1z]) l1) (kz.list (by simp [D.l1z]) hl1) hx fun h2 m1 s2 => wpAny_pure (wpAny_pure ?_))
      have k2 : Kp [z, i1] s.heap h2 := (kz.wide (by simp)).trans (.same s2 (by simp))
      refine wpAny_bind (wpAny_bind (wpAny_holding ?_))
      show wpAny _ _ (Builtin.SmallTypes.nextOf (.ref i2) >>= _) _ _ _
      exact wpAny_bind (wpAny_nextOf_list_end (s := { s with heap := h2 }) hh (k2.iter (by simp [D.i2z, D.i12.symm]) l2) (k2.list (by simp [D.l2z, D.l2i1]) hl2) hy fun h3 e s3 he => hE h3 e ((k2.wide (by intro c hc; simp only [List.mem_cons, List.not_mem_nil, or_false] at hc ⊢; first | (rcases hc with q | q | q <;> simp [q]; done) | (rcases hc with q | q <;> simp [q]; done))).trans (.ext s3 (by simp))) he)
/-! ### enumerate over it -/
theorem ZS.keep {z TI TO i1 i2 a b : Addr} {i : Nat} {ch : List Addr} {h h' : Heap} (st : ZS h z TI TO i1 i2 a b i) (k : Kp ch h h') (n : ∀ c ∈ [z, TI, TO, i1, i2], c ∉ ch) : ZS h' z TI TO i1 i2 a b i := by
  obtain ⟨⟨f0, f, hf, hz⟩, ti, ⟨u, v, to⟩, l1, l2⟩ := st
  exact ⟨⟨f0, f, hf, k _ _ (n _ (by simp)) hz⟩, k _ _ (n _ (by simp)) ti, ⟨u, v, k _ _ (n _ (by simp)) to⟩, k.iter (n _ (by simp)) l1, k.iter (n _ (by simp)) l2⟩
theorem ez_item {e z TI TO i1 i2 a b : Addr} {i : Nat} {xs ys : Array Value} {x y old : Value} {Q : Option Value → Shared → Prop} (he : IsEnum s.heap e z (i : Nat) old) (D : ZipApart z TI TO i1 i2 a b) (st : ZS s.heap z TI TO i1 i2 a b i)
    (hl1 : s.heap.IsList a xs) (hl2 : s.heap.IsList b ys) (hx : xs[i]? = some x) (hy : ys[i]? = some y) (ne : ∀ c ∈ [z, TI, TO, i1, i2], c ≠ e)
    (hQ : ∀ hm h', IsPair hm s.heap.objs.size x y → hm.objs.size = s.heap.objs.size + 1 → Kp [z, TO, i1, i2] s.heap hm → IsEnumOut h' e z ((i : Int) + 1) (.ref s.heap.objs.size) (s.heap.objs.size + 1) → ZS h' z TI TO i1 i2 a b (i + 1) →
      IsPair h' (s.heap.objs.size + 1) (.int i s.toks) (.ref s.heap.objs.size) → Kp [e] hm h' → Q (some (.ref (s.heap.objs.size + 1))) { s with heap := h', toks := s.toks + 1 }) :
    wpAny (model prog w) A (pyNext (.ref e)) Q E s := by
  have ty : s.TypeIs (.ref e) "enumerate" := ⟨_, he, rfl⟩
  have elt : e < s.heap.objs.size := Heap.lt_size he
  unfold pyNext
  refine wpAny_bind (wpAny_attempt (wpAny_callSpecial?_slot (name := Str.ofString "__next__") ty F.slot_enumerate_next (wpAny_call_entry F.slot_enumerate_next ty F.entry_enumerate_next ?_ (F.args_enumerate_next_1 _))))
  obtain ⟨hp, gn, dw, tk, os⟩ := s
  show wpAny _ _ (field (.ref e) 2 >>= _) _ _ _
  refine wpAny_bind (wpAny_field he rfl (x := .ref z) rfl ?_)
  refine wpAny_bind (zdraw D st hl1 hl2 hx hy fun hm st' T nm km => ?_)
  replace T : IsPair hm hp.objs.size x y := T
  replace nm : hm.objs.size = hp.objs.size + 1 := nm
  replace km : Kp [z, TO, i1, i2] hp hm := km
  replace elt : e < hp.objs.size := elt
  have e1 : IsEnum hm e z (i : Nat) old := km _ _ (by simpa [eq_comm] using (show ¬ (z = e ∨ TO = e ∨ i1 = e ∨ i2 = e) from fun q => by rcases q with q | q | q | q <;> exact ne _ (by simp) q)) he
  show wpAny _ _ (field (.ref e) 3 >>= _) _ _ ⟨hm, gn, dw, tk, os⟩
  refine wpAny_bind (wpAny_field e1 rfl (x := rawInt (i : Nat)) rfl ?_)
  show wpAny _ _ (field (.ref e) 4 >>= _) _ _ ⟨hm, gn, dw, tk, os⟩
  refine wpAny_bind (wpAny_field e1 rfl (x := .none) rfl ?_)
  show wpAny _ _ (mkInt (i : Nat) >>= _) _ _ ⟨hm, gn, dw, tk, os⟩
  refine wpAny_bind (wpAny_mkInt ?_)
  show wpAny _ _ (setField (.ref e) 3 (rawInt ((i : Int) + 1)) >>= _) _ _ ⟨hm, gn, dw, tk + 1, os⟩
  refine wpAny_bind (wpAny_setField_rec e1 (by simp) fun h2 e2 s2 => ?_)
  replace e2 : IsEnum h2 e z ((i : Int) + 1) old := e2
  show wpAny _ _ (setField (.ref e) 4 .none >>= _) _ _ ⟨h2, gn, dw, tk + 1, os⟩
  refine wpAny_bind (wpAny_setField_rec e2 (by simp) fun h3 e3 s3 => ?_)
  replace e3 : IsEnum h3 e z ((i : Int) + 1) old := e3
  have n3 : h3.objs.size = hp.objs.size + 1 := by rw [s3.1, s2.1]; exact nm
  have k3 : Kp [e] hm h3 := (Kp.same s2 (by simp)).trans (.same s3 (by simp))
  show wpAny _ _ (newTuple [.int (i : Nat) tk, .ref hp.objs.size] >>= _) _ _ ⟨h3, gn, dw, tk + 1, os⟩
  refine wpAny_bind (wpAny_newTuple ?_)
  rw [n3]
  have U4 : IsPair (h3.push { cls := .type "tuple", data := .seq #[.int (i : Nat) tk, .ref hp.objs.size] }) (hp.objs.size + 1) (.int (i : Nat) tk) (.ref hp.objs.size) := by rw [← n3]; exact Heap.get?_push_size _ rfl
  have e4 : IsEnum (h3.push { cls := .type "tuple", data := .seq #[.int (i : Nat) tk, .ref hp.objs.size] }) e z ((i : Int) + 1) old := Heap.get?_push_of_some _ e3
  have k4 : Kp [e] hm (h3.push { cls := .type "tuple", data := .seq #[.int (i : Nat) tk, .ref hp.objs.size] }) := k3.trans (.push _)
  generalize h3.push { cls := .type "tuple", data := .seq #[.int (i : Nat) tk, .ref hp.objs.size] } = h4 at U4 e4 k4
  show wpAny _ _ (Builtin.SmallTypes.ownedTupleIsFree (.ref e) >>= _) _ _ ⟨h4, gn, dw, tk + 1, os⟩
  refine wpAny_bind ?_
  unfold Builtin.SmallTypes.ownedTupleIsFree
  refine wpAny_bind (wpAny_field e4 rfl (x := .none) rfl (wpAny_pure ?_))
  simp only [if_true]
  refine wpAny_bind (wpAny_rule (wpAny_bind (wpAny_field e4 rfl (x := old) rfl (wpAny_bind (wpAny_setField_rec e4 (by simp) fun h5 e5 s5 => ?_)))))
  replace e5 : IsEnum h5 e z ((i : Int) + 1) (.ref hp.objs.size) := e5
  show wpAny _ _ (Builtin.SmallTypes.ownedTupleHandOut (.ref e) (.ref (hp.objs.size + 1)) >>= _) _ _ ⟨h5, gn, dw, tk + 1, os⟩
  refine wpAny_bind ?_
  unfold Builtin.SmallTypes.ownedTupleHandOut
  refine wpAny_bind (wpAny_setField_rec e5 (by simp) fun h6 e6 s6 => ?_)
  replace e6 : IsEnumOut h6 e z ((i : Int) + 1) (.ref hp.objs.size) (hp.objs.size + 1) := e6
  refine wpAny_setField_rec e6 (by simp) fun h7 e7 s7 => ?_
  replace e7 : IsEnumOut h7 e z ((i : Int) + 1) (.ref hp.objs.size) (hp.objs.size + 1) := e7
  have k7 : Kp [e] h4 h7 := ((Kp.same s5 (by simp)).trans (.same s6 (by simp))).trans (.same s7 (by simp))
  refine wpAny_bind (wpAny_letGo (wpAny_pure ⟨_, rfl, wpAny_pure (hQ hm h7 T nm km e7 (st'.keep (k4.trans k7) fun c hc => by simpa using ne c hc) (k7 _ _ (fun q => absurd (List.mem_singleton.mp q) (Nat.ne_of_gt (Nat.lt_succ_of_lt elt))) U4) (k4.trans k7))⟩))
theorem ez_end {e z TI TO i1 i2 a b : Addr} {i : Nat} {xs ys : Array Value} {old : Value} {Q : Option Value → Shared → Prop} (hh : A.handled = none) (he : IsEnum s.heap e z (i : Nat) old) (D : ZipApart z TI TO i1 i2 a b) (st : ZS s.heap z TI TO i1 i2 a b i)
    (hl1 : s.heap.IsList a xs) (hl2 : s.heap.IsList b ys) (hend : xs[i]? = none ∨ ys[i]? = none) (hQ : ∀ h', Kp [z, TO, i1, i2] s.heap h' → Q none { s with heap := h' }) : wpAny (model prog w) A (pyNext (.ref e)) Q E s := by
  have ty : s.TypeIs (.ref e) "enumerate" := ⟨_, he, rfl⟩
  unfold pyNext
  refine wpAny_bind (wpAny_attempt (wpAny_callSpecial?_slot (name := Str.ofString "__next__") ty F.slot_enumerate_next (wpAny_call_entry F.slot_enumerate_next ty F.entry_enumerate_next ?_ (F.args_enumerate_next_1 _))))
  show wpAny _ _ (field (.ref e) 2 >>= _) _ _ _
  refine wpAny_bind (wpAny_field he rfl (x := .ref z) rfl ?_)
  refine wpAny_bind (zend hh D st hl1 hl2 hend fun h' x k hx => ?_)
  obtain ⟨o, ho, hc⟩ := hx
  exact wpAny_bind (wpAny_isInstance (T := "StopIteration") (b := true) ⟨o, ho, hc⟩ isSubtype_stop (wpAny_pure (hQ _ k)))
end
/-! ### enumerate(zip(a, b)) made -/
theorem meets_enumerate_newZ (z : Addr) (fs : Array Value) :
    Meets (Builtin.«enumerate.__new__» ⟨[.type "enumerate", .ref z], []⟩) (fun _ R s => s.heap.get? z = some { cls := .type "zip", dict := none, data := .fields fs, slots := #[] } ∧ (∃ TI TO f0, IsZip s.heap z TI TO f0) ∧
      R (.ok (.ret (.ref s.heap.objs.size))) { s with heap := s.heap.push { cls := .type "enumerate", data := .fields #[.none, .bool false, .ref z, rawInt 0, .none, .none] } }) :=
  .of_wp fun prog w A R s h => by
    obtain ⟨hp, g, d, tk, os⟩ := s; obtain ⟨hl, ⟨TI, TO, f0, hz⟩, h⟩ := h
    have hsub := sub_enumerate
    have hT : Shared.TypeIs ⟨hp, g, d, tk, os⟩ (.ref z) "zip" := ⟨_, hz, rfl⟩
    wp_walk using wpAny_loadPart' hl
    refine wpAny_stack_any fun st => wpAny_pure ?_
    split
    · rename_i c _ _ _ _ _
      cases (c == Value.type "enumerate")
      · wp_walk using wpAny_loadPart' hl, wpAny_pyIter_zip hz
        exact ⟨_, rfl, h⟩
      · wp_walk using wpAny_loadPart' hl, wpAny_pyIter_zip hz
        exact ⟨_, rfl, h⟩
    · wp_walk using wpAny_loadPart' hl, wpAny_pyIter_zip hz
      exact ⟨_, rfl, h⟩
theorem call_enumerate_zip {prog : Program} {w : World} {A : Around} {E : Value → Shared → Prop} {s : Shared} {z TI TO : Addr} {f0 : Value} {Q : Value → Shared → Prop} (hz : IsZip s.heap z TI TO f0)
    (h : ∀ h', IsEnum h' s.heap.objs.size z 0 .none → h'.objs.size = s.heap.objs.size + 1 → (∀ b o, s.heap.get? b = some o → h'.get? b = some o) → Q (.ref s.heap.objs.size) { s with heap := h' }) :
    wpAny (model prog w) A (call (.type "enumerate") [.ref z]) Q E s := by
  refine callType_new F.called_enumerate (by decide) (F.typeCall_enumerate_1 _) (F.newCall_enumerate_1 _) (fun obj => F.args_object_init_2 obj _) F.entry_enumerate_new
    (meets_enumerate_newZ z _) ⟨hz, ⟨_, _, _, hz⟩, ?_⟩
  have he : IsEnum (s.heap.push { cls := .type "enumerate", data := .fields #[.none, .bool false, .ref z, rawInt 0, .none, .none] }) s.heap.objs.size z 0 .none := Heap.get?_push_size _ rfl
  exact ⟨⟨_, he, rfl⟩, h _ he (Heap.size_push ..) fun b o x => Heap.get?_push_of_some _ x⟩
/-! ### what is walked -/
def Itez (K : PySem.W.Frag) (a b : Addr) : It :=
  ⟨fun i H => ∃ (xs ys : List V) (x y : V), SqL K H a xs ∧ SqL K H b ys ∧ xs[i]? = some x ∧ ys[i]? = some y,
    fun i H v H' => ∃ T U x y, v = .ref U ∧ H T = none ∧ upd H T (.tup [x, y]) U = none ∧ H' = upd (upd H T (.tup [x, y])) U (.tup [.int (i : Nat), .ref T]) ∧ (∀ xs, SqL K H a xs → xs[i]? = some x) ∧ ∀ ys, SqL K H b ys → ys[i]? = some y,
    fun i H => ∃ xs ys : List V, SqL K H a xs ∧ SqL K H b ys ∧ (xs.length ≤ i ∨ ys.length ≤ i)⟩
theorem ZS.lt {h : Heap} {z TI TO i1 i2 a b : Addr} {i : Nat} (st : ZS h z TI TO i1 i2 a b i) : ∀ c ∈ [z, TI, TO, i1, i2], c < h.objs.size := by
  obtain ⟨⟨f0, f, hf, hz⟩, ti, ⟨u, v, to⟩, ⟨_, e1, _⟩, ⟨_, e2, _⟩⟩ := st
  intro c hc
  simp only [List.mem_cons, List.not_mem_nil, or_false] at hc
  rcases hc with q | q | q | q | q <;> rw [q]
  · exact Heap.lt_size hz
  · exact Heap.lt_size ti
  · exact Heap.lt_size to
  · exact Heap.lt_size e1
  · exact Heap.lt_size e2
theorem turn_ez {P : Program} {w : World} {K : PySem.W.Frag} {elts : List Expr} {kk : Nat} {tpos : Pos} {a b e z TI TO i1 i2 : Addr} (D : ZipApart z TI TO i1 i2 a b) (ne : ∀ c ∈ [z, TI, TO, i1, i2], c ≠ e) :
    Turn P w K (.Tuple elts kk tpos) (Itez K a b) [e, z, TI, TO, i1, i2] e (fun i h => (∃ old, IsEnum h e z ((i : Nat) : Int) old) ∧ ZS h z TI TO i1 i2 a b i) where
  mem := by simp
  obj := fun i h st c hc => by
    obtain ⟨⟨old, he⟩, ⟨f0, f, hf, hz⟩, hTI, ⟨x, y, hTO⟩, ⟨o1, e1, _, d1⟩, ⟨o2, e2, _, d2⟩⟩ := st
    have e' : c = e ∨ c = z ∨ c = TI ∨ c = TO ∨ c = i1 ∨ c = i2 := by simpa using hc
    rcases e' with q | q | q | q | q | q
    · rw [q]; exact ⟨_, he, fun v q => nomatch q⟩
    · rw [q]; exact ⟨_, hz, fun v q => nomatch q⟩
    · rw [q]; exact ⟨_, hTI, fun v q => nomatch q⟩
    · rw [q]; exact ⟨_, hTO, fun v q => nomatch q⟩
    · rw [q]; exact ⟨o1, e1, fun v q => by rw [d1] at q; cases q⟩
    · rw [q]; exact ⟨o2, e2, fun v q => by rw [d2] at q; cases q⟩
  keep := fun i h h' st k => by
    obtain ⟨⟨old, he⟩, ⟨f0, f, hf, hz⟩, hTI, ⟨x, y, hTO⟩, h1, h2⟩ := st
    exact ⟨⟨old, k e (by simp) _ he⟩, ⟨f0, f, hf, k z (by simp) _ hz⟩, k TI (by simp) _ hTI, ⟨x, y, k TO (by simp) _ hTO⟩, h1.at fun o q => k i1 (by simp) o q, h2.at fun o q => k i2 (by simp) o q⟩
  item := by
    intro X hP hw hK hc i pins s σ H E I hf st hg
    subst hP hw hK
    obtain ⟨⟨old, he⟩, st⟩ := st
    obtain ⟨xs, ys, x, y, hqx, hqy, hx, hy⟩ := hg
    obtain ⟨its, rv, p, _⟩ := I.list hqx
    obtain ⟨its2, rv2, p2, _⟩ := I.list hqy
    obtain ⟨u, hu, ru⟩ := rv.get hx
    obtain ⟨u2, hu2, ru2⟩ := rv2.get hy
    have hel : e < s.heap.objs.size := Heap.lt_size he
    have hzl := st.lt
    refine ez_item he D st p.isList p2.isList (x := u) (y := u2) (by simpa using hu) (by simpa using hu2) ne fun hm h' T nm km eo st' U ke => ?_
    refine ⟨_, rfl, wpAny_letOwnedTupleGo_enum (s := { s with heap := h', toks := s.toks + 1 }) eo fun h'' he' sb => ?_⟩
    have hT0 : H s.heap.objs.size = none := I.hok.fresh (Nat.le_refl _)
    have newT : ObjOk X.prog X.w (upd H s.heap.objs.size (.tup [x, y])) hm s.heap.objs.size (.tup [x, y]) :=
      ⟨by show 2 ≤ sizeLine; decide, [u, u2], .cons ru (.cons ru2 .nil), ⟨_, T, rfl, _, rfl⟩⟩
    have I1 : Inv X pins σ (upd H s.heap.objs.size (.tup [x, y])) { s with heap := hm, toks := s.toks } :=
      I.turnedNew (ch := [z, TO, i1, i2]) (fun c o hb q => km c o hb q) (fun b hb => hf b (by simp only [List.mem_cons, List.not_mem_nil, or_false] at hb ⊢; rcases hb with q | q | q | q <;> simp [q])) (Nat.le_refl _) newT
    have fe : FpOk X pins (upd H s.heap.objs.size (.tup [x, y])) e := by
      obtain ⟨f0, f⟩ := hf e (by simp)
      exact ⟨by rw [upd_ne (Nat.ne_of_lt hel)]; exact f0, f⟩
    have ke' : Kp [e] hm h'' := ke.trans (.same sb (by simp))
    have hU : h''.get? (s.heap.objs.size + 1) = some { cls := .type "tuple", data := .seq #[.int i s.toks, .ref s.heap.objs.size] } := (sb.2 _ (Nat.ne_of_gt (Nat.lt_succ_of_lt hel))).trans U
    have newU : ObjOk X.prog X.w (upd (upd H s.heap.objs.size (.tup [x, y])) (s.heap.objs.size + 1) (.tup [.int (i : Nat), .ref s.heap.objs.size])) h'' (s.heap.objs.size + 1) (.tup [.int (i : Nat), .ref s.heap.objs.size]) :=
      ⟨by show 2 ≤ sizeLine; decide, [.int i s.toks, .ref s.heap.objs.size], .cons ⟨_, rfl⟩ (.cons rfl .nil), ⟨_, hU, rfl, _, rfl⟩⟩
    have I2 : Inv X pins σ (upd (upd H s.heap.objs.size (.tup [x, y])) (s.heap.objs.size + 1) (.tup [.int (i : Nat), .ref s.heap.objs.size])) { s with heap := h'', toks := s.toks + 1 } :=
      I1.turnedNew (ch := [e]) (t' := s.toks + 1) (fun c o hb q => ke' c o hb q) (fun b hb => by rw [List.mem_singleton.mp hb]; exact fe) (by show hm.objs.size ≤ _; rw [nm]; exact Nat.le_refl _) newU
    have hU0 : upd H s.heap.objs.size (.tup [x, y]) (s.heap.objs.size + 1) = none := by
      rw [upd_ne (Nat.succ_ne_self _)]
      exact I.hok.fresh (Nat.le_succ _)
    refine ⟨.ref (s.heap.objs.size + 1), _, I2, rfl, ⟨_, _, x, y, rfl, hT0, hU0, rfl, fun l hl => by rw [I.list_inj hl hqx]; exact hx, fun l hl => by rw [I.list_inj hl hqy]; exact hy⟩, ⟨⟨.ref s.heap.objs.size, ?_⟩, st'.keep (ch := [e]) (.same sb (by simp)) fun c hc => by simpa using ne c hc⟩, fun b hb => ?_⟩
    · have e1 : ((i + 1 : Nat) : Int) = (i : Int) + 1 := by omega
      rw [e1]; exact he'
    · have hb' : b < s.heap.objs.size := by
        rcases List.mem_cons.mp hb with q | q
        · rw [q]; exact hel
        · exact hzl b q
      rw [upd_ne (Nat.ne_of_lt (Nat.lt_succ_of_lt hb')), upd_ne (Nat.ne_of_lt hb')]
      exact (hf b hb).1
  done := by
    intro X hP hw hK hc i pins s σ H E I hf st hg
    subst hP hw hK
    obtain ⟨⟨old, he⟩, st⟩ := st
    obtain ⟨xs, ys, hqx, hqy, hend⟩ := hg
    obtain ⟨its, rv, p, _⟩ := I.list hqx
    obtain ⟨its2, rv2, p2, _⟩ := I.list hqy
    have l1 := rv.length
    have l2 := rv2.length
    have hn : its.toArray[i]? = none ∨ its2.toArray[i]? = none := by
      rcases hend with q | q
      · exact .inl (by simp; omega)
      · exact .inr (by simp; omega)
    exact ez_end (I.ok.hd hc) he D st p.isList p2.isList hn fun h' hk => ⟨rfl, I.turnedL (t' := s.toks) (ch := [z, TO, i1, i2]) (fun c o hb q => hk c o hb q)
      fun b hb => hf b (by simp only [List.mem_cons, List.not_mem_nil, or_false] at hb ⊢; rcases hb with q | q | q | q <;> simp [q])⟩
  self := fun A i s Q E st h => let ⟨⟨_, he⟩, _⟩ := st; wpAny_pyIter_enum he h
def iEnumZip (K : PySem.W.Frag) (ta : TA) : TI := fun σ H R => ta σ H fun vs H1 => ∃ a b xs ys, vs = [.ref a, .ref b] ∧ SqL K H1 a xs ∧ SqL K H1 b ys ∧ R (Itez K a b) H1
theorem pi_enumZip {X : Cx} {e e2 : Expr} {ta : TA} {p p' pos pos' tpos : Pos} {elts : List Expr} {kk : Nat} (hg : Gl X "zip") (hm : X.mg "zip" = none) (hg' : Gl X "enumerate") (hm' : X.mg "enumerate" = none) (ha : PA X [e, e2] ta)
    (hs : starEach [e, e2] X.env = (false, eval e X.env) :: starEach [e2] X.env := by rfl) (hpl : (backTo pos (starEach [e2] X.env)).any (·.1) = false := by rfl) :
    PI X (.Tuple elts kk tpos) (.Call (.Name "enumerate" p') [.Call (.Name "zip" p) [e, e2] [] pos] [] pos') (iEnumZip X.K ta) := by
  refine ⟨fun pins s σ H R I h => ?_⟩
  refine Call_ (ld_blt I hg' hm' boot_enumerate (PyProof.Rows.callWith_type1 ?_ rfl rfl))
  refine PyProof.Rows.args_cons ?_ rfl
  refine Call_ (ld_blt I hg hm PyProof.Rows.boot_zip (PyProof.Rows.callWith_type1 (thn (ha.run pos pins s σ H _ I h) fun us s1 ⟨vs, H1, I1, r1, q1⟩ => ?_) hs hpl))
  obtain ⟨a, b, xs, ys, ex, hqx, hqy, q⟩ := q1
  subst ex
  cases r1 with
  | cons r rr =>
    cases rr with
    | cons r' rr =>
      cases rr
      cases r
      cases r'
      obtain ⟨its, rv, p1, _⟩ := I1.list hqx
      obtain ⟨its2, rv2, p2, _⟩ := I1.list hqy
      have la : a < s1.heap.objs.size := p1.lt
      have lb : b < s1.heap.objs.size := p2.lt
      refine call_zip_2 p1.isList p2.isList fun h' hz hTI hTO h1 h2 hsz hk => PyProof.Rows.args_nil ?_
      refine call_enumerate_zip (s := { s1 with heap := h' }) hz fun h2' he hsz2 hk2 => wpAny_pyIter_enum he ?_
      replace hk2 : ∀ b o, h'.get? b = some o → h2'.get? b = some o := hk2
      have hn : ({ s1 with heap := h' } : Shared).heap.objs.size = s1.heap.objs.size + 5 := hsz
      rw [hn] at he ⊢
      have I2 : Inv X pins σ H1 { s1 with heap := h2' } := I1.kept (t' := s1.toks) fun b o z => hk2 b o (hk b o z)
      refine ⟨s1.heap.objs.size + 5, [s1.heap.objs.size + 5, s1.heap.objs.size + 4, s1.heap.objs.size + 2, s1.heap.objs.size + 3, s1.heap.objs.size, s1.heap.objs.size + 1], _, _, H1, rfl, I2,
        turn_ez (PySem.W.ktu_apart s1.heap.objs.size a b la lb) (fun c hc => ?_), ⟨⟨.none, he⟩, ⟨.none, false, .inl rfl, hk2 _ _ hz⟩, hk2 _ _ hTI, ⟨_, _, hk2 _ _ hTO⟩, h1.at fun o z => hk2 _ o z, h2.at fun o z => hk2 _ o z⟩, fun c hcm => ?_, q⟩
      · simp only [List.mem_cons, List.not_mem_nil, or_false] at hc
        rcases hc with z | z | z | z | z <;> rw [z] <;> first | exact Nat.ne_of_lt (by omega)
      · have hle : s1.heap.objs.size ≤ c := by
          simp only [List.mem_cons, List.not_mem_nil, or_false] at hcm
          rcases hcm with z | z | z | z | z | z <;> rw [z] <;> first | exact Nat.le_refl _ | exact Nat.le_add_right _ _
        exact I1.fpOk hle (I1.hok.fresh hle)
end BG

/-! BG.SoundI: targets and what is walked. -/
namespace BG
open PySem PySem.Spec PyProof.Rows L2

/-! ### targets -/
def tgLen : Tg → Nat
  | .cons _ r => tgLen r + 1
  | _ => 0
mutual
def gTg (K : PySem.W.Frag) : Tg → TG
  | .name i => gName i
  | .tup r => gTup K (tgLen r) (gTgs K r)
  | .nil => fun _ _ _ _ => False
  | .cons _ _ => fun _ _ _ _ => False
def gTgs (K : PySem.W.Frag) : Tg → TGs
  | .nil => gNil
  | .cons t r => gCons (gTg K t) (gTgs K r)
  | .name _ => fun _ _ _ _ => False
  | .tup _ => fun _ _ _ _ => False
end
section
variable {X : Cx} {G : GC} {cf : CF} {k : Nat}
theorem asg_star {e : Expr} (h : notStar e = true) (es : List Expr) (env : PySem.Env) : assignEach (e :: es) env = (false, assign e env) :: assignEach es env := by
  cases e <;> first | rfl | simp [notStar] at h
theorem chkGs_each (env : PySem.Env) : ∀ {r : Tg} {es : List Expr}, chkGs G r es = true → (assignEach es env).length = tgLen r ∧ (assignEach es env).findIdx? (·.1) = none
  | .nil, es, h => by
    cases es with
    | nil => exact ⟨rfl, rfl⟩
    | cons x l => simp [chkGs] at h
  | .cons t r, es, h => by
    cases es with
    | nil => simp [chkGs] at h
    | cons x l =>
      simp only [chkGs, Bool.and_eq_true] at h
      obtain ⟨a, b⟩ := chkGs_each env h.2
      rw [asg_star h.1.1]
      refine ⟨by simp [tgLen, a], ?_⟩
      rw [List.findIdx?_cons]
      simp only [Bool.false_eq_true, if_false]
      rw [b]
      rfl
  | .name _, es, h => by cases es <;> simp [chkGs] at h
  | .tup _, es, h => by cases es <;> simp [chkGs] at h
mutual
theorem s_tg (C : Cok X G cf k) : ∀ (t : Tg) (e : Expr), chkG G t e = true → PG X e (gTg X.K t)
  | .name i, e, h => by
    cases e with
    | Name x pos =>
      simp only [chkG, Bool.and_eq_true, decide_eq_true_eq, isLoc, Bool.or_eq_true] at h
      obtain ⟨⟨h1, h2⟩, h3⟩ := h
      have hl : Loc X.env.scope x := by
        rw [C.sc]
        rcases h2 with h2 | h2
        · exact .inl h2
        · exact .inr h2
      simp only [gTg]
      refine pg_name C.nd (by rw [C.N]; exact h1) hl ?_
      cases eb : G.blk with
      | none => exact .inl (C.fn x fun sc0 h => by rw [eb] at h; cases h)
      | some sc0 =>
        rw [eb] at h3
        simp only [Bool.or_eq_true, decide_eq_true_eq] at h3
        rcases h3 with h3 | h3
        · exact .inl (C.fn x fun sc1 h => by rw [eb] at h; cases h; exact h3)
        · right
          rw [C.sc]
          exact h3
    | _ => simp [chkG] at h
  | .tup r, e, h => by
    cases e with
    | Tuple es kk pos =>
      simp only [chkG] at h
      obtain ⟨a, b⟩ := chkGs_each X.env h
      simp only [gTg]
      exact pg_tup C.calm (s_tgs C r es h) a b
    | _ => simp [chkG] at h
  | .nil, e, h => by cases e <;> simp [chkG] at h
  | .cons _ _, e, h => by cases e <;> simp [chkG] at h
theorem s_tgs (C : Cok X G cf k) : ∀ (r : Tg) (es : List Expr), chkGs G r es = true → PGs X es (gTgs X.K r)
  | .nil, es, h => by
    cases es with
    | nil => simp only [gTgs]; exact pgs_nil
    | cons x l => simp [chkGs] at h
  | .cons t r, es, h => by
    cases es with
    | nil => simp [chkGs] at h
    | cons x l =>
      simp only [chkGs, Bool.and_eq_true] at h
      simp only [gTgs]
      refine pgs_cons (s_tg C t x h.1.2) (s_tgs C r l h.2) ?_
      rw [asg_star h.1.1]
      rfl
  | .name _, es, h => by cases es <;> simp [chkGs] at h
  | .tup _, es, h => by cases es <;> simp [chkGs] at h
end
end

/-- the names of S bound anew -/
structure Upd (K : PySem.W.Frag) (dr : Dr) (R : Hp) (S : List Nat) (e : Env) (σ : St) (e' : Env) (σ' : St) : Prop where
  le : e'.length = e.length
  ls : σ'.length = σ.length
  out : ∀ i : Nat, i ∉ S → e'[i]? = e[i]? ∧ σ'[i]? = σ[i]?
  val : ∀ i : Nat, i ∈ S → ∃ d v, e'[i]? = some (some d) ∧ σ'[i]? = some (some v) ∧ Rp K dr R v d
theorem Upd.refl {K : PySem.W.Frag} {dr : Dr} {R : Hp} (e : Env) (σ : St) : Upd K dr R [] e σ e σ := ⟨rfl, rfl, fun _ _ => ⟨rfl, rfl⟩, fun _ h => nomatch h⟩
theorem Upd.trans {K : PySem.W.Frag} {dr : Dr} {R : Hp} {S S' : List Nat} {e e1 e2 : Env} {σ σ1 σ2 : St} (a : Upd K dr R S e σ e1 σ1) (b : Upd K dr R S' e1 σ1 e2 σ2) : Upd K dr R (S ++ S') e σ e2 σ2 where
  le := b.le.trans a.le
  ls := b.ls.trans a.ls
  out := fun i h => by
    rw [List.mem_append, not_or] at h
    obtain ⟨h1, h2⟩ := a.out i h.1
    obtain ⟨h3, h4⟩ := b.out i h.2
    exact ⟨h3.trans h1, h4.trans h2⟩
  val := fun i h => by
    by_cases q : i ∈ S'
    · exact b.val i q
    · obtain ⟨h3, h4⟩ := b.out i q
      rcases List.mem_append.mp h with h | h
      · obtain ⟨d, v, h1, h2, h5⟩ := a.val i h
        exact ⟨d, v, h3.trans h1, h4.trans h2, h5⟩
      · exact absurd h q
theorem Upd.one {K : PySem.W.Frag} {dr : Dr} {R : Hp} {e : Env} {σ : St} {i : Nat} {d : Val} {v : V} (hl : σ.length = e.length) (hi : i < e.length) (h : Rp K dr R v d) : Upd K dr R [i] e σ (e.set i (some d)) (σ.set i (some v)) where
  le := by simp
  ls := by simp
  out := fun j h => by
    have hn : i ≠ j := fun q => h (by rw [q]; exact List.mem_cons_self)
    exact ⟨List.getElem?_set_ne hn, List.getElem?_set_ne hn⟩
  val := fun j h => by
    have hj : j = i := by simpa using h
    subst hj
    exact ⟨d, v, by rw [List.getElem?_set_self hi], by rw [List.getElem?_set_self (by omega)], by assumption⟩
mutual
theorem gTg_run {K : PySem.W.Frag} {dr : Dr} {R H : Hp} (sb : Sub R H) : ∀ (t : Tg) {v : V} {d : Val} {e e' : Env} {σ : St} {Q : St → Hp → Prop}, Rp K dr R v d → bindT t d e = some e' → σ.length = e.length → (∀ σ', Upd K dr R (slots t) e σ e' σ' → Q σ' H) → gTg K t v σ H Q
  | .name i, v, d, e, e', σ, Q, h, hb, hl, q => by
    simp only [bindT, Option.ite_none_right_eq_some, Option.some.injEq] at hb
    obtain ⟨hi, rfl⟩ := hb
    simp only [gTg]
    exact q _ (Upd.one hl hi h)
  | .tup r, v, d, e, e', σ, Q, h, hb, hl, q => by
    cases d with
    | tup ds =>
      simp only [bindT] at hb
      cases h with
      | tup h hs hl' =>
        simp only [gTg]
        refine ⟨_, _, rfl, SqT.of (sb _ _ h), ?_, gTgs_run sb r hs hb hl q⟩
        rw [hs.len]
        exact bindTs_len r hb
    | _ => simp [bindT] at hb
  | .nil, v, d, e, e', σ, Q, h, hb, hl, q => by cases d <;> simp [bindT] at hb
  | .cons _ _, v, d, e, e', σ, Q, h, hb, hl, q => by cases d <;> simp [bindT] at hb
theorem gTgs_run {K : PySem.W.Frag} {dr : Dr} {R H : Hp} (sb : Sub R H) : ∀ (r : Tg) {vs : List V} {ds : List Val} {e e' : Env} {σ : St} {Q : St → Hp → Prop}, RpAll K dr R vs ds → bindTs r ds e = some e' → σ.length = e.length → (∀ σ', Upd K dr R (slots r) e σ e' σ' → Q σ' H) → gTgs K r vs σ H Q
  | .nil, vs, ds, e, e', σ, Q, h, hb, hl, q => by
    cases h with
    | nil =>
      simp only [bindTs, Option.some.injEq] at hb
      subst hb
      simp only [gTgs]
      exact ⟨rfl, q _ (Upd.refl _ _)⟩
    | cons _ _ => simp [bindTs] at hb
  | .cons t r, vs, ds, e, e', σ, Q, h, hb, hl, q => by
    cases h with
    | nil => simp [bindTs] at hb
    | cons h hs =>
      simp only [bindTs] at hb
      obtain ⟨e1, hb1, hb2⟩ := Option.bind_eq_some_iff.mp hb
      simp only [gTgs]
      refine ⟨_, _, rfl, gTg_run sb t h hb1 hl fun σ1 u1 => ?_⟩
      exact gTgs_run sb r hs hb2 (by rw [u1.ls, u1.le]; exact hl) fun σ2 u2 => q σ2 (u1.trans u2)
  | .name _, vs, ds, e, e', σ, Q, h, hb, hl, q => by cases ds <;> simp [bindTs] at hb
  | .tup _, vs, ds, e, e', σ, Q, h, hb, hl, q => by cases ds <;> simp [bindTs] at hb
theorem bindTs_len : ∀ (r : Tg) {ds : List Val} {e e' : Env}, bindTs r ds e = some e' → ds.length = tgLen r
  | .nil, ds, e, e', h => by
    cases ds with
    | nil => rfl
    | cons _ _ => simp [bindTs] at h
  | .cons t r, ds, e, e', h => by
    cases ds with
    | nil => simp [bindTs] at h
    | cons d ds =>
      simp only [bindTs] at h
      obtain ⟨e1, _, hb2⟩ := Option.bind_eq_some_iff.mp h
      simp [tgLen, bindTs_len r hb2]
  | .name _, ds, e, e', h => by cases ds <;> simp [bindTs] at h
  | .tup _, ds, e, e', h => by cases ds <;> simp [bindTs] at h
end
theorem Rel.upd {K : PySem.W.Frag} {O S : List Nat} {e e' : Env} {s : DSt} {dr : Dr} {R H : Hp} {σ σ' : St} (r : Rel K O e s dr R σ H) (u : Upd K dr R S e σ e' σ') : Rel K (O.filter fun i => !decide (i ∈ S)) e' s dr R σ' H where
  sub := r.sub
  len := by rw [u.ls, u.le, r.len]
  val := fun i d h => by
    by_cases q : i ∈ S
    · obtain ⟨d', v, h1, h2, h3⟩ := u.val i q
      rw [h1] at h
      cases h
      refine ⟨v, h2, ?_⟩
      rw [if_neg (fun m => by have := (List.mem_filter.mp m).2; simp [q] at this)]
      exact h3
    · obtain ⟨h1, h2⟩ := u.out i q
      rw [h1] at h
      obtain ⟨v, h3, h4⟩ := r.val i d h
      refine ⟨v, h2.trans h3, ?_⟩
      by_cases m : i ∈ O
      · rw [if_pos m] at h4
        rw [if_pos (List.mem_filter.mpr ⟨m, by simpa using q⟩)]
        exact h4
      · rw [if_neg m] at h4
        rw [if_neg (fun z => m (List.mem_filter.mp z).1)]
        exact h4
  dist := fun i j a d d' hi hj hn h1 h2 h3 h4 => by
    obtain ⟨mi, qi⟩ := List.mem_filter.mp hi
    obtain ⟨mj, qj⟩ := List.mem_filter.mp hj
    have qi' : i ∉ S := by simpa using qi
    have qj' : j ∉ S := by simpa using qj
    obtain ⟨a1, a2⟩ := u.out i qi'
    obtain ⟨b1, b2⟩ := u.out j qj'
    exact r.dist i j a d d' mi mj hn (a1.symm.trans h1) (b1.symm.trans h2) (a2.symm.trans h3) (b2.symm.trans h4)
  drok := r.drok
theorem Rel.updO {K : PySem.W.Frag} {O S : List Nat} {e e' : Env} {s : DSt} {dr : Dr} {R H : Hp} {σ σ' : St} (r : Rel K O e s dr R σ H) (u : Upd K dr R S e σ e' σ') (n : ∀ i ∈ S, i ∉ O) : Rel K O e' s dr R σ' H := by
  have h := r.upd u
  have e : (O.filter fun i => !decide (i ∈ S)) = O := List.filter_eq_self.mpr fun i hi => by
    have : i ∉ S := fun q => n i q hi
    simpa using this
  rwa [e] at h

/-! ### what is walked -/
structure ItOk (K : PySem.W.Frag) (Z : Hp) (dr : Dr) (R : Hp) (J : It) (ds : List Val) : Prop where
  few : ds.length ≤ lim
  go : ∀ (n : Nat) dr2 R2 H2, n < ds.length → DrLe dr dr2 → Sub R R2 → Sub Z H2 → Sub R2 H2 → J.go n H2 ∧ ∀ x H3, J.yld n H2 x H3 → ∃ R3 d, ds[n]? = some d ∧ Rp K dr2 R3 x d ∧ Grow dr2 dr2 R2 R3 H2 H3 ∧ Sub R3 H3 ∧ ∀ s, DrOk K dr2 s R2 H2 → DrOk K dr2 s R3 H3
  stop : ∀ (n : Nat) H2, ds.length ≤ n → Sub Z H2 → J.stop n H2
abbrev isOwnI := isOwnS
def tI (K : PySem.W.Frag) (cf : CF) (O : List Nat) (c : Ex) : TI := fun σ H Rq => ∃ e s dr R, Rel K O e s dr R σ H ∧
  Beh K (cf.at σ) dr R H (evi cf c e s) fun ds dr' R' H' => ∀ J Z, ItOk K Z dr' R' J ds → (∀ a o, Z a = some o → H' a = some o ∧ NotDr dr' a) → (isOwnI O c = false → Sub Z R') → Rq J H'
def oneZ (a : Addr) (o : HO) : Hp := fun b => if b = a then some o else none
theorem oneZ_self (a : Addr) (o : HO) : oneZ a o a = some o := by simp [oneZ]
theorem oneZ_of {a b : Addr} {o u : HO} (h : oneZ a o b = some u) : b = a ∧ u = o := by
  unfold oneZ at h
  split at h
  · rename_i q; cases h; exact ⟨q, rfl⟩
  · cases h
theorem Res.lstZ {K : PySem.W.Frag} {O : List Nat} {c : Ex} {dr : Dr} {s : DSt} {R H : Hp} {v : V} {ds : List Val} (h : Res K O c dr R H v (.lst ds)) (sb : Sub R H) (dk : DrOk K dr s R H) : ∃ a xs, v = .ref a ∧ H a = some (.lst xs) ∧ RpAll K dr R xs ds ∧ NotDr dr a ∧ (isOwn O c = false → R a = some (.lst xs)) := by
  unfold Res at h
  split at h
  · rename_i q
    obtain ⟨a, o, rfl, h1, _, h3, r⟩ := h
    obtain ⟨xs, rfl, h4, _⟩ := r.isL
    exact ⟨a, xs, rfl, h1, h4, h3, fun z => by rw [q] at z; cases z⟩
  · cases h with
    | lst h hs hl => exact ⟨_, _, rfl, sb _ _ h, hs, dk.not h, fun _ => h⟩
theorem itOk_list {K : PySem.W.Frag} {dr : Dr} {R : Hp} {a : Addr} {xs : List V} {ds : List Val} (h : RpAll K dr R xs ds) (hf : ds.length ≤ lim) : ItOk K (oneZ a (.lst xs)) dr R (Itl K a) ds where
  few := hf
  go := fun n dr2 R2 H2 hn dl sr sz sb => by
    have hl := h.len
    have hs : SqL K H2 a xs := SqL.of (sz _ _ (oneZ_self a _))
    have hx : n < xs.length := by omega
    refine ⟨⟨xs, xs[n], hs, by simp [hx]⟩, fun x H3 hy => ?_⟩
    obtain ⟨rfl, hy⟩ := hy
    obtain ⟨d, h1, h2⟩ := h.get (hy xs hs)
    exact ⟨R2, d, h1, Rp.mono dl sr d h2, Grow.refl _ _ _, sb, fun s q => q⟩
  stop := fun n H2 hn sz => ⟨xs, SqL.of (sz _ _ (oneZ_self a _)), by rw [h.len]; exact hn⟩
theorem itOk_tup {K : PySem.W.Frag} {dr : Dr} {R : Hp} {a : Addr} {xs : List V} {ds : List Val} (h : RpAll K dr R xs ds) (hf : ds.length ≤ lim) : ItOk K (oneZ a (.tup xs)) dr R (Itt K a) ds where
  few := hf
  go := fun n dr2 R2 H2 hn dl sr sz sb => by
    have hl := h.len
    have hs : SqT K H2 a xs := SqT.of (sz _ _ (oneZ_self a _))
    have hx : n < xs.length := by omega
    refine ⟨⟨xs, xs[n], hs, by simp [hx]⟩, fun x H3 hy => ?_⟩
    obtain ⟨rfl, hy⟩ := hy
    obtain ⟨d, h1, h2⟩ := h.get (hy xs hs)
    exact ⟨R2, d, h1, Rp.mono dl sr d h2, Grow.refl _ _ _, sb, fun s q => q⟩
  stop := fun n H2 hn sz => ⟨xs, SqT.of (sz _ _ (oneZ_self a _)), by rw [h.len]; exact hn⟩
theorem itOk_range {K : PySem.W.Frag} {dr : Dr} {R : Hp} (lo : Int) (m : Nat) (hf : m ≤ lim) : ItOk K (fun _ => none) dr R (Itr lo m) (rangeL lo m) where
  few := by unfold rangeL; rw [List.length_map, List.length_range]; exact hf
  go := fun n dr2 R2 H2 hn dl sr sz sb => by
    have hm : n < m := by simpa [rangeL] using hn
    refine ⟨hm, fun x H3 hy => ?_⟩
    obtain ⟨rfl, rfl⟩ := hy
    exact ⟨R2, .int (lo + (n : Nat)), by simp [rangeL, hm], .int _, Grow.refl _ _ _, sb, fun s q => q⟩
  stop := fun n H2 hn sz => by
    show m ≤ n
    simpa [rangeL] using hn
theorem enumF_len : ∀ (ds : List Val) (k : Nat), (enumF k ds).length = ds.length
  | [], _ => rfl
  | d :: ds, k => by simp [enumF, enumF_len ds (k + 1)]
theorem enumF_get : ∀ (ds : List Val) (k n : Nat) (d : Val), ds[n]? = some d → (enumF k ds)[n]? = some (.tup [.int ((k + n : Nat) : Int), d])
  | [], k, n, d, h => by simp at h
  | x :: ds, k, 0, d, h => by simp at h; subst h; simp [enumF]
  | x :: ds, k, n + 1, d, h => by
    have := enumF_get ds (k + 1) n d (by simpa using h)
    simp only [enumF, List.getElem?_cons_succ]
    rw [this]
    congr 4
    omega
theorem laid3 {K : PySem.W.Frag} {dr2 : Dr} {R2 H2 : Hp} {T : Addr} {xs : List V} {ds : List Val} (sb : Sub R2 H2) (hT : H2 T = none) (hs : RpAll K dr2 R2 xs ds) (hl : ds.length ≤ lim) : Rp K dr2 (upd R2 T (.tup xs)) (.ref T) (.tup ds) ∧ Grow dr2 dr2 R2 (upd R2 T (.tup xs)) H2 (upd H2 T (.tup xs)) ∧ Sub (upd R2 T (.tup xs)) (upd H2 T (.tup xs)) ∧ ∀ s, DrOk K dr2 s R2 H2 → DrOk K dr2 s (upd R2 T (.tup xs)) (upd H2 T (.tup xs)) := by
  obtain ⟨g, sb'⟩ := grow_laid (dr := dr2) (o := .tup xs) hT sb
  exact ⟨.tup upd_same (RpAll.mono (DrLe.refl _) g.rs _ hs) hl, g, sb', fun s q => q.laidR sb hT⟩
theorem itOk_enum {K : PySem.W.Frag} {dr : Dr} {R : Hp} {a : Addr} {xs : List V} {ds : List Val} (h : RpAll K dr R xs ds) (hf : ds.length ≤ lim) : ItOk K (oneZ a (.lst xs)) dr R (Ite K a) (enumV ds) where
  few := by unfold enumV; rw [enumF_len]; exact hf
  go := fun n dr2 R2 H2 hn dl sr sz sb => by
    have hl := h.len
    have hn' : n < ds.length := by simpa [enumV, enumF_len] using hn
    have hs : SqL K H2 a xs := SqL.of (sz _ _ (oneZ_self a _))
    have hx : n < xs.length := by omega
    refine ⟨⟨xs, xs[n], hs, by simp [hx]⟩, fun x H3 hy => ?_⟩
    obtain ⟨T, y, rfl, hT, rfl, hy⟩ := hy
    obtain ⟨d, h1, h2⟩ := h.get (hy xs hs)
    obtain ⟨r, g, s1, s2⟩ := laid3 (K := K) sb hT (.cons (.int ((n : Nat) : Int)) (.cons (Rp.mono dl sr d h2) .nil)) (by show 2 ≤ lim; decide)
    refine ⟨_, _, ?_, r, g, s1, s2⟩
    have := enumF_get ds 0 n d h1
    simpa [enumV] using this
  stop := fun n H2 hn sz => ⟨xs, SqL.of (sz _ _ (oneZ_self a _)), by rw [h.len]; simpa [enumV, enumF_len] using hn⟩
theorem itOk_zip {K : PySem.W.Frag} {dr : Dr} {R Z : Hp} {a b : Addr} {xs ys : List V} {ds es : List Val} (ha : Z a = some (.lst xs)) (hb : Z b = some (.lst ys)) (h : RpAll K dr R xs ds) (h' : RpAll K dr R ys es) (hf : ds.length ≤ lim) : ItOk K Z dr R (Itz K a b) (zipV ds es) where
  few := by unfold zipV; rw [List.length_zipWith]; omega
  go := fun n dr2 R2 H2 hn dl sr sz sb => by
    have hl := h.len
    have hl' := h'.len
    have hn' : n < ds.length ∧ n < es.length := by
      simp [zipV] at hn
      omega
    have hs : SqL K H2 a xs := SqL.of (sz _ _ ha)
    have hs' : SqL K H2 b ys := SqL.of (sz _ _ hb)
    have hx : n < xs.length := by omega
    have hx' : n < ys.length := by omega
    refine ⟨⟨xs, ys, xs[n], ys[n], hs, hs', by simp [hx], by simp [hx']⟩, fun x H3 hy => ?_⟩
    obtain ⟨T, y, z, rfl, hT, rfl, hy, hz⟩ := hy
    obtain ⟨d, h1, h2⟩ := h.get (hy xs hs)
    obtain ⟨d', h1', h2'⟩ := h'.get (hz ys hs')
    obtain ⟨r, g, s1, s2⟩ := laid3 (K := K) sb hT (.cons (Rp.mono dl sr d h2) (.cons (Rp.mono dl sr d' h2') .nil)) (by show 2 ≤ lim; decide)
    refine ⟨_, _, ?_, r, g, s1, s2⟩
    simp [zipV, List.getElem?_zipWith, h1, h1']
  stop := fun n H2 hn sz => ⟨xs, ys, SqL.of (sz _ _ ha), SqL.of (sz _ _ hb), by
    have hl := h.len
    have hl' := h'.len
    simp [zipV] at hn
    omega⟩
theorem itOk_enumZip {K : PySem.W.Frag} {dr : Dr} {R Z : Hp} {a b : Addr} {xs ys : List V} {ds es : List Val} (ha : Z a = some (.lst xs)) (hb : Z b = some (.lst ys)) (h : RpAll K dr R xs ds) (h' : RpAll K dr R ys es) (hf : ds.length ≤ lim) : ItOk K Z dr R (Itez K a b) (enumV (zipV ds es)) where
  few := by unfold enumV zipV; rw [enumF_len, List.length_zipWith]; omega
  go := fun n dr2 R2 H2 hn dl sr sz sb => by
    have hl := h.len
    have hl' := h'.len
    have hn' : n < ds.length ∧ n < es.length := by
      simp [enumV, enumF_len, zipV] at hn
      omega
    have hs : SqL K H2 a xs := SqL.of (sz _ _ ha)
    have hs' : SqL K H2 b ys := SqL.of (sz _ _ hb)
    have hx : n < xs.length := by omega
    have hx' : n < ys.length := by omega
    refine ⟨⟨xs, ys, xs[n], ys[n], hs, hs', by simp [hx], by simp [hx']⟩, fun x H3 hy => ?_⟩
    obtain ⟨T, U, y, z, rfl, hT, hU, rfl, hy, hz⟩ := hy
    obtain ⟨d, h1, h2⟩ := h.get (hy xs hs)
    obtain ⟨d', h1', h2'⟩ := h'.get (hz ys hs')
    obtain ⟨r, g, s1, s2⟩ := laid3 (K := K) sb hT (.cons (Rp.mono dl sr d h2) (.cons (Rp.mono dl sr d' h2') .nil)) (by show 2 ≤ lim; decide)
    obtain ⟨r', g', s1', s2'⟩ := laid3 (K := K) s1 hU (.cons (.int ((n : Nat) : Int)) (.cons r .nil)) (by show 2 ≤ lim; decide)
    refine ⟨_, _, ?_, r', g.trans g', s1', fun s q => s2' s (s2 s q)⟩
    have q : (zipV ds es)[n]? = some (.tup [d, d']) := by simp [zipV, List.getElem?_zipWith, h1, h1']
    have := enumF_get (zipV ds es) 0 n _ q
    simpa [enumV] using this
  stop := fun n H2 hn sz => ⟨xs, ys, SqL.of (sz _ _ ha), SqL.of (sz _ _ hb), by
    have hl := h.len
    have hl' := h'.len
    simp [enumV, enumF_len, zipV] at hn
    omega⟩
section
variable {X : Cx} {G : GC} {cf : CF} {k : Nat} {tg : Expr} {pos : Pos}
theorem i_ex {a : Ex} {x : Expr} (h1 : ∀ b, a ≠ .range1 b) (ha : PE X x (tE X.K cf G.O a)) : PI X tg x (tI X.K cf G.O (.cons a .nil)) := by
  refine ⟨fun pins s0 σ H Rq I h => ?_⟩
  obtain ⟨en, s, dr, R, rel, bh⟩ := h
  simp only [evi] at bh
  cases ex : ev cf a en s with
  | exc c s1 =>
    rw [ex] at bh
    refine (pi_list ha).run pins s0 σ H Rq I ⟨en, s, dr, R, rel, ?_⟩
    rw [ex]
    exact bh
  | bad => rw [ex] at bh; exact bh.elim
  | ok d s1 =>
    rw [ex] at bh
    simp only [Out.bind_ok] at bh
    cases d with
    | lst ds =>
      refine (pi_list ha).run pins s0 σ H Rq I ⟨en, s, dr, R, rel, ?_⟩
      rw [ex]
      intro dr1 R1 H1 g1 sb1 dk1 vx rx
      obtain ⟨p, xs, rfl, q1, q3, q4, q5⟩ := rx.lstZ sb1 dk1
      refine ⟨p, rfl, ⟨xs, SqL.of q1⟩, (Beh.trans bh g1).ok (Grow.refl _ _ _) sb1 dk1 _ _ (itOk_list q3 rx.sh.lstLen) (fun a o z => ?_) fun n a o z => ?_⟩
      · obtain ⟨rfl, rfl⟩ := oneZ_of z
        exact ⟨q1, q4⟩
      · obtain ⟨rfl, rfl⟩ := oneZ_of z
        exact q5 n
    | tup ds =>
      refine (pi_tup ha).run pins s0 σ H Rq I ⟨en, s, dr, R, rel, ?_⟩
      rw [ex]
      intro dr1 R1 H1 g1 sb1 dk1 vx rx
      obtain ⟨p, xs, rfl, q1, q2, q3⟩ := rx.sh.tup sb1
      refine ⟨p, rfl, ⟨xs, SqT.of q1⟩, (Beh.trans bh g1).ok (Grow.refl _ _ _) sb1 dk1 _ _ (itOk_tup q3 rx.sh.tupLen) (fun a o z => ?_) fun n a o z => ?_⟩
      · obtain ⟨rfl, rfl⟩ := oneZ_of z
        exact ⟨q1, dk1.not q2⟩
      · obtain ⟨rfl, rfl⟩ := oneZ_of z
        exact q2
    | _ => exact bh.elim
theorem i_range1 {a : Ex} {x : Expr} {p : Pos} (hg : Gl X "range") (hm : X.mg "range" = none) (hs : notStar x = true) (ha : PE X x (tE X.K cf G.O a)) : PI X tg (.Call (.Name "range" p) [x] [] pos) (tI X.K cf G.O (.cons (.range1 a) .nil)) := by
  refine ⟨fun pins s0 σ H Rq I h => (pi_range1 hg hm (pa_cons ha pa_nil (star_of hs _ _)) (star_of hs _ _)).run pins s0 σ H Rq I ?_⟩
  obtain ⟨en, s, dr, R, rel, bh⟩ := h
  simp only [evi, ev] at bh
  refine ⟨en, s, dr, R, rel, ?_⟩
  cases eb : ev cf a en s with
  | exc c s0 => rw [eb] at bh; exact bh
  | bad => rw [eb] at bh; exact bh
  | ok d' s0 =>
    rw [eb] at bh
    simp only [Out.bind_ok] at bh
    intro dr1 R1 H1 g1 sb1 dk1 vx rx
    cases d' with
    | int n =>
      simp only at bh
      by_cases c : n ≤ lim ∧ -1000000 ≤ n
      · rw [if_pos c] at bh
        simp only [Out.bind_ok] at bh
        have hl : (lim : Int) = 1000000 := by decide
        exact ⟨n, by rw [rx.int], by omega, by omega, (Beh.trans bh g1).ok (Grow.refl _ _ _) sb1 dk1 _ _ (itOk_range 0 n.toNat (by omega)) (fun a o z => nomatch z) fun _ a o z => nomatch z⟩
      · rw [if_neg c] at bh
        exact bh.elim
    | _ => exact bh.elim
theorem i_range2 {a b : Ex} {x y : Expr} {p : Pos} (hg : Gl X "range") (hm : X.mg "range" = none) (hs : notStar x = true) (hs2 : notStar y = true) (ha : PE X x (tE X.K cf G.O a)) (hb : PE X y (tE X.K cf G.O b)) : PI X tg (.Call (.Name "range" p) [x, y] [] pos) (tI X.K cf G.O (.cons (.range2 a b) .nil)) := by
  refine ⟨fun pins s0 σ H Rq I h => (pi_range2 hg hm (pa_cons ha (pa_cons hb pa_nil (star_of hs2 _ _)) (star_of hs _ _)) (by rw [star_of hs, star_of hs2]; rfl) (star_of hs2 _ _)).run pins s0 σ H Rq I ?_⟩
  obtain ⟨en, s, dr, R, rel, bh⟩ := h
  simp only [evi, ev] at bh
  refine ⟨en, s, dr, R, rel, ?_⟩
  cases eb : ev cf a en s with
  | exc c s0 => rw [eb] at bh; exact bh
  | bad => rw [eb] at bh; exact bh
  | ok d' s0 =>
    rw [eb] at bh
    simp only [Out.bind_ok] at bh
    intro dr1 R1 H1 g1 sb1 dk1 vx rx
    refine ⟨en, s0, dr1, R1, rel.grow g1 sb1 dk1, ?_⟩
    cases ec : ev cf b en s0 with
    | exc c s0 => rw [ec] at bh; exact Beh.trans bh g1
    | bad => rw [ec] at bh; exact bh
    | ok d2 s2 =>
      rw [ec] at bh
      simp only [Out.bind_ok] at bh
      intro dr2 R2 H2 g2 sb2 dk2 vy ry
      cases d' with
      | int m =>
        cases d2 with
        | int n =>
          simp only at bh
          by_cases c : n ≤ lim ∧ -1000000 ≤ n ∧ m ≤ lim ∧ 0 ≤ m
          · rw [if_pos c] at bh
            simp only [Out.bind_ok] at bh
            have hl : (lim : Int) = 1000000 := by decide
            exact ⟨m, n, by rw [rx.int, ry.int], ⟨by omega, by omega, by omega, by omega⟩, (Beh.trans bh (g1.trans g2)).ok (Grow.refl _ _ _) sb2 dk2 _ _ (itOk_range m (n - m).toNat (by omega)) (fun a o z => nomatch z) fun _ a o z => nomatch z⟩
          · rw [if_neg c] at bh
            exact bh.elim
        | _ => exact bh.elim
      | _ => cases d2 <;> exact bh.elim
theorem i_enum {a : Ex} {x : Expr} {p tpos : Pos} {elts : List Expr} {kk : Nat} (hg : Gl X "enumerate") (hm : X.mg "enumerate" = none) (hs : notStar x = true) (ha : PE X x (tE X.K cf G.O a)) : PI X (.Tuple elts kk tpos) (.Call (.Name "enumerate" p) [x] [] pos) (tI X.K cf G.O (.enum a)) := by
  refine ⟨fun pins s0 σ H Rq I h => (pi_enum hg hm (pa_cons ha pa_nil (star_of hs _ _)) (star_of hs _ _)).run pins s0 σ H Rq I ?_⟩
  obtain ⟨en, s, dr, R, rel, bh⟩ := h
  simp only [evi] at bh
  refine ⟨en, s, dr, R, rel, bh.bind fun d s1 ex k1 => ?_⟩
  intro dr1 R1 H1 g1 sb1 dk1 vx rx
  have k2 := k1 dr1 R1 H1 g1 sb1
  cases d with
  | lst ds =>
    obtain ⟨p, xs, rfl, q1, q3, q4, q5⟩ := rx.lstZ sb1 dk1
    refine ⟨p, xs, rfl, SqL.of q1, k2.ok (Grow.refl _ _ _) sb1 dk1 _ _ (itOk_enum q3 rx.sh.lstLen) (fun a o z => ?_) fun n a o z => ?_⟩
    · obtain ⟨rfl, rfl⟩ := oneZ_of z
      exact ⟨q1, q4⟩
    · obtain ⟨rfl, rfl⟩ := oneZ_of z
      exact q5 n
  | _ => exact k2.elim
theorem i_zip {a b : Ex} {x y : Expr} {p tpos : Pos} {elts : List Expr} {kk : Nat} (hg : Gl X "zip") (hm : X.mg "zip" = none) (hs : notStar x = true) (hs2 : notStar y = true) (ha : PE X x (tE X.K cf G.O a)) (hb : PE X y (tE X.K cf G.O b)) : PI X (.Tuple elts kk tpos) (.Call (.Name "zip" p) [x, y] [] pos) (tI X.K cf G.O (.zip a b)) := by
  refine ⟨fun pins s0 σ H Rq I h => (pi_zip hg hm (pa_cons ha (pa_cons hb pa_nil (star_of hs2 _ _)) (star_of hs _ _)) (star_of hs _ _) (by rw [star_of hs2]; rfl)).run pins s0 σ H Rq I ?_⟩
  obtain ⟨en, s, dr, R, rel, bh⟩ := h
  simp only [evi] at bh
  refine ⟨en, s, dr, R, rel, bh.bind fun d s1 ex k1 => ?_⟩
  intro dr1 R1 H1 g1 sb1 dk1 vx rx
  refine ⟨en, s1, dr1, R1, rel.grow g1 sb1 dk1, (k1 dr1 R1 H1 g1 sb1).bind fun d2 s2 ey k2 => ?_⟩
  intro dr2 R2 H2 g2 sb2 dk2 vy ry
  have k3 := k2 dr2 R2 H2 g2 sb2
  cases d with
  | lst ds =>
    cases d2 with
    | lst es =>
      obtain ⟨p1, xs, rfl, q1, q3, q4, q5⟩ := (rx.grow g2).lstZ sb2 dk2
      obtain ⟨p2, ys, rfl, r1, r3, r4, r5⟩ := ry.lstZ sb2 dk2
      let Z : Hp := fun c => if c = p1 then some (.lst xs) else if c = p2 then some (.lst ys) else none
      have z1 : Z p1 = some (.lst xs) := by simp [Z]
      have z2 : Z p2 = some (.lst ys) := by
        by_cases q : p2 = p1
        · subst q
          rw [z1]
          rw [q1] at r1
          exact r1
        · simp [Z, q]
      have zz : ∀ c o, Z c = some o → (c = p1 ∧ o = .lst xs) ∨ (c = p2 ∧ o = .lst ys) := by
        intro c o h
        simp only [Z] at h
        split at h
        · rename_i q; cases h; exact .inl ⟨q, rfl⟩
        · split at h
          · rename_i q; cases h; exact .inr ⟨q, rfl⟩
          · cases h
      refine ⟨p1, p2, xs, ys, rfl, SqL.of q1, SqL.of r1, k3.ok (Grow.refl _ _ _) sb2 dk2 _ Z (itOk_zip z1 z2 q3 r3 rx.sh.lstLen) (fun c o z => ?_) fun n c o z => ?_⟩
      · rcases zz c o z with ⟨rfl, rfl⟩ | ⟨rfl, rfl⟩
        · exact ⟨q1, q4⟩
        · exact ⟨r1, r4⟩
      · simp only [isOwnI, isOwnS, Bool.or_eq_false_iff] at n
        rcases zz c o z with ⟨rfl, rfl⟩ | ⟨rfl, rfl⟩
        · exact q5 n.1
        · exact r5 n.2
    | _ => exact k3.elim
  | _ => cases d2 <;> exact k3.elim
theorem i_enumZip {a b : Ex} {x y : Expr} {p p' pos' tpos : Pos} {elts : List Expr} {kk : Nat} (hg : Gl X "zip") (hm : X.mg "zip" = none) (hg' : Gl X "enumerate") (hm' : X.mg "enumerate" = none) (hs : notStar x = true) (hs2 : notStar y = true) (ha : PE X x (tE X.K cf G.O a)) (hb : PE X y (tE X.K cf G.O b)) : PI X (.Tuple elts kk tpos) (.Call (.Name "enumerate" p') [.Call (.Name "zip" p) [x, y] [] pos] [] pos') (tI X.K cf G.O (.enumZip a b)) := by
  refine ⟨fun pins s0 σ H Rq I h => (pi_enumZip hg hm hg' hm' (pa_cons ha (pa_cons hb pa_nil (star_of hs2 _ _)) (star_of hs _ _)) (star_of hs _ _) (by rw [star_of hs2]; rfl)).run pins s0 σ H Rq I ?_⟩
  obtain ⟨en, s, dr, R, rel, bh⟩ := h
  simp only [evi] at bh
  refine ⟨en, s, dr, R, rel, bh.bind fun d s1 ex k1 => ?_⟩
  intro dr1 R1 H1 g1 sb1 dk1 vx rx
  refine ⟨en, s1, dr1, R1, rel.grow g1 sb1 dk1, (k1 dr1 R1 H1 g1 sb1).bind fun d2 s2 ey k2 => ?_⟩
  intro dr2 R2 H2 g2 sb2 dk2 vy ry
  have k3 := k2 dr2 R2 H2 g2 sb2
  cases d with
  | lst ds =>
    cases d2 with
    | lst es =>
      obtain ⟨p1, xs, rfl, q1, q3, q4, q5⟩ := (rx.grow g2).lstZ sb2 dk2
      obtain ⟨p2, ys, rfl, r1, r3, r4, r5⟩ := ry.lstZ sb2 dk2
      let Z : Hp := fun c => if c = p1 then some (.lst xs) else if c = p2 then some (.lst ys) else none
      have z1 : Z p1 = some (.lst xs) := by simp [Z]
      have z2 : Z p2 = some (.lst ys) := by
        by_cases q : p2 = p1
        · subst q
          rw [z1]
          rw [q1] at r1
          exact r1
        · simp [Z, q]
      have zz : ∀ c o, Z c = some o → (c = p1 ∧ o = .lst xs) ∨ (c = p2 ∧ o = .lst ys) := by
        intro c o h
        simp only [Z] at h
        split at h
        · rename_i q; cases h; exact .inl ⟨q, rfl⟩
        · split at h
          · rename_i q; cases h; exact .inr ⟨q, rfl⟩
          · cases h
      refine ⟨p1, p2, xs, ys, rfl, SqL.of q1, SqL.of r1, k3.ok (Grow.refl _ _ _) sb2 dk2 _ Z (itOk_enumZip z1 z2 q3 r3 rx.sh.lstLen) (fun c o z => ?_) fun n c o z => ?_⟩
      · rcases zz c o z with ⟨rfl, rfl⟩ | ⟨rfl, rfl⟩
        · exact ⟨q1, q4⟩
        · exact ⟨r1, r4⟩
      · simp only [isOwnI, isOwnS, Bool.or_eq_false_iff] at n
        rcases zz c o z with ⟨rfl, rfl⟩ | ⟨rfl, rfl⟩
        · exact q5 n.1
        · exact r5 n.2
    | _ => exact k3.elim
  | _ => cases d2 <;> exact k3.elim
end
end BG

/-! BG.SoundX: comprehensions; the checker is right for all expressions. -/
namespace BG
open PySem PySem.Spec PyProof.Rows L2

/-- the block of a comprehension -/
abbrev GC.inn (G : GC) (scope : Scope) : GC := { G with sc := relS scope G.sc, blk := some scope }
theorem Cok.inn {X : Cx} {G : GC} {cf : CF} {k : Nat} (C : Cok X G cf k) (scope : Scope) (s : Shared) (H : Hp) (D : Addr) (cl : List (Str × Addr)) (fp : List Addr) :
    Cok (X.blk s H scope (compEnvC scope cl D X.env) fp) (G.inn scope) cf.no k where
  sc := by
    show relabel scope X.env = relS scope G.sc
    rw [← C.sc]
    rfl
  N := C.N
  nd := C.nd
  calm := C.calm
  room := C.room
  fn := fun x h => by
    have := h scope rfl
    show (scope.names.lookup x == some .cell) = true
    rw [this]
    rfl
  fns := C.fns
  free := C.free
  cons := C.cons
  tk := Takes.imp takes0 fun _ _ _ _ ⟨_, _, _, z⟩ => z
  excs := C.excs

theorem ownOf_snd {N : List Str} : ∀ {l : List Nat}, l.all (fun i => (N[i]?).isSome) = true → (ownOf N l).map (·.2) = l
  | [], _ => rfl
  | i :: l, h => by
    simp only [List.all_cons, Bool.and_eq_true] at h
    have ih := ownOf_snd h.2
    unfold ownOf at ih ⊢
    cases e : N[i]? with
    | none => rw [e] at h; simp at h
    | some x =>
      simp only [List.filterMap_cons, e, Option.map_some, List.map_cons]
      rw [ih]

theorem wipeE_len (e : Env) : ∀ l : List Nat, (wipeE e l).length = e.length
  | [] => rfl
  | i :: l => by simp [wipeE, wipeE_len e l]
theorem wipeE_get {e : Env} {i : Nat} {d : Val} : ∀ {l : List Nat}, (wipeE e l)[i]? = some (some d) → e[i]? = some (some d) ∧ i ∉ l
  | [], h => ⟨h, by simp⟩
  | v :: l, h => by
    unfold wipeE at h
    by_cases q : v = i
    · subst q
      rw [List.getElem?_set] at h
      simp only [if_true] at h
      split at h <;> simp at h
    · rw [List.getElem?_set_ne q] at h
      obtain ⟨a, b⟩ := wipeE_get h
      exact ⟨a, fun m => by rcases List.mem_cons.mp m with rfl | m; exact q rfl; exact b m⟩
theorem Rel.wipe {K : PySem.W.Frag} {O S : List Nat} {e : Env} {s : DSt} {dr : Dr} {R H : Hp} {σ : St} (r : Rel K O e s dr R σ H) : Rel K O (wipeE e S) s dr R (L2.wipe σ S) H where
  sub := r.sub
  len := by rw [wipe_length, wipeE_len, r.len]
  val := fun i d h => by
    obtain ⟨h1, h2⟩ := wipeE_get h
    obtain ⟨v, h3, h4⟩ := r.val i d h1
    exact ⟨v, by rw [wipe_out h2]; exact h3, h4⟩
  dist := fun i j a d d' hi hj hn h1 h2 h3 h4 => by
    obtain ⟨a1, a2⟩ := wipeE_get h1
    obtain ⟨b1, b2⟩ := wipeE_get h2
    exact r.dist i j a d d' hi hj hn a1 b1 (wipe_some h3).1 (wipe_some h4).1
  drok := r.drok
theorem wipe_ext {σ σ' : St} {S : List Nat} (hl : σ.length = σ'.length) (h : ∀ i : Nat, i ∉ S → σ[i]? = σ'[i]?) : L2.wipe σ S = L2.wipe σ' S := by
  apply List.ext_getElem?
  intro i
  by_cases q : i ∈ S
  · have w : ∀ (τ : St) (l : List Nat), i ∈ l → (L2.wipe τ l)[i]? = if i < τ.length then some none else none := by
      intro τ l
      induction l with
      | nil => intro m; cases m
      | cons v l ih =>
        intro m
        unfold L2.wipe
        by_cases c : v = i
        · subst c
          rw [List.getElem?_set]
          simp only [if_true]
          rw [wipe_length]
        · rw [List.getElem?_set_ne c]
          rcases List.mem_cons.mp m with rfl | m
          · exact absurd rfl c
          · exact ih m
    rw [w σ S q, w σ' S q, hl]
  · rw [wipe_out q, wipe_out q]
    exact h i q
theorem wipe_wipe_out {σ : St} {S : List Nat} {i : Nat} (h : i ∉ S) : (L2.wipe σ S)[i]? = σ[i]? := wipe_out h

/-- a new list that nothing else holds; Hs: the heap ahead of the expression -/
def OwnF (K : PySem.W.Frag) (dr : Dr) (R Hs H : Hp) (v : V) (d : Val) : Prop :=
  ∃ a o, v = .ref a ∧ H a = some o ∧ R a = none ∧ NotDr dr a ∧ ObjR K dr R a o d ∧ Hs a = none
def tF (K : PySem.W.Frag) (cf : CF) (O : List Nat) (c : Ex) : TE := fun σ H Q => ∃ e s dr R, Rel K O e s dr R σ H ∧
  Beh K (cf.at σ) dr R H (ev cf c e s) fun d dr' R' H' => ∀ v, OwnF K dr' R' H H' v d → Q v H'
theorem tF_of_tE {K : PySem.W.Frag} {cf : CF} {O : List Nat} {c : Ex} (hc : isOwn O c = false) : ∀ σ H Q, tE K cf O c σ H Q → tF K cf O c σ H Q := by
  intro σ H Q ⟨en, s, dr, R, rel, bh⟩
  refine ⟨en, s, dr, R, rel, ?_⟩
  cases eo : ev cf c en s with
  | exc c s0 => rw [eo] at bh; exact bh
  | bad => rw [eo] at bh; exact bh.elim
  | ok d s1 =>
    rw [eo] at bh
    intro dr1 R1 H1 g1 sb1 dk1 v ⟨a, o, e1, h1, h2, h3, h4, h6⟩
    subst e1
    have sr : Sub R1 (L2.upd R1 a o) := fun b o h => by rw [upd_ne (fun z => by rw [z, h2] at h; cases h)]; exact h
    refine bh dr1 (L2.upd R1 a o) H1 ⟨g1.rs.trans sr, fun b o h n => ?_, g1.keep, g1.dom, g1.drl, g1.drn⟩ (fun b o h => ?_) (dk1.upd h3 h2) _ (Res.of hc ((h4.mono (DrLe.refl _) sr).rp upd_same))
    · by_cases z : b = a
      · rw [z]; exact .inl h6
      · rw [upd_ne z] at h; exact g1.new b o h n
    · by_cases z : b = a
      · subst z; rw [upd_same] at h; cases h; exact h1
      · rw [upd_ne z] at h; exact sb1 b o h
/-- a clause's test, or none -/
def condE (cf : CF) (cond elt : Ex) : Env → DSt → Out (Option Val) := fun e s => match cond with
  | .no => (ev cf elt e s).bind fun y s => .ok (some y) s
  | _ => (ev cf cond e s).bind fun x s => match x with
    | .bl true => (ev cf elt e s).bind fun y s => .ok (some y) s
    | .bl false => .ok none s
    | _ => .bad
/-- the reading of a clause's tests -/
def ttOf (K : PySem.W.Frag) (cf : CF) (O : List Nat) : Ex → TT
  | .no => tYes
  | c => tT K cf O c
section
variable {X : Cx} {G : GC} {cf : CF} {k : Nat} {pos : Pos}
/-- one turn behind the target: what is wanted behind the test and the element -/
theorem cond_run {K : PySem.W.Frag} {O : List Nat} {cond elt : Ex} (ho : isOwn O elt = false) {e : Env} {s : DSt} {dr : Dr} {R H : Hp} {σ : St} (rel : Rel K O e s dr R σ H) {o : Option Val} {s' : DSt} (he : condE cf cond elt e s = .ok o s') {T : Bool → Hp → Prop}
    (hy : ∀ y, o = some y → ∀ H1, (tE K cf.no O elt σ H1 fun v H4 => ∃ dr4 R4, Grow dr dr4 R R4 H H4 ∧ Sub R4 H4 ∧ DrOk K dr4 s' R4 H4 ∧ Rp K dr4 R4 v y) → T true H1) (hn : o = none → ∀ dr' R' H', Grow dr dr' R R' H H' → Sub R' H' → DrOk K dr' s' R' H' → T false H') :
    ttOf K cf.no O cond σ H T := by
  have key : ∀ s1 dr1 R1 H1, Grow dr dr1 R R1 H H1 → Sub R1 H1 → DrOk K dr1 s1 R1 H1 → ∀ y, o = some y → ev cf elt e s1 = .ok y s' → T true H1 := by
    intro s1 dr1 R1 H1 g1 sb1 dk1 y ey ee
    refine hy y ey H1 ⟨e, s1, dr1, R1, rel.grow g1 sb1 dk1, ?_⟩
    show Beh K _ dr1 R1 H1 (ev cf.f elt e s1) _
    rw [ee]
    intro dr2 R2 H2 g2 sb2 dk2 v rv
    exact ⟨dr2, R2, g1.trans g2, sb2, dk2, rv.rp ho⟩
  by_cases hc : cond = .no
  · subst hc
    simp only [condE] at he
    cases e1 : ev cf elt e s with
    | ok y s1 =>
      rw [e1] at he
      simp only [Out.bind_ok, Out.ok.injEq] at he
      obtain ⟨rfl, rfl⟩ := he
      exact key s dr R H (Grow.refl _ _ _) rel.sub rel.drok y rfl e1
    | exc c s1 => rw [e1] at he; simp at he
    | bad => rw [e1] at he; simp at he
  · have h1 : condE cf cond elt e s = (ev cf cond e s).bind fun x s => match x with
        | .bl true => (ev cf elt e s).bind fun y s => .ok (some y) s
        | .bl false => .ok none s
        | _ => .bad := by
      cases cond <;> first | rfl | exact absurd rfl hc
    have h2 : ttOf K cf.no O cond = tT K cf.no O cond := by
      cases cond <;> first | rfl | exact absurd rfl hc
    rw [h1] at he
    rw [h2]
    refine ⟨e, s, dr, R, rel, ?_⟩
    show Beh K _ dr R H (ev cf.f cond e s) _
    cases e1 : ev cf cond e s with
    | exc c s1 => rw [e1] at he; simp at he
    | bad => rw [e1] at he; simp at he
    | ok x s1 =>
      rw [e1] at he
      simp only [Out.bind_ok] at he
      intro dr1 R1 H1 g1 sb1 dk1
      cases x with
      | bl b =>
        refine ⟨b, rfl, ?_⟩
        cases b with
        | true =>
          simp only at he
          cases e2 : ev cf elt e s1 with
          | exc c s2 => rw [e2] at he; simp at he
          | bad => rw [e2] at he; simp at he
          | ok y s2 =>
            rw [e2] at he
            simp only [Out.bind_ok, Out.ok.injEq] at he
            obtain ⟨rfl, rfl⟩ := he
            exact key s1 dr1 R1 H1 g1 sb1 dk1 y rfl e2
        | false =>
          simp only [Out.ok.injEq] at he
          obtain ⟨rfl, rfl⟩ := he
          exact hn rfl dr1 R1 H1 g1 sb1 dk1
      | _ => simp at he
theorem comp_runO {t : Tg} {src cond elt : Ex} (ho : isOwn G.O elt = false) (hS : ∀ i ∈ slots t, i ∉ G.O) : ∀ σ H Q, tF X.K cf G.O (.comp t src cond elt) σ H Q → tLc (tI X.K cf G.O src) (gTg X.K t) (ttOf X.K cf.no G.O cond) (tE X.K cf.no G.O elt) (slots t) σ H Q := by
  intro σ H Q ⟨en, s, dr, R, rel, bh⟩
  have hev : ev cf (.comp t src cond elt) en s = (evi cf src en s).bind fun xs s => (compL (condE cf cond elt) t (wipeE en (slots t)) xs s).noexc.bind fun ys s => .ok (.lst ys) s := by
    simp only [ev]
    rfl
  rw [hev] at bh
  refine ⟨en, s, dr, R, rel, bh.bind fun xs s1 ex k1 => ?_⟩
  intro dr1 R1 H1 g1 sb1 dk1 J Z itok zok _ D hD
  obtain ⟨ys, s2, ec, k2⟩ := (k1 dr1 R1 H1 g1 sb1).nox
  refine ⟨fun i m H' => m = xs.length - i ∧ i ≤ xs.length ∧ ∃ si dri Ri acc accd rest, Rel X.K G.O en si dri Ri σ H' ∧ Grow dr1 dri R1 Ri H1 H' ∧ H' D = some (.lst acc) ∧ Ri D = none ∧ NotDr dri D ∧ RpAll X.K dri Ri acc accd ∧ compL (condE cf cond elt) t (wipeE en (slots t)) (xs.drop i) si = .ok rest s2 ∧ ys = accd ++ rest ∧ acc.length ≤ i, ?_, ?_⟩
  · obtain ⟨g, sb⟩ := grow_out (dr := dr1) (o := .lst []) hD sb1
    obtain ⟨rD, nD⟩ := new_free sb1 dk1 hD
    exact ⟨xs.length - 0, rfl, Nat.zero_le _, s1, dr1, R1, [], [], ys, rel.grow (g1.trans g) sb (dk1.laidO hD), g, upd_same, rD, nD, .nil, ec, rfl, Nat.le_refl _⟩
  · rintro i m H' ⟨rfl, hi, si, dri, Ri, acc, accd, rest, reli, gi, hacc, rD, nD, ra, hc, hy, hla⟩
    have zs : ∀ H2, (∀ a o, H' a = some o → NotDr dri a → H2 a = some o) → Sub Z H2 := fun H2 kp a o q => by
      obtain ⟨z1, z2⟩ := zok a o q
      exact kp a o (gi.keep a o z1 z2) (z2.of_le z1 gi.drl gi.drn)
    by_cases hd : i = xs.length
    · left
      subst hd
      refine ⟨itok.stop _ H' (Nat.le_refl _) (zs H' fun a o h _ => h), ?_⟩
      rw [List.drop_length] at hc
      simp only [compL, Out.ok.injEq] at hc
      obtain ⟨rfl, rfl⟩ := hc
      rw [List.append_nil] at hy
      subst hy
      exact (k2 dri Ri H' gi reli.sub).ok (Grow.refl _ _ _) reli.sub reli.drok _ ⟨D, .lst acc, rfl, hacc, rD, nD, .lst ra (by rw [← ra.len]; have := itok.few; omega), g1.dom D hD⟩
    · right
      have hlt : i < xs.length := by omega
      obtain ⟨hgo, hyld⟩ := itok.go i dri Ri H' hlt gi.drl gi.rs (zs H' fun a o h _ => h) reli.sub
      refine ⟨hgo, fun H'' => ∃ si dri Ri acc accd rest, Rel X.K G.O en si dri Ri σ H'' ∧ Grow dr1 dri R1 Ri H1 H'' ∧ H'' D = some (.lst acc) ∧ Ri D = none ∧ NotDr dri D ∧ RpAll X.K dri Ri acc accd ∧ compL (condE cf cond elt) t (wipeE en (slots t)) (xs.drop (i + 1)) si = .ok rest s2 ∧ ys = accd ++ rest ∧ acc.length ≤ i + 1, fun H'' h => ⟨xs.length - (i + 1), by omega, rfl, by omega, h⟩, fun x H3 hx => ?_⟩
      obtain ⟨R3, d, hd3, rp3, g3, sb3, dk3⟩ := hyld x H3 hx
      rw [List.drop_eq_getElem_cons hlt] at hc
      have ed : xs[i] = d := by
        rw [List.getElem?_eq_getElem hlt] at hd3
        exact Option.some.inj hd3
      rw [ed] at hc
      unfold compL at hc
      cases eb : bindT t d (wipeE en (slots t)) with
      | none => rw [eb] at hc; simp at hc
      | some e' =>
        rw [eb] at hc
        simp only at hc
        cases eo : condE cf cond elt e' si with
        | exc c s0 => rw [eo] at hc; simp at hc
        | bad => rw [eo] at hc; simp at hc
        | ok o s3 =>
          rw [eo] at hc
          simp only [Out.bind_ok] at hc
          cases er : compL (condE cf cond elt) t (wipeE en (slots t)) (xs.drop (i + 1)) s3 with
          | exc c s0 => rw [er] at hc; simp at hc
          | bad => rw [er] at hc; simp at hc
          | ok r s4 =>
            rw [er] at hc
            simp only [Out.bind_ok, Out.ok.injEq] at hc
            obtain ⟨hc1, rfl⟩ := hc
            have rel3 : Rel X.K G.O en si dri R3 σ H3 := reli.grow g3 sb3 (dk3 si reli.drok)
            have D3 : H3 D = some (.lst acc) := g3.keep D _ hacc nD
            have r3 : R3 D = none := g3.no hacc (fun _ z => nomatch z) rD nD
            refine gTg_run sb3 t rp3 eb (by rw [wipe_length, wipeE_len, reli.len]) fun σ2 u => ?_
            have rel4 : Rel X.K G.O e' si dri R3 σ2 H3 := (rel3.wipe (S := slots t)).updO u hS
            refine ⟨?_, ?_⟩
            · have hh : L2.wipe σ2 (slots t) = L2.wipe (L2.wipe σ (slots t)) (slots t) := wipe_ext u.ls fun j hj => (u.out j hj).2
              rw [hh]
              exact wipe_ext (wipe_length _ _) fun j hj => wipe_out hj
            · refine cond_run ho rel4 eo (fun y ey H5 hE => ?_) fun en' dr5 R5 H5 g5 sb5 dk5 => ?_
              · subst ey
                simp only at hc1
                rw [if_pos rfl]
                obtain ⟨e6, s6, dr6, R6, rel6, b6⟩ := hE
                refine ⟨e6, s6, dr6, R6, rel6, b6.imp fun dd dr7 R7 H7 w v rv => ?_⟩
                obtain ⟨dr8, R8, g8, sb8, dk8, rp8⟩ := w v rv
                have D8 : H7 D = some (.lst acc) := g8.keep D _ D3 nD
                have r8 : R8 D = none := g8.no D3 (fun _ z => nomatch z) r3 nD
                have n8 : NotDr dr8 D := nD.of_le D3 g8.drl g8.drn
                have hz : acc.length < lim := Nat.lt_of_lt_of_le (by omega : acc.length < xs.length) itok.few
                refine ⟨acc, D8, lim_line1 hz, s3, dr8, R8, acc ++ [v], accd ++ [y], r, ?_, ?_, upd_same, r8, n8, ?_, er, ?_, ?_⟩
                · have rr : Rel X.K G.O en s3 dr8 R8 σ H7 := rel3.grow g8 sb8 dk8
                  refine ⟨fun a o h => ?_, rr.len, fun j dj hj => ?_, rr.dist, ?_⟩
                  · rw [upd_ne (fun z => by rw [z, r8] at h; cases h)]; exact sb8 a o h
                  · obtain ⟨vj, h1, h2⟩ := rr.val j dj hj
                    refine ⟨vj, h1, ?_⟩
                    by_cases q : j ∈ G.O
                    · rw [if_pos q] at h2 ⊢
                      obtain ⟨a, o', rfl, c1, c2, c3, c4⟩ := h2
                      refine ⟨a, o', rfl, ?_, c2, c3, c4⟩
                      -- an owned list is another one than the new
                      have : a ≠ D := by
                        intro z
                        subst z
                        obtain ⟨v0, z1, z2⟩ := rel.val j _ hj
                        rw [z1] at h1
                        cases h1
                        rw [if_pos q] at z2
                        obtain ⟨b, _, eb, hb, _, nb, _⟩ := z2
                        cases eb
                        rw [g1.keep _ _ hb nb] at hD
                        cases hD
                      rw [upd_ne this]
                      exact c1
                    · rw [if_neg q] at h2 ⊢
                      exact h2
                  · exact dk8.updH n8
                · have gg : Grow dr1 dr8 R1 R8 H1 H7 := gi.trans (g3.trans g8)
                  refine ⟨gg.rs, gg.new, fun a o h n => ?_, fun a h => ?_, gg.drl, gg.drn⟩
                  · rw [upd_ne (fun z => by rw [z, hD] at h; cases h)]
                    exact gg.keep a o h n
                  · by_cases z : a = D
                    · rw [z]; exact hD
                    · rw [upd_ne z] at h; exact gg.dom a h
                · exact RpAll.append (RpAll.mono g8.drl (g3.rs.trans g8.rs) _ ra) (.cons rp8 .nil)
                · rw [hy, ← hc1]; simp
                · simp; omega
              · subst en'
                simp only at hc1
                rw [if_neg Bool.false_ne_true]
                have D8 : H5 D = some (.lst acc) := g5.keep D _ D3 nD
                have r8 : R5 D = none := g5.no D3 (fun _ z => nomatch z) r3 nD
                exact ⟨s3, dr5, R5, acc, accd, r, rel3.grow g5 sb5 dk5, gi.trans (g3.trans g5), D8, r8, nD.of_le D3 g5.drl g5.drn, RpAll.mono g5.drl (g3.rs.trans g5.rs) _ ra, er, by rw [hy, hc1], by omega⟩
theorem comp_run {t : Tg} {src cond elt : Ex} (ho : isOwn G.O elt = false) (hS : ∀ i ∈ slots t, i ∉ G.O) : ∀ σ H Q, tE X.K cf G.O (.comp t src cond elt) σ H Q → tLc (tI X.K cf G.O src) (gTg X.K t) (ttOf X.K cf.no G.O cond) (tE X.K cf.no G.O elt) (slots t) σ H Q := fun σ H Q h => comp_runO ho hS σ H Q (tF_of_tE rfl σ H Q h)
theorem fold_of {it : Expr} (h : notSet it = true) (env : PySem.Env) : ∀ x, foldedSetIterable it env x = pure x := by
  intro x
  cases it <;> first | rfl | simp [notSet] at h
/-! ### new objects -/
theorem newO {K : PySem.W.Frag} {dr : Dr} {R Hs H : Hp} {s : DSt} {o : HO} {d : Val} {Q : VK} {p : Addr} (sb : Sub R H) (dk : DrOk K dr s R H) (r : ObjR K dr R p o d) (hd : ∀ a, H a = none → Hs a = none) (hp : H p = none)
    (f : ∀ dr' R' H', Grow dr dr' R R' H H' → Sub R' H' → DrOk K dr' s R' H' → ∀ v, OwnF K dr' R' Hs H' v d → Q v H') : Q (.ref p) (L2.upd H p o) := by
  obtain ⟨g, sb'⟩ := grow_out (dr := dr) (o := o) hp sb
  obtain ⟨rp, nd⟩ := new_free sb dk hp
  exact f dr R _ g sb' (dk.laidO hp) _ ⟨p, o, rfl, upd_same, rp, nd, r, hd p hp⟩
theorem Grow.updNew {dr dr' : Dr} {R R' H H' : Hp} {p : Addr} {o : HO} (g : Grow dr dr' R R' H H') (hp : H p = none) : Grow dr dr' R R' H (L2.upd H' p o) where
  rs := g.rs
  new := g.new
  keep := fun a u h n => by
    rw [upd_ne (fun z => by rw [z, hp] at h; cases h)]
    exact g.keep a u h n
  dom := fun a h => by
    by_cases z : a = p
    · rw [z]; exact hp
    · rw [upd_ne z] at h; exact g.dom a h
  drl := g.drl
  drn := g.drn
theorem f_dnewN : PE X (.Dict [] [] pos) (tF X.K cf G.O .dnewN) := by
  refine PE.weak pe_dnewN fun σ H Q ⟨en, s, dr, R, rel, bh⟩ p hp => ?_
  simp only [ev] at bh
  exact newO (K := X.K) rel.sub rel.drok (.inr (.inr ⟨[], [], [], rfl, rfl, rfl, rfl, .nil, .nil, Nat.zero_le _⟩)) (fun _ h => h) hp fun dr' R' H' g sb dk v rv => bh.ok g sb dk v rv
theorem f_dlit (C : Cok X G cf k) {a b : Ex} {x y : Expr} (h1 : isOwn G.O a = false) (h2 : isOwn G.O b = false) (ha : PE X x (tE X.K cf G.O a)) (hb : PE X y (tE X.K cf G.O b)) : PE X (.Dict [some x] [y] pos) (tF X.K cf G.O (.dlit a b)) := by
  have hu : X.A.units + 64 < cLine := C.room.units
  refine PE.weak (PE.or (pe_dlitN hu ha hb) (pe_disp (pps_cons ha hb pps_nil) rfl rfl (by intro z; cases z) (by show 1 ≤ 15; decide))) fun σ H Q ⟨en, s, dr, R, rel, bh⟩ => ?_
  simp only [ev] at bh
  obtain ⟨q, s1, ea, k1⟩ := bh.nox
  obtain ⟨yv, s2, eb, k2⟩ := (k1 dr R H (Grow.refl _ _ _) rel.sub).nox
  have k0 := k2 dr R H (Grow.refl _ _ _) rel.sub
  have hg : (isTupK q || isI q) = true := by
    cases c : (isTupK q || isI q) with
    | true => rfl
    | false =>
      rw [c] at k0
      exact k0.elim
  rw [hg, if_pos rfl] at k0
  have fin : ∀ (p : Addr) (o0 o : HO) (dr2 : Dr) (R2 H2 : Hp), (∀ xs, o0 ≠ .tup xs) → H p = none → Grow dr dr2 R R2 (L2.upd H p o0) H2 → Sub R2 H2 → DrOk X.K dr2 s2 R2 H2 → ObjR X.K dr2 R2 p o (.dcn [q] [yv]) → Q (.ref p) (L2.upd H2 p o) := by
    intro p o0 o dr2 R2 H2 nt hp g sb dk r
    obtain ⟨rp, nd⟩ := new_free rel.sub rel.drok hp
    obtain ⟨g0, sb0⟩ := grow_out (dr := dr) (o := o0) hp rel.sub
    have r2 : R2 p = none := g.no upd_same nt rp nd
    have n2 : NotDr dr2 p := nd.of_le (H := L2.upd H p o0) upd_same g.drl g.drn
    have gg := (g0.trans g).updNew (o := o) hp
    refine k0.ok gg (fun a u hu' => ?_) (dk.updH n2) _ ⟨p, o, rfl, upd_same, r2, n2, r, hp⟩
    rw [upd_ne (fun z => by rw [z, r2] at hu'; cases hu')]
    exact sb a u hu'
  have keepP : ∀ (p : Addr) (o0 : HO) (dr2 : Dr) (R2 H2 : Hp), H p = none → Grow dr dr2 R R2 (L2.upd H p o0) H2 → H2 p = some o0 := fun p o0 dr2 R2 H2 hp g => by
    obtain ⟨rp, nd⟩ := new_free rel.sub rel.drok hp
    exact g.keep p o0 upd_same nd
  by_cases tq : isTupK q = true
  · refine .inl fun p hp => ?_
    obtain ⟨g0, sb0⟩ := grow_out (dr := dr) (o := DN p []) hp rel.sub
    have rel0 : Rel X.K G.O en s dr R σ (L2.upd H p (DN p [])) := rel.grow g0 sb0 (rel.drok.laidO hp)
    refine ⟨en, s, dr, R, rel0, ?_⟩
    rw [ea]
    intro dr1 R1 H1 g1 sb1 dk1 vx rx
    refine ⟨en, s1, dr1, R1, rel0.grow g1 sb1 dk1, ?_⟩
    rw [eb]
    intro dr2 R2 H2 g2 sb2 dk2 vy ry
    have rx2 := (rx.grow g2).rp h1
    obtain ⟨kp, rfl⟩ := tup_ref tq rx2
    refine ⟨q, dr2, R2, kp, keepP p _ dr2 R2 H2 hp (g1.trans g2), sb2, rfl, rx2, tq, fin p _ _ dr2 R2 H2 (by intro _ z; cases z) hp (g1.trans g2) sb2 dk2 ?_⟩
    exact .inr (.inr ⟨[(nk q, kp, vy)], [q], [yv], rfl, rfl, by simp [nks], by simp [tq], .cons rx2 .nil, .cons (ry.rp h2) .nil, by show 1 ≤ lim; decide⟩)
  · have iq : isI q = true := by simpa [tq] using hg
    refine .inr fun p hp => ?_
    obtain ⟨g0, sb0⟩ := grow_out (dr := dr) (o := HO.dK []) hp rel.sub
    have rel0 : Rel X.K G.O en s dr R σ (L2.upd H p (.dK [])) := rel.grow g0 sb0 (rel.drok.laidO hp)
    refine ⟨en, s, dr, R, rel0, ?_⟩
    rw [ea]
    intro dr1 R1 H1 g1 sb1 dk1 vx rx
    refine ⟨en, s1, dr1, R1, rel0.grow g1 sb1 dk1, ?_⟩
    rw [eb]
    intro dr2 R2 H2 g2 sb2 dk2 vy ry
    have rx2 := (rx.grow g2).rp h1
    obtain ⟨i, rfl⟩ := kI_int iq
    cases rx2
    refine ⟨keepP p _ dr2 R2 H2 hp (g1.trans g2), [(.inl i, vy)], rfl, by show 1 ≤ 15; decide, fin p _ _ dr2 R2 H2 (by intro _ z; cases z) hp (g1.trans g2) sb2 dk2 ?_⟩
    exact .inr (.inl ⟨[(.inl i, vy)], [.int i], [yv], rfl, rfl, rfl, rfl, List.cons_ne_nil _ _, .cons (ry.rp h2) .nil, by show 1 ≤ lim; decide⟩)
end
end BG

/-! BG.SoundN: cells read and made, isinstance of exceptions. -/
namespace BG
open PySem PySem.Spec PyProof.Rows L2
section
variable {K : PySem.W.Frag} {dr : Dr} {s : DSt} {R H : Hp}
/-- a live cell -/
theorem DrOk.at (dk : DrOk K dr s R H) {v : V} {n : Nat} {d : Val} (hv : Rp K dr R v (.ref n)) (hd : s.st[n]? = some (some d)) : ∃ a o, v = .ref a ∧ dr.cs[n]? = some (some a) ∧ R a = none ∧ H a = some o ∧ ObjR K dr R a o d := by
  cases hv with
  | cel h ha =>
    cases e : dr.cs[n]? with
    | none => rw [List.getElem?_eq_none_iff] at e; omega
    | some x =>
      cases x with
      | none =>
        rw [dk.ded n e] at hd
        cases hd
      | some b =>
        obtain rfl := ha b e
        obtain ⟨d', o, h1, h2, h3, h4⟩ := dk.cel n _ e
        rw [hd] at h1
        cases h1
        exact ⟨_, o, rfl, rfl, h2, h3, h4⟩
theorem der_some {x d : Val} (h : der s x = some d) : ∃ n, x = .ref n ∧ s.st[n]? = some (some d) := by
  cases x <;> simp only [der] at h <;> try (cases h; done)
  rename_i n
  split at h
  · rename_i d' e
    cases h
    exact ⟨n, rfl, e⟩
  · cases h
/-- what a cell holds, read -/
theorem Sh.cel (dk : DrOk K dr s R H) {v : V} {x d : Val} (hv : Sh K dr R H v x) (hd : der s x = some d) : Sh K dr R H v d := by
  obtain ⟨n, rfl, e⟩ := der_some hd
  rcases hv with hv | hv
  · obtain ⟨a, o, rfl, _, h2, h3, h4⟩ := dk.at hv e
    exact .inr ⟨a, o, rfl, h3, h2, h4⟩
  · exact (hv.not (fun _ z => nomatch z) (fun _ _ z => nomatch z)).elim
theorem dres_dp (dk : DrOk K dr s R H) (sb : Sub R H) : ∀ {ds ys : List Val} {vs : List V}, dresL s ds = some ys → plains ys = true → RpAll K dr R vs ds → DpAll K H vs (toDs ys) ∧ PyData.canLayAll0 (toDs ys) = true ∧ ys.length = ds.length
  | [], ys, _, e, _, h => by
    cases h
    simp [dresL] at e
    subst e
    exact ⟨.nil, rfl, rfl⟩
  | d :: ds, ys, _, e, p, h => by
    cases h with
    | @cons v vs _ _ h hs =>
      have key : ∀ (d' : Val) (r : List Val), dresL s ds = some r → ys = d' :: r → Sh K dr R H v d' → DpAll K H (v :: vs) (toDs ys) ∧ PyData.canLayAll0 (toDs ys) = true ∧ ys.length = (d :: ds).length := by
        intro d' r e2 ey sh
        subst ey
        simp only [plains, Bool.and_eq_true] at p
        obtain ⟨h1, h2, h3⟩ := dres_dp dk sb e2 p.2 hs
        simp only [toDs, PyData.canLayAll0, Bool.and_eq_true, List.length_cons]
        exact ⟨.cons (sh.dp sb p.1) h1, ⟨sh.lay, h2⟩, by rw [h3]⟩
      by_cases q : ∃ n, d = .ref n
      · obtain ⟨n, rfl⟩ := q
        simp only [dresL] at e
        obtain ⟨d', e1, e⟩ := Option.bind_eq_some_iff.mp e
        obtain ⟨r, e2, e3⟩ := Option.map_eq_some_iff.mp e
        exact key d' r e2 e3.symm (Sh.cel dk (.inl h) e1)
      · have e' : (dresL s ds).map (d :: ·) = some ys := by
          cases d <;> first | exact e | exact absurd ⟨_, rfl⟩ q
        obtain ⟨r, e2, e3⟩ := Option.map_eq_some_iff.mp e'
        exact key d r e2 e3.symm (.inl h)
end
section
variable {X : Cx} {G : GC} {cf : CF} {k : Nat} {pos : Pos}
theorem newF {K : PySem.W.Frag} {dr : Dr} {R Hs H : Hp} {s : DSt} {xs : List V} {ds : List Val} {Q : VK} (sb : Sub R H) (dk : DrOk K dr s R H) (hs : RpAll K dr R xs ds) (hl : ds.length ≤ lim) (hd : ∀ a, H a = none → Hs a = none) (p : Addr) (hp : H p = none)
    (f : ∀ dr' R' H', Grow dr dr' R R' H H' → Sub R' H' → DrOk K dr' s R' H' → ∀ v, OwnF K dr' R' Hs H' v (.lst ds) → Q v H') : Q (.ref p) (L2.upd H p (.lst xs)) := by
  exact newO sb dk (.lst hs hl) hd hp f
theorem f_listA {a : Ex} {es : List Expr} (hk : chkAs G a es = true) (hl : es.length ≤ lim) (st : strict G.O a = true) (ha : PA X es (tAs X.K cf G.O a)) : PE X (.List es pos) (tF X.K cf G.O (.list a)) := by
  refine PE.weak (pe_lst ha) fun σ H Q ⟨en, s, dr, R, rel, bh⟩ => ?_
  simp only [ev] at bh
  refine ⟨en, s, dr, R, rel, bh.bind fun ds s1 ex k1 => ?_⟩
  intro dr1 R1 H1 g1 sb1 dk1 vs rs
  have k2 := k1 dr1 R1 H1 g1 sb1
  refine ⟨by rw [chkAs_len G hk rs]; exact lim_line hl, fun p hp => ?_⟩
  exact newF (K := X.K) (s := s1) (Q := Q) sb1 dk1 (rs.rp st) (by rw [← (rs.rp st).len, chkAs_len G hk rs]; exact hl) g1.dom p hp fun dr' R' H' g sb dk v rv => k2.ok g sb dk v rv
/-- a new cell -/
theorem s_box {c : Ex} {e : Expr} (h : PE X e (tF X.K cf G.O c)) : PE X e (tE X.K cf G.O (.box c)) := by
  refine PE.weak h fun σ H Q ⟨en, s, dr, R, rel, bh⟩ => ?_
  refine ⟨en, s, dr, R, rel, ?_⟩
  simp only [ev] at bh
  cases eo : ev cf c en s with
  | exc c s0 => rw [eo] at bh; exact bh
  | bad => rw [eo] at bh; exact bh.elim
  | ok d s1 =>
    rw [eo] at bh
    simp only [Out.bind_ok] at bh
    intro dr1 R1 H1 g1 sb1 dk1 v ⟨a, o, e1, h1, h2, h3, h4, h6⟩
    subst e1
    have hc : isCell d = true := by rcases h4.kind with ⟨ds, rfl⟩ | ⟨ks, vs, rfl⟩ <;> rfl
    rw [hc, if_pos rfl] at bh
    have dl : DrLe dr1 ⟨dr1.dw, dr1.cs ++ [some a]⟩ := ⟨fun _ q => q, by simp, fun i b hi q => by simpa [List.getElem?_append_left hi] using q⟩
    have key : ∀ (i : Nat) b, (dr1.cs ++ [some a])[i]? = some (some b) → dr1.cs[i]? = some (some b) ∨ (i = dr1.cs.length ∧ b = a) := by
      intro i b q
      rcases Nat.lt_or_ge i dr1.cs.length with hi | hi
      · rw [List.getElem?_append_left hi] at q
        exact .inl q
      · rw [List.getElem?_append_right hi] at q
        cases n : i - dr1.cs.length with
        | zero => rw [n] at q; simp at q; exact .inr ⟨by omega, q.symm⟩
        | succ m => rw [n] at q; simp at q
    refine bh ⟨dr1.dw, dr1.cs ++ [some a]⟩ R1 H1 ⟨g1.rs, g1.new, g1.keep, g1.dom, g1.drl.trans dl, fun b n m => ?_⟩ sb1 ⟨dk1.dw, by simp [dk1.len], fun i j b q1 q2 => ?_, fun i b p q1 q2 => ?_, fun i b q => ?_, fun i q => ?_⟩ _ (Res.of rfl (.cel (by simp [dk1.len]) fun b q => ?_))
    · by_cases nd : NotDr dr1 b
      · by_cases z : b = a
        · rw [z]; exact h6
        · exact absurd ⟨nd.dw, fun i q => by rcases key i b q with q | q; exact nd.cs i q; exact z q.2⟩ m
      · exact g1.drn b n nd
    · rcases key i b q1 with r1 | ⟨i1, rfl⟩
      · rcases key j b q2 with r2 | ⟨j1, rfl⟩
        · exact dk1.inj i j b r1 r2
        · exact absurd r1 (h3.cs i)
      · rcases key j b q2 with r2 | ⟨j1, _⟩
        · exact absurd r2 (h3.cs j)
        · omega
    · rcases key i b q1 with q1 | ⟨_, rfl⟩
      · exact dk1.sep i b p q1 q2
      · exact h3.dw p q2
    · rcases key i b q with q | ⟨i1, rfl⟩
      · obtain ⟨d', u, c1, c2, c3, c4⟩ := dk1.cel i b q
        have hl : i < s1.st.length := (List.getElem?_eq_some_iff.mp c1).1
        exact ⟨d', u, by rw [List.getElem?_append_left hl]; exact c1, c2, c3, c4.mono dl (Sub.refl _)⟩
      · refine ⟨d, o, ?_, h2, h1, h4.mono dl (Sub.refl _)⟩
        rw [i1, dk1.len]
        simp
    · have hi : i < dr1.cs.length := by
        rcases Nat.lt_or_ge i dr1.cs.length with hi | hi
        · exact hi
        · rw [List.getElem?_append_right hi] at q
          cases n : i - dr1.cs.length with
          | zero => rw [n] at q; simp at q
          | succ m => rw [n] at q; simp at q
      rw [List.getElem?_append_left hi] at q
      have c1 := dk1.ded i q
      have hl : i < s1.st.length := (List.getElem?_eq_some_iff.mp c1).1
      rw [List.getElem?_append_left hl]
      exact c1
    · rcases key _ b q with q | ⟨_, z⟩
      · rw [← dk1.len, List.getElem?_eq_none (Nat.le_refl _)] at q
        cases q
      · exact z
/-- two parts and an operator that may look into cells -/
theorem twoC {a b c : Ex} {r : R2} {F : DSt → Val → Val → Option Val} {K : PySem.W.Frag} {O : List Nat}
    (ok : ∀ dr R H s vx vy x y z Q, Sub R H → DrOk K dr s R H → Sh K dr R H vx x → Sh K dr R H vy y → F s x y = some z → Fin K dr R H s z Q → r vx vy H Q)
    (hc : isOwn O c = false) (he : ∀ e s, ev cf c e s = (ev cf a e s).bind fun x s => (ev cf b e s).bind fun y s => lift (F s x y) s) :
    ∀ σ H Q, tE K cf O c σ H Q → tOp r (tE K cf O a) (tE K cf O b) σ H Q := by
  intro σ H Q ⟨en, s, dr, R, rel, bh⟩
  rw [he] at bh
  refine ⟨en, s, dr, R, rel, bh.bind fun x s1 ex k1 => ?_⟩
  intro dr1 R1 H1 g1 sb1 dk1 vx rx
  refine ⟨en, s1, dr1, R1, rel.grow g1 sb1 dk1, (k1 dr1 R1 H1 g1 sb1).bind fun y s2 ey k2 => ?_⟩
  intro dr2 R2 H2 g2 sb2 dk2 vy ry
  obtain ⟨z, ez, k3⟩ := (k2 dr2 R2 H2 g2 sb2).lift
  exact ok dr2 R2 H2 s2 vx vy x y z Q sb2 dk2 (rx.grow g2).sh ry.sh ez fun dr' R' H' g sb dk v rv => k3.ok g sb dk v (Res.of hc rv)
theorem s_ropIdx {a b c : Ex} {x y : Expr} (hu : X.A.units + 64 < cLine) (hs : notSlice y = true) (ha : PE X x (tE X.K cf G.O a)) (hb : PE X y (tE X.K cf G.O b)) : PE X (.Subscript x y pos) (tE X.K cf G.O (.rop .idx a b c)) :=
  PE.weak (pe_ix (ix_all hu) ha hb (plainIx_of hs)) (twoC (F := fun s x y => vrop s .idx x y .non) (fun dr R H s vx vy x y z Q sb dk hx hy e f => by
    simp only [vrop] at e
    obtain ⟨d, e1, e2⟩ := Option.bind_eq_some_iff.mp e
    exact ok_idx X.K dr R H s vx vy d y z Q sb dk (hx.cel dk e1) hy e2 f) rfl fun e s => by simp only [ev])
theorem s_ropIn (C : Cok X G cf k) {kk : Bool} {a b c : Ex} {x y : Expr} (hs : notSet y = true) (ha : PE X x (tE X.K cf G.O a)) (hb : PE X y (tE X.K cf G.O b)) :
    PE X (.Compare x [if kk then .In else .NotIn] [y] pos) (tE X.K cf G.O (.rop (if kk then .isIn else .notIn) a b c)) ∧ PT X (.Compare x [if kk then .In else .NotIn] [y] pos) (tT X.K cf G.O (.rop (if kk then .isIn else .notIn) a b c)) := by
  have hu : X.A.units + 65 < cLine := by have := C.room.un; omega
  have T : ∀ σ H Q, tE X.K cf G.O (.rop (if kk then .isIn else .notIn) a b c) σ H Q → tOp (rCmp X.K (if kk then .isIn else .notIn)) (tE X.K cf G.O a) (tE X.K cf G.O b) σ H Q := by
    refine twoC (F := fun s x y => vrop s (if kk then .isIn else .notIn) x y .non) (fun dr R H s vx vy x y z Q sb dk hx hy e f => ?_) rfl fun e s => ?_
    · cases kk <;> simp only [Bool.false_eq_true, if_false, if_true, vrop] at e ⊢
      all_goals
        obtain ⟨d, e1, e2⟩ := Option.bind_eq_some_iff.mp e
        exact ok_cmp X.K _ dr R H s vx vy x d z Q sb dk hx (hy.cel dk e1) e2 f
    · cases kk <;> simp only [Bool.false_eq_true, if_false, if_true, ev]
  have key : PE X (.Compare x [if kk then .In else .NotIn] [y] pos) (tE X.K cf G.O (.rop (if kk then .isIn else .notIn) a b c)) ∧ PT X (.Compare x [if kk then .In else .NotIn] [y] pos) (tT X.K cf G.O (.rop (if kk then .isIn else .notIn) a b c)) := by
    have eo : (if kk then CmpOp.In else CmpOp.NotIn) = cmpOp (if kk then .isIn else .notIn) := by cases kk <;> rfl
    rw [eo]
    refine ⟨PE.weak (pe_cmpR (op_cmp hu _) ha hb (notSet_mark hs)) T, PT.weak (pt_cmpR (op_cmp hu _) ha hb (notSet_mark hs)) fun σ H Q q => T σ H _ ?_⟩
    obtain ⟨en, s, dr, R, rel, bh⟩ := q
    exact ⟨en, s, dr, R, rel, bh.imp fun d dr' R' H' ⟨bb, eb, q⟩ v rv => by subst eb; exact ⟨bb, rv.bl, q⟩⟩
  exact key
theorem isE_ok {K : PySem.W.Frag} {neg : Bool} {dr : Dr} {R H : Hp} {s : DSt} {vx vy : V} {x z : Val} {Q : VK} (sb : Sub R H) (dk : DrOk K dr s R H) (hx : Sh K dr R H vx x) (hy : Sh K dr R H vy (.lst [])) (e : vrop s (if neg then .notE else .isE) x .non .non = some z) (f : Fin K dr R H s z Q) : rEqS K neg vx vy H Q := by
  cases x with
  | lst xs =>
    have e' : (if dresOk s xs then some (Val.bl (if neg then !xs.isEmpty else xs.isEmpty)) else none) = some z := by
      cases neg <;> simpa [vrop] using e
    by_cases hd : dresOk s xs = true
    · rw [if_pos hd] at e'
      cases e'
      unfold dresOk at hd
      split at hd
      · rename_i ys ey
        simp only [Bool.and_eq_true, decide_eq_true_eq] at hd
        obtain ⟨p, vs, rfl, h1, h3⟩ := hx.lst sb
        obtain ⟨d1, d2, d3⟩ := dres_dp dk sb ey hd.1 h3
        refine ⟨.list (toDs ys), toD (.lst []), .lst (SqL.of h1) d1, hy.dp sb rfl, by simp only [PyData.canLay0]; exact d2, hy.lay, ?_, ?_⟩
        · simp only [PyData.depth, toD, toDs, PyData.depthAll]
          rw [deps_toDs]
          omega
        · have hq : PyData.eqv (.list (toDs ys)) (toD (.lst [])) = xs.isEmpty := by
            simp only [toD, toDs, PyData.eqv]
            cases ys with
            | nil =>
              simp only [toDs, PyData.eqvAll]
              cases xs with
              | nil => rfl
              | cons x xs => simp at d3
            | cons y ys =>
              simp only [toDs, PyData.eqvAll]
              cases xs with
              | nil => simp at d3
              | cons x xs => rfl
          rw [hq]
          cases neg
          · rw [if_neg Bool.false_ne_true]
            exact f.here sb dk (.bl _)
          · rw [if_pos rfl]
            exact f.here sb dk (.bl _)
      · cases hd
    · rw [if_neg hd] at e'
      cases e'
  | _ => cases neg <;> simp [vrop] at e
theorem s_ropE (C : Cok X G cf k) {neg : Bool} {a b c : Ex} {x : Expr} {p : Pos} (ha : PE X x (tE X.K cf G.O a)) :
    PE X (.Compare x [if neg then .NotEq else .Eq] [.List [] p] pos) (tE X.K cf G.O (.rop (if neg then .notE else .isE) a b c)) ∧ PT X (.Compare x [if neg then .NotEq else .Eq] [.List [] p] pos) (tT X.K cf G.O (.rop (if neg then .notE else .isE) a b c)) := by
  have hu : X.A.units + 65 < cLine := by have := C.room.un; omega
  have hb : PE X (.List [] p) (tE X.K cf G.O (.list .nil)) := s_list (a := .nil) rfl (Nat.zero_le _) rfl pa_nil'
  have T : ∀ σ H Q, tE X.K cf G.O (.rop (if neg then .notE else .isE) a b c) σ H Q → tOp (rEqS X.K neg) (tE X.K cf G.O a) (tE X.K cf G.O (.list .nil)) σ H Q := by
    intro σ H Q ⟨en, s, dr, R, rel, bh⟩
    have he : ev cf (.rop (if neg then .notE else .isE) a b c) en s = (ev cf a en s).bind fun x s => lift (vrop s (if neg then .notE else .isE) x .non .non) s := by
      cases neg <;> simp only [Bool.false_eq_true, if_false, if_true, ev]
    rw [he] at bh
    refine ⟨en, s, dr, R, rel, bh.bind fun x s1 ex k1 => ?_⟩
    intro dr1 R1 H1 g1 sb1 dk1 vx rx
    refine ⟨en, s1, dr1, R1, rel.grow g1 sb1 dk1, ?_⟩
    simp only [ev, evs, Out.bind_ok]
    intro dr2 R2 H2 g2 sb2 dk2 vy ry
    obtain ⟨z, ez, k3⟩ := (k1 dr2 R2 H2 (g1.trans g2) sb2).lift
    exact isE_ok sb2 dk2 (rx.grow g2).sh ry.sh ez fun dr' R' H' g sb dk v rv => k3.ok g sb dk v (Res.of rfl rv)
  have ho : OpR X (compareOp (if neg then .NotEq else .Eq)) (rEqS X.K neg) := by
    cases neg
    · exact op_cmp hu .eq
    · exact op_cmp hu .ne
  refine ⟨PE.weak (pe_cmpR ho ha hb (notSet_mark rfl)) T, PT.weak (pt_cmpR ho ha hb (notSet_mark rfl)) fun σ H Q q => T σ H _ ?_⟩
  obtain ⟨en, s, dr, R, rel, bh⟩ := q
  exact ⟨en, s, dr, R, rel, bh.imp fun d dr' R' H' ⟨bb, eb, q⟩ v rv => by subst eb; exact ⟨bb, rv.bl, q⟩⟩
theorem s_ropLen (C : Cok X G cf k) {a b c : Ex} {p : Pos} {y : Expr} (hg : Gl X "len") (hm : X.mg "len" = none) (hs : notStar y = true) (ha : PE X y (tE X.K cf G.O a)) : PE X (.Call (.Name "len" p) [y] [] pos) (tE X.K cf G.O (.rop .len a b c)) := by
  refine PE.weak (pe_biv (kk := .len) call_len hg hm (pa_cons ha pa_nil (star_of hs _ _)) (star_of hs _ _) rfl) fun σ H Q ⟨en, s, dr, R, rel, bh⟩ => ?_
  simp only [ev] at bh
  refine ⟨en, s, dr, R, rel, bh.bind fun x s1 ex k1 => ?_⟩
  intro dr1 R1 H1 g1 sb1 dk1 vx rx
  obtain ⟨z, ez, k2⟩ := (k1 dr1 R1 H1 g1 sb1).lift
  simp only [vrop] at ez
  obtain ⟨d, e1, e2⟩ := Option.bind_eq_some_iff.mp ez
  exact ok_len X.K dr1 R1 H1 s1 [vx] [d] z Q sb1 dk1 (.cons (rx.sh.cel dk1 e1) .nil) e2 fun dr' R' H' g sb dk v rv => k2.ok g sb dk v (Res.of rfl rv)
theorem s_ropGet (C : Cok X G cf k) {a b c : Ex} {o y z : Expr} {ap : Pos} (hl : ap.endLine = pos.line) (ho : notSuper o = true) (hs : notStar y = true) (hs2 : notStar z = true) (hn : isOwn G.O c = false) (ha : PE X o (tE X.K cf G.O a)) (hb : PE X y (tE X.K cf G.O b)) (hc : PE X z (tE X.K cf G.O c)) :
    PE X (.Call (.Attribute o "get" ap) [y, z] [] pos) (tE X.K cf G.O (.rop .get a b c)) := by
  have hu : X.A.units + 65 < cLine := by have := C.room.un; omega
  have hst : starEach [y, z] X.env = [(false, eval y X.env), (false, eval z X.env)] := by
    rw [star_of hs, star_of hs2]
    rfl
  have m : M2 X o "get" ap y z pos := ⟨base_of ho, by rw [hst]; rfl, by rw [hl]; simp, by rw [hst]; rfl⟩
  refine PE.weak (pe_dgetG (by omega) ha hb hc m) fun σ H Q ⟨en, s, dr, R, rel, bh⟩ => ?_
  simp only [ev] at bh
  refine ⟨en, s, dr, R, rel, bh.bind fun d s1 ed k1 => ?_⟩
  intro dr1 R1 H1 g1 sb1 dk1 vx rx
  have rel1 := rel.grow g1 sb1 dk1
  have k1' := k1 dr1 R1 H1 g1 sb1
  by_cases hd : isDcn (der s1 d) = true
  · rw [if_pos hd] at k1'
    obtain ⟨q, s2, eq, k2⟩ := k1'.nox
    unfold isDcn at hd
    split at hd
    · rename_i ks0 vs0 e0
      obtain ⟨a', o', rfl, h1', ob1⟩ := (rx.sh.cel dk1 e0).dcn sb1
      have hN : IsD H1 a' ∨ ∃ xs, H1 a' = some (DN a' xs) := by
        rcases ob1 with ⟨xs, ds, _, z, _⟩ | ⟨ps, ks', vs', rfl, _⟩ | ⟨xs, ks', vs', rfl, _⟩
        · cases z
        · exact .inl (.inl ⟨_, .inl h1'⟩)
        · exact .inr ⟨_, h1'⟩
      refine ⟨a', rfl, hN, en, s1, dr1, R1, rel1, ?_⟩
      rw [eq]
      intro dr2 R2 H2 g2 sb2 dk2 vq rq
      have rel2 := rel1.grow g2 sb2 dk2
      obtain ⟨z'', s3', ez', k3⟩ := (k2 dr2 R2 H2 g2 sb2).nox
      refine ⟨en, s2, dr2, R2, rel2, ?_⟩
      rw [ez']
      intro dr3 R3 H3 g3 sb3 dk3 vz rz
      obtain ⟨w', ew', k4⟩ := (k3 dr3 R3 H3 g3 sb3).lift
      simp only [vrop] at ew'
      obtain ⟨d3, e3, ew'⟩ := Option.bind_eq_some_iff.mp ew'
      have sh3 := ((rx.grow g2).grow g3).sh.cel dk3 e3
      have isD : ∃ ks vs, d3 = .dcn ks vs := by
        cases d3 with
        | dcn ks vs => exact ⟨ks, vs, rfl⟩
        | dct ks vs =>
          rcases sh3 with sh3 | sh3
          · obtain ⟨n3, ed3, es3⟩ := der_some e3
            subst ed3
            obtain ⟨a3, o3, _, _, _, _, ob⟩ := dk3.at (((rx.grow g2).grow g3).sh.elim id fun z => (z.not (fun _ z => nomatch z) (fun _ _ z => nomatch z)).elim) es3
            rcases ob.kind with ⟨ds, z⟩ | ⟨ks', vs', z⟩ <;> cases z
          · exact (sh3.not (fun _ z => nomatch z) (fun _ _ z => nomatch z)).elim
        | _ => cases q <;> simp [vget] at ew'
      obtain ⟨ks, vs, rfl⟩ := isD
      have ew2 : (if dOk ks q then some ((dfindN ks vs q).getD z'') else none) = some w' := by cases q <;> simpa [vget] using ew'
      simp only [Option.ite_none_right_eq_some, Option.some.injEq] at ew2
      obtain ⟨ok, rfl⟩ := ew2
      obtain ⟨a3, o3, ea, h3', ob3⟩ := sh3.dcn sb3
      cases ea
      exact .inr ⟨ks, vs, q, z'', dr3, R3, o3, sb3, h3', ob3, (rq.grow g3).sh.key ok, rz.rp hn, ok, fun v hv => k4.ok (Grow.refl _ _ _) sb3 dk3 v (Res.of rfl hv)⟩
    · cases hd
  · rw [if_neg hd] at k1'
    exact k1'.elim
/-- isinstance(a, an exception's class) -/
theorem all8_at {G : GC} (h : all8 G = true) {c : Nat} (hc : c < 8) : c ∈ G.excs := by
  unfold all8 at h
  have := List.all_eq_true.mp h c (List.mem_range.mpr hc)
  simpa using this
theorem s_isexc (C : Cok X G cf k) {a : Ex} {c : Nat} {y : Expr} {p p2 : Pos} {z : Str} (hg : Gl X "isinstance") (hm : X.mg "isinstance" = none) (hs : notStar y = true) (h8 : all8 G = true) (hz : if c = 8 then isBi G z "ValueError" = true else (c < 8 ∧ z = xname c ∧ isGl G.sc z = true)) (ha : PE X y (tE X.K cf G.O a)) :
    PE X (.Call (.Name "isinstance" p) [y, .Name z p2] [] pos) (tE X.K cf G.O (.isexc a c)) := by
  have hcl : ∃ (cv : V) (cw : Value), PE X (.Name z p2) (tC cv) ∧ (∀ u, RelV cv u → u = cw) ∧ ∀ c0 : Nat, c0 < 7 → PySem.W.kitOne X.K (.ref (xcA X.K c0)) cw = some (subX c0 c) := by
    by_cases q : c = 8
    · rw [if_pos q] at hz
      subst q
      obtain ⟨rfl, hg2, hm2⟩ := isBi_of C hz
      refine ⟨.ty "ValueError", .type "ValueError", pe_bltn (u := .type "ValueError") hg2 hm2 (by decide +kernel) rfl (by decide +kernel) (by decide +kernel), fun u h => h, fun c0 h0 => ?_⟩
      rw [(C.excs c0 (all8_at h8 (by omega))).kv]
      simp [subX]
    · rw [if_neg q] at hz
      obtain ⟨h1, rfl, h2⟩ := hz
      have XC := C.excs c (all8_at h8 h1)
      refine ⟨.ref (xcA X.K c), .ref (xcA X.K c), pe_glob (gl_of C h2) XC.gl rfl ?_, fun u h => h, fun c0 h0 => (C.excs c0 (all8_at h8 (by omega))).kt c (all8_at h8 h1)⟩
      match c, h1 with
      | 0, _ => decide
      | 1, _ => decide
      | 2, _ => decide
      | 3, _ => decide
      | 4, _ => decide
      | 5, _ => decide
      | 6, _ => decide
      | 7, _ => decide
  obtain ⟨cv, cw, hty, hcv, hk⟩ := hcl
  refine PE.weak (pe_callB call_isH hg hm (by decide +kernel) (pa_cons ha (pa_cons hty pa_nil rfl) (star_of hs _ _)) (by decide +kernel) (by decide +kernel) (star_of hs _ _) rfl) fun σ H Q ⟨en, s, dr, R, rel, bh⟩ => ?_
  simp only [ev] at bh
  refine ⟨en, s, dr, R, rel, bh.bind fun d s1 ex k1 => ?_⟩
  intro dr1 R1 H1 g1 sb1 dk1 vx rx
  obtain ⟨w, ez, k2⟩ := (k1 dr1 R1 H1 g1 sb1).lift
  cases d with
  | exc c0 =>
    simp only [visx, Option.ite_none_right_eq_some, Option.some.injEq] at ez
    obtain ⟨⟨h0, _⟩, rfl⟩ := ez
    rcases rx.sh with hx | hx
    · cases hx with
      | exc hR => exact ⟨_, xcA X.K c0, cv, cw, subX c0 c, rfl, sb1 _ _ hR, (C.excs c0 (all8_at h8 (by omega))).ec, hcv, hk c0 h0, k2.ok (Grow.refl _ _ _) sb1 dk1 _ (Res.of rfl (.bl _))⟩
    · exact (hx.not (fun _ z => nomatch z) (fun _ _ z => nomatch z)).elim
  | _ => simp [visx] at ez
end
end BG

/-! BG.SoundM: the checker is right for all expressions. -/
namespace BG
open PySem PySem.Spec PyProof.Rows L2

structure SE (X : Cx) (G : GC) (cf : CF) (e : Expr) (c : Ex) : Prop where
  pe : PE X e (tE X.K cf G.O c)
  pt : PT X e (tT X.K cf G.O c)
  pw : ∀ op vs p, e = .BoolOp op vs p → PW X e (tT X.K cf G.O c)
theorem SE.plain {X : Cx} {G : GC} {cf : CF} {e : Expr} {c : Ex} (h : PE X e (tE X.K cf G.O c)) (he : ∀ whole, isTrue e X.env whole = (do let v ← whole; standAt e.pos; holding [v] (truthy v))) (hn : ∀ op vs p, e ≠ .BoolOp op vs p) : SE X G cf e c :=
  ⟨h, pt_of h he, fun op vs p q => absurd q (hn op vs p)⟩
theorem SE.two {X : Cx} {G : GC} {cf : CF} {e : Expr} {c : Ex} (h : PE X e (tE X.K cf G.O c) ∧ PT X e (tT X.K cf G.O c)) (hn : ∀ op vs p, e ≠ .BoolOp op vs p) : SE X G cf e c := ⟨h.1, h.2, fun op vs p q => absurd q (hn op vs p)⟩

mutual
theorem sE {cf : CF} {k : Nat} : ∀ (c : Ex) (X : Cx) (G : GC) (e : Expr), Cok X G cf k → chkE G c e = true → SE X G cf e c
  | .var i, X, G, e, C, h => by
    cases e with
    | Name x pos => exact .plain (s_var C h) (fun _ => rfl) (fun _ _ _ q => nomatch q)
    | _ => simp [chkE] at h
  | .cst v, X, G, e, C, h => by
    cases e with
    | Constant cc j pos => exact .plain (s_cst h) (fun _ => rfl) (fun _ _ _ q => nomatch q)
    | _ => simp [chkE] at h
  | .glb x v, X, G, e, C, h => by
    cases e with
    | Name x pos => exact .plain (s_glb C h) (fun _ => rfl) (fun _ _ _ q => nomatch q)
    | _ => simp [chkE] at h
  | .bin kk a b, X, G, e, C, h => by
    cases e with
    | BinOp x op y pos =>
      simp only [chkE, Bool.and_eq_true, decide_eq_true_eq] at h
      obtain ⟨⟨rfl, h1⟩, h2⟩ := h
      exact .plain (s_bin (sE a X G x C h1).pe (sE b X G y C h2).pe) (fun _ => rfl) (fun _ _ _ q => nomatch q)
    | _ => simp [chkE] at h
  | .neg a, X, G, e, C, h => by
    cases e with
    | UnaryOp op x pos =>
      simp only [chkE, Bool.and_eq_true, decide_eq_true_eq] at h
      obtain ⟨rfl, h1⟩ := h
      exact .plain (s_neg (sE a X G x C h1).pe) (fun _ => rfl) (fun _ _ _ q => nomatch q)
    | _ => simp [chkE] at h
  | .not a, X, G, e, C, h => by
    cases e with
    | UnaryOp op x pos =>
      simp only [chkE, Bool.and_eq_true, decide_eq_true_eq] at h
      obtain ⟨rfl, h1⟩ := h
      exact .two (s_not (sE a X G x C h1).pe (sE a X G x C h1).pt) (fun _ _ _ q => nomatch q)
    | _ => simp [chkE] at h
  | .and a b, X, G, e, C, h => by
    cases e with
    | BoolOp op vs p =>
      cases vs with
      | nil => simp [chkE] at h
      | cons x vs =>
        cases vs with
        | nil => simp [chkE] at h
        | cons y rest =>
          simp only [chkE, Bool.and_eq_true, decide_eq_true_eq, Bool.not_eq_true'] at h
          obtain ⟨⟨⟨rfl, h1⟩, h2⟩, h3⟩ := h
          have sa := sE a X G x C h1
          have sb : PE X (.BoolOp .And (y :: rest) p) (tE X.K cf G.O b) ∧ PW X (.BoolOp .And (y :: rest) p) (tT X.K cf G.O b) := by
            cases rest with
            | nil =>
              have := sE b X G y C h3
              exact ⟨pe_one this.pe, pw_and1 this.pt⟩
            | cons z rest =>
              have := sE b X G _ C h3
              exact ⟨this.pe, this.pw _ _ _ rfl⟩
          obtain ⟨r1, r2⟩ := s_and h2 sa.pe sa.pt sb.1 sb.2
          exact ⟨r1, r2.pt, fun _ _ _ _ => r2⟩
    | _ => simp [chkE] at h
  | .or a b, X, G, e, C, h => by
    cases e with
    | BoolOp op vs p =>
      cases vs with
      | nil => simp [chkE] at h
      | cons x vs =>
        cases vs with
        | nil => simp [chkE] at h
        | cons y rest =>
          simp only [chkE, Bool.and_eq_true, decide_eq_true_eq, Bool.not_eq_true'] at h
          obtain ⟨⟨⟨rfl, h1⟩, h2⟩, h3⟩ := h
          have sa := sE a X G x C h1
          have sb : PE X (.BoolOp .Or (y :: rest) p) (tE X.K cf G.O b) ∧ PW X (.BoolOp .Or (y :: rest) p) (tT X.K cf G.O b) := by
            cases rest with
            | nil =>
              have := sE b X G y C h3
              exact ⟨pe_one this.pe, pw_or1 this.pt⟩
            | cons z rest =>
              have := sE b X G _ C h3
              exact ⟨this.pe, this.pw _ _ _ rfl⟩
          obtain ⟨r1, r2⟩ := s_or h2 sa.pe sa.pt sb.1 sb.2
          exact ⟨r1, r2.pt, fun _ _ _ _ => r2⟩
    | _ => simp [chkE] at h
  | .cmp kk a b, X, G, e, C, h => by
    cases e with
    | Compare x ops ys pos =>
      rcases ops with _ | ⟨op, _ | ⟨op2, ops⟩⟩ <;> rcases ys with _ | ⟨y, _ | ⟨y2, ys⟩⟩ <;> simp only [chkE] at h <;> (try cases h)
      simp only [Bool.and_eq_true, decide_eq_true_eq] at h
      obtain ⟨⟨⟨rfl, h1⟩, h2⟩, h3⟩ := h
      exact .two (s_cmp C h1 (sE a X G x C h2).pe (sE b X G y C h3).pe) (fun _ _ _ q => nomatch q)
    | _ => simp [chkE] at h
  | .chain kk kk' a b c, X, G, e, C, h => by
    cases e with
    | Compare x ops ys pos =>
      rcases ops with _ | ⟨op, _ | ⟨op2, _ | ⟨op3, ops⟩⟩⟩ <;> rcases ys with _ | ⟨y, _ | ⟨y2, _ | ⟨y3, ys⟩⟩⟩ <;> simp only [chkE] at h <;> (try cases h)
      simp only [Bool.and_eq_true, decide_eq_true_eq] at h
      obtain ⟨⟨⟨⟨⟨rfl, rfl⟩, h1⟩, h2⟩, h3⟩, h4⟩ := h
      exact .two (s_chain C h1 (sE a X G x C h2).pe (sE b X G y C h3).pe (sE c X G y2 C h4).pe) (fun _ _ _ q => nomatch q)
    | _ => simp [chkE] at h
  | .ite c a b, X, G, e, C, h => by
    cases e with
    | IfExp z x y pos =>
      simp only [chkE, Bool.and_eq_true, Bool.not_eq_true'] at h
      obtain ⟨⟨⟨⟨h1, h2⟩, h3⟩, h4⟩, h5⟩ := h
      have sa := sE a X G x C h2
      have sb := sE b X G y C h3
      exact .two (s_ite h4 h5 (sE c X G z C h1).pt sa.pe sb.pe sa.pt sb.pt) (fun _ _ _ q => nomatch q)
    | _ => simp [chkE] at h
  | .tup a, X, G, e, C, h => by
    cases e with
    | Tuple es x1 pos =>
      simp only [chkE, Bool.and_eq_true, decide_eq_true_eq] at h
      exact .plain (s_tup h.2 h.1.1 h.1.2 (sAs a X G es C h.2)) (fun _ => rfl) (fun _ _ _ q => nomatch q)
    | _ => simp [chkE] at h
  | .list a, X, G, e, C, h => by
    cases e with
    | List es pos =>
      simp only [chkE, Bool.and_eq_true, decide_eq_true_eq] at h
      exact .plain (s_list h.2 h.1.1 h.1.2 (sAs a X G es C h.2)) (fun _ => rfl) (fun _ _ _ q => nomatch q)
    | _ => simp [chkE] at h
  | .idx a i, X, G, e, C, h => by
    cases e with
    | Subscript x y pos =>
      simp only [chkE, Bool.and_eq_true] at h
      exact .plain (s_idx C.room.units h.1.1 (sE a X G x C h.1.2).pe (sE i X G y C h.2).pe) (fun _ => rfl) (fun _ _ _ q => nomatch q)
    | _ => simp [chkE] at h
  | .slice a lo hi, X, G, e, C, h => by
    cases e with
    | Subscript x y pos =>
      cases y with
      | Slice l u st p2 =>
        cases st with
        | none =>
          simp only [chkE, Bool.and_eq_true] at h
          exact .plain (s_slice (sE a X G x C h.1.1).pe (sO lo X G l C h.1.2) (sO hi X G u C h.2)) (fun _ => rfl) (fun _ _ _ q => nomatch q)
        | some _ => simp [chkE] at h
      | _ => simp [chkE] at h
    | _ => simp [chkE] at h
  | .rev a, X, G, e, C, h => by
    cases e with
    | Subscript x y pos =>
      unfold chkE at h
      split at h
      · rename_i x' op kk p1 p2 p3 pos' he
        simp only [Expr.Subscript.injEq] at he
        obtain ⟨rfl, rfl, rfl⟩ := he
        simp only [Bool.and_eq_true, decide_eq_true_eq] at h
        obtain ⟨rfl, h1⟩ := h
        exact .plain (s_rev (sE a X G _ C h1).pe) (fun _ => rfl) (fun _ _ _ q => nomatch q)
      · cases h
    | _ => simp [chkE] at h
  | .call f a, X, G, e, C, h => by
    cases e with
    | Call fn es kws pos =>
      cases fn with
      | Name x p =>
        cases kws with
        | nil =>
          have h' := h
          simp only [chkE, Bool.and_eq_true] at h'
          exact .plain (s_call C h (sAs a X G es C h'.2)) (fun _ => rfl) (fun _ _ _ q => nomatch q)
        | cons _ _ => simp [chkE] at h
      | _ => simp [chkE] at h
    | _ => simp [chkE] at h
  | .bi kk a, X, G, e, C, h => by
    cases e with
    | Call fn es kws pos =>
      unfold chkE at h
      split at h
      · rename_i x p y pos' he
        simp only [Expr.Call.injEq] at he
        obtain ⟨rfl, rfl, rfl, rfl⟩ := he
        simp only [Bool.and_eq_true] at h
        obtain ⟨h2, h3⟩ := h
        obtain ⟨rfl, hg, hm⟩ := isBi_of C h2
        split at h3
        · rename_i b r p2 z q2
          simp only [Bool.and_eq_true, Bool.or_eq_true, decide_eq_true_eq] at h3
          obtain ⟨⟨⟨h4, h5⟩, hst⟩, h6⟩ := h3
          obtain ⟨rfl, hg2, hm2⟩ := isBi_of C h4
          exact .plain (s_rg C h5 hg hm hg2 hm2 hst (sE b X G z C h6).pe) (fun _ => rfl) (fun _ _ _ q => nomatch q)
        · rename_i b r p2 z q2 _
          split at h3
          · rename_i hk
            simp only [Bool.and_eq_true] at h3
            obtain ⟨⟨h4, hst⟩, h6⟩ := h3
            obtain ⟨rfl, hg2, hm2⟩ := isBi_of C h4
            cases kk <;> simp [isSSet] at hk
            · exact .plain (s_sset C hg hm hg2 hm2 hst (sE b X G z C h6).pe) (fun _ => rfl) (fun _ _ _ q => nomatch q)
            · exact .plain (s_lset C hg hm hg2 hm2 hst (sE b X G z C h6).pe) (fun _ => rfl) (fun _ _ _ q => nomatch q)
          · simp only [Bool.and_eq_true] at h3
            have sb := sE b X G _ C h3.2
            exact .plain (s_bi C (.inl h3.1) hg hm (by simp [chkAs, notStar, h3.2]) (pa_cons' rfl sb.pe pa_nil')) (fun _ => rfl) (fun _ _ _ q => nomatch q)
        · rename_i b _ _
          simp only [Bool.and_eq_true] at h3
          have sb := sE b X G y C h3.2
          exact .plain (s_bi C (.inl h3.1.1) hg hm (by simp [chkAs, h3.1.2, h3.2]) (pa_cons' h3.1.2 sb.pe pa_nil')) (fun _ => rfl) (fun _ _ _ q => nomatch q)
        · cases h3
      · rename_i x p y z pos' he
        simp only [Expr.Call.injEq] at he
        obtain ⟨rfl, rfl, rfl, rfl⟩ := he
        simp only [Bool.and_eq_true] at h
        obtain ⟨⟨h1, h2⟩, h3⟩ := h
        obtain ⟨rfl, hg, hm⟩ := isBi_of C h2
        split at h3
        · rename_i b c
          simp only [Bool.and_eq_true] at h3
          obtain ⟨⟨⟨g1, g2⟩, g3⟩, g4⟩ := h3
          exact .plain (s_bi C (.inr h1) hg hm (by simp [chkAs, g1, g2, g3, g4]) (pa_cons' g1 (sE b X G y C g3).pe (pa_cons' g2 (sE c X G z C g4).pe pa_nil'))) (fun _ => rfl) (fun _ _ _ q => nomatch q)
        · cases h3
      · cases h
    | _ => simp [chkE] at h
  | .isinst a t, X, G, e, C, h => by
    cases e with
    | Call fn es kws pos =>
      unfold chkE at h
      split at h
      · rename_i x p y z p2 pos' he
        simp only [Expr.Call.injEq] at he
        obtain ⟨rfl, rfl, rfl, rfl⟩ := he
        simp only [Bool.and_eq_true] at h
        obtain ⟨⟨⟨h1, h2⟩, h3⟩, h4⟩ := h
        obtain ⟨rfl, hg, hm⟩ := isBi_of C h1
        obtain ⟨rfl, hg2, hm2⟩ := isBi_of C h2
        exact .plain (s_isinst C hg hm hg2 hm2 h3 (sE a X G y C h4).pe) (fun _ => rfl) (fun _ _ _ q => nomatch q)
      · cases h
    | _ => simp [chkE] at h
  | .meth kk a b, X, G, e, C, h => by
    cases e with
    | Call fn es kws pos =>
      unfold chkE at h
      split at h
      · rename_i o n ap y cp he
        simp only [Expr.Call.injEq] at he
        obtain ⟨rfl, rfl, rfl, rfl⟩ := he
        simp only [Bool.and_eq_true, decide_eq_true_eq] at h
        obtain ⟨⟨⟨⟨⟨rfl, h1⟩, h2⟩, h3⟩, h4⟩, h5⟩ := h
        exact .plain (s_meth C h1 h2 h3 (sE a X G o C h4).pe (sE b X G y C h5).pe) (fun _ => rfl) (fun _ _ _ q => nomatch q)
      · cases h
    | _ => simp [chkE] at h
  | .dnew, X, G, e, C, h => by
    cases e with
    | Dict ks vs pos =>
      unfold chkE at h
      split at h
      · rename_i pos' he
        simp only [Expr.Dict.injEq] at he
        obtain ⟨rfl, rfl, rfl⟩ := he
        exact .plain s_dnew (fun _ => rfl) (fun _ _ _ q => nomatch q)
      · cases h
    | _ => simp [chkE] at h
  | .dnewN, X, G, e, C, h => by
    cases e with
    | Dict ks vs pos =>
      unfold chkE at h
      split at h
      · rename_i pos' he
        simp only [Expr.Dict.injEq] at he
        obtain ⟨rfl, rfl, rfl⟩ := he
        exact .plain (PE.weak f_dnewN (tF_of_tE rfl)) (fun _ => rfl) (fun _ _ _ q => nomatch q)
      · cases h
    | _ => simp [chkE] at h
  | .dlit a b, X, G, e, C, h => by
    cases e with
    | Dict ks vs pos =>
      unfold chkE at h
      split at h
      · rename_i x y pos' he
        simp only [Expr.Dict.injEq] at he
        obtain ⟨rfl, rfl, rfl⟩ := he
        simp only [Bool.and_eq_true, Bool.not_eq_true'] at h
        obtain ⟨⟨⟨h1, h2⟩, h3⟩, h4⟩ := h
        exact .plain (PE.weak (f_dlit C h1 h2 (sE a X G x C h3).pe (sE b X G y C h4).pe) (tF_of_tE rfl)) (fun _ => rfl) (fun _ _ _ q => nomatch q)
      · cases h
    | _ => simp [chkE] at h
  | .dget a b c, X, G, e, C, h => by
    cases e with
    | Call fn es kws pos =>
      unfold chkE at h
      split at h
      · rename_i o n ap y z cp he
        simp only [Expr.Call.injEq] at he
        obtain ⟨rfl, rfl, rfl, rfl⟩ := he
        simp only [Bool.and_eq_true, decide_eq_true_eq, Bool.not_eq_true'] at h
        obtain ⟨⟨⟨⟨⟨⟨⟨⟨rfl, h1⟩, h2⟩, h3⟩, h3'⟩, h6⟩, h4⟩, h5⟩, h7⟩ := h
        exact .plain (s_dget C h1 h2 h3 h3' h6 (sE a X G o C h4).pe (sE b X G y C h5).pe (sE c X G z C h7).pe) (fun _ => rfl) (fun _ _ _ q => nomatch q)
      · cases h
    | _ => simp [chkE] at h
  | .comp t src cond elt, X, G, e, C, h => by
    cases e with
    | ListComp el gs scope pos =>
      unfold chkE at h
      split at h
      · rename_i el' tg it ifs as scope' pos' he
        simp only [Expr.ListComp.injEq] at he
        obtain ⟨rfl, rfl, rfl, rfl⟩ := he
        simp only [Bool.and_eq_true, decide_eq_true_eq, Bool.not_eq_true'] at h
        obtain ⟨⟨⟨⟨⟨⟨⟨⟨⟨rfl, h1⟩, h2⟩, h3⟩, h4⟩, h5⟩, h6⟩, h7⟩, h8⟩, h9⟩ := h
        have hall := List.all_eq_true.mp h3
        have hS : ∀ i ∈ slots t, i ∉ G.O := fun i hi => by
          have := hall i hi
          simp only [Bool.and_eq_true, Bool.not_eq_true', decide_eq_false_iff_not] at this
          exact this.1
        have hsome : (slots t).all (fun i => (G.N[i]?).isSome) = true := List.all_eq_true.mpr fun i hi => by
          have := hall i hi
          simp only [Bool.and_eq_true] at this
          exact this.2
        have hcond : ∀ (s : Shared) (H : Hp) (D : Addr) (cl : List (Str × Addr)) (fp : List Addr), PTs (X.blk s H scope (compEnvC scope cl D X.env) fp) ifs (ttOf X.K cf.no G.O cond) := by
          intro s H D cl fp
          split at h7
          · exact pts_nil
          · cases h7
          · rename_i c c' hne
            have hc : ttOf X.K cf.no G.O cond = tT X.K cf.no G.O cond := by
              cases cond <;> first | rfl | exact absurd rfl hne
            rw [hc]
            exact pts_one (sE cond _ (G.inn scope) _ (C.inn scope s H D cl fp) h7).pt
          · cases h7
        have blk : BlkOk X.N X.env.scope scope (ownOf G.N (slots t)) := by
          rw [C.N, C.sc]
          exact blkOk_by h2
        have P := pe_lc (X := X) (elt := el) (tg := tg) (iter := it) (ifs := ifs) (scope := scope) (pos := pos) (own := ownOf G.N (slots t)) (wi := tI X.K cf G.O src) (g := gTg X.K t) (tt := ttOf X.K cf.no G.O cond) (te := tE X.K cf.no G.O elt) C.calm C.nd (sI tg src X G it C h1) blk (fun s H D cl fp => s_tg (C.inn scope s H D cl fp) t tg h4) hcond (fun s H D cl fp => (sE elt _ (G.inn scope) el (C.inn scope s H D cl fp) h8).pe) (fold_of h6 _)
        rw [ownOf_snd hsome] at P
        exact .plain (PE.weak P (comp_run h9 hS)) (fun _ => rfl) (fun _ _ _ q => nomatch q)
      · cases h
    | _ => simp [chkE] at h
  | .box a, X, G, e, C, h => by
    simp only [chkE, Bool.and_eq_true] at h
    obtain ⟨hb, h⟩ := h
    cases a with
    | list b =>
      cases e with
      | List es pos =>
        simp only [chkE, Bool.and_eq_true, decide_eq_true_eq] at h
        exact .plain (s_box (f_listA h.2 h.1.1 h.1.2 (sAs b X G es C h.2))) (fun _ => rfl) (fun _ _ _ q => nomatch q)
      | _ => simp [chkE] at h
    | dnewN =>
      cases e with
      | Dict ks vs pos =>
        unfold chkE at h
        split at h
        · rename_i pos' he
          simp only [Expr.Dict.injEq] at he
          obtain ⟨rfl, rfl, rfl⟩ := he
          exact .plain (s_box f_dnewN) (fun _ => rfl) (fun _ _ _ q => nomatch q)
        · cases h
      | _ => simp [chkE] at h
    | _ => simp [isBox] at hb
  | .rop kk a b c, X, G, e, C, h => by
    have hu : X.A.units + 64 < cLine := C.room.units
    unfold chkE at h
    split at h
    · simp only [Bool.and_eq_true] at h
      exact .plain (s_ropIdx hu h.1.1 (sE a X G _ C h.1.2).pe (sE b X G _ C h.2).pe) (fun _ => rfl) (fun _ _ _ q => nomatch q)
    · simp only [Bool.and_eq_true, decide_eq_true_eq] at h
      obtain ⟨⟨⟨rfl, h1⟩, h2⟩, h3⟩ := h
      exact .two (s_ropIn C (kk := true) h1 (sE a X G _ C h2).pe (sE b X G _ C h3).pe) (fun _ _ _ q => nomatch q)
    · simp only [Bool.and_eq_true, decide_eq_true_eq] at h
      obtain ⟨⟨⟨rfl, h1⟩, h2⟩, h3⟩ := h
      exact .two (s_ropIn C (kk := false) h1 (sE a X G _ C h2).pe (sE b X G _ C h3).pe) (fun _ _ _ q => nomatch q)
    · simp only [Bool.and_eq_true, decide_eq_true_eq, Bool.not_eq_true'] at h
      obtain ⟨⟨⟨⟨⟨⟨⟨⟨rfl, h1⟩, h2⟩, h3⟩, h3'⟩, h6⟩, h4⟩, h5⟩, h7⟩ := h
      exact .plain (s_ropGet C h1 h2 h3 h3' h6 (sE a X G _ C h4).pe (sE b X G _ C h5).pe (sE c X G _ C h7).pe) (fun _ => rfl) (fun _ _ _ q => nomatch q)
    · simp only [Bool.and_eq_true] at h
      obtain ⟨⟨h1, h2⟩, h3⟩ := h
      obtain ⟨rfl, hg, hm⟩ := isBi_of C h1
      exact .plain (s_ropLen C hg hm h2 (sE a X G _ C h3).pe) (fun _ => rfl) (fun _ _ _ q => nomatch q)
    · simp only [Bool.and_eq_true, decide_eq_true_eq] at h
      obtain ⟨rfl, h1⟩ := h
      exact .two (s_ropE C (neg := false) (sE a X G _ C h1).pe) (fun _ _ _ q => nomatch q)
    · simp only [Bool.and_eq_true, decide_eq_true_eq] at h
      obtain ⟨rfl, h1⟩ := h
      exact .two (s_ropE C (neg := true) (sE a X G _ C h1).pe) (fun _ _ _ q => nomatch q)
    · cases h
  | .isexc a c, X, G, e, C, h => by
    unfold chkE at h
    split at h
    · simp only [Bool.and_eq_true] at h
      obtain ⟨⟨⟨⟨h1, h2⟩, h3⟩, h4⟩, h5⟩ := h
      obtain ⟨rfl, hg, hm⟩ := isBi_of C h1
      refine .plain (s_isexc C hg hm h2 h4 ?_ (sE a X G _ C h3).pe) (fun _ => rfl) (fun _ _ _ q => nomatch q)
      split at h5
      · rename_i q
        rw [if_pos q]
        exact h5
      · rename_i q
        rw [if_neg q]
        simp only [Bool.and_eq_true, decide_eq_true_eq] at h5
        exact ⟨h5.1.1, h5.1.2, h5.2⟩
    · cases h
  | .range1 _, X, G, e, C, h => by simp [chkE] at h
  | .range2 _ _, X, G, e, C, h => by simp [chkE] at h
  | .nil, X, G, e, C, h => by simp [chkE] at h
  | .cons _ _, X, G, e, C, h => by simp [chkE] at h
  | .no, X, G, e, C, h => by simp [chkE] at h
  | .enum _, X, G, e, C, h => by simp [chkE] at h
  | .zip _ _, X, G, e, C, h => by simp [chkE] at h
  | .enumZip _ _, X, G, e, C, h => by simp [chkE] at h
theorem sAs {cf : CF} {k : Nat} : ∀ (c : Ex) (X : Cx) (G : GC) (es : List Expr), Cok X G cf k → chkAs G c es = true → PA X es (tAs X.K cf G.O c)
  | .nil, X, G, es, C, h => by
    cases es with
    | nil => exact pa_nil'
    | cons x l => simp [chkAs] at h
  | .cons a r, X, G, es, C, h => by
    cases es with
    | nil => simp [chkAs] at h
    | cons x l =>
      simp only [chkAs, Bool.and_eq_true] at h
      exact pa_cons' h.1.1 (sE a X G x C h.1.2).pe (sAs r X G l C h.2)
  | .var _, _, _, _, _, h => by simp [chkAs] at h
  | .cst _, _, _, _, _, h => by simp [chkAs] at h
  | .glb _ _, _, _, _, _, h => by simp [chkAs] at h
  | .bin _ _ _, _, _, _, _, h => by simp [chkAs] at h
  | .neg _, _, _, _, _, h => by simp [chkAs] at h
  | .not _, _, _, _, _, h => by simp [chkAs] at h
  | .and _ _, _, _, _, _, h => by simp [chkAs] at h
  | .or _ _, _, _, _, _, h => by simp [chkAs] at h
  | .cmp _ _ _, _, _, _, _, h => by simp [chkAs] at h
  | .chain _ _ _ _ _, _, _, _, _, h => by simp [chkAs] at h
  | .ite _ _ _, _, _, _, _, h => by simp [chkAs] at h
  | .tup _, _, _, _, _, h => by simp [chkAs] at h
  | .list _, _, _, _, _, h => by simp [chkAs] at h
  | .idx _ _, _, _, _, _, h => by simp [chkAs] at h
  | .slice _ _ _, _, _, _, _, h => by simp [chkAs] at h
  | .rev _, _, _, _, _, h => by simp [chkAs] at h
  | .no, _, _, _, _, h => by simp [chkAs] at h
  | .call _ _, _, _, _, _, h => by simp [chkAs] at h
  | .bi _ _, _, _, _, _, h => by simp [chkAs] at h
  | .isinst _ _, _, _, _, _, h => by simp [chkAs] at h
  | .meth _ _ _, _, _, _, _, h => by simp [chkAs] at h
  | .dnew, _, _, _, _, h => by simp [chkAs] at h
  | .dget _ _ _, _, _, _, _, h => by simp [chkAs] at h
  | .dnewN, _, _, _, _, h => by simp [chkAs] at h
  | .dlit _ _, _, _, _, _, h => by simp [chkAs] at h
  | .box _, _, _, _, _, h => by simp [chkAs] at h
  | .rop _ _ _ _, _, _, _, _, h => by simp [chkAs] at h
  | .isexc _ _, _, _, _, _, h => by simp [chkAs] at h
  | .comp _ _ _ _, _, _, _, _, h => by simp [chkAs] at h
  | .range1 _, _, _, _, _, h => by simp [chkAs] at h
  | .range2 _ _, _, _, _, _, h => by simp [chkAs] at h
  | .enum _, _, _, _, _, h => by simp [chkAs] at h
  | .zip _ _, _, _, _, _, h => by simp [chkAs] at h
  | .enumZip _ _, _, _, _, _, h => by simp [chkAs] at h
theorem sO {cf : CF} {k : Nat} : ∀ (c : Ex) (X : Cx) (G : GC) (e : Option Expr), Cok X G cf k → chkO G c e = true → PO X e (tPo X.K cf G.O c)
  | .no, X, G, e, C, h => by
    cases e with
    | none => exact po_none'
    | some x => simp [chkO] at h
  | .cons a r, X, G, e, C, h => by
    cases r with
    | nil =>
      cases e with
      | none => simp [chkO] at h
      | some x =>
        simp only [chkO] at h
        exact po_some' (sE a X G x C h).pe
    | _ => simp [chkO] at h
  | .nil, _, _, _, _, h => by simp [chkO] at h
  | .var _, _, _, _, _, h => by simp [chkO] at h
  | .cst _, _, _, _, _, h => by simp [chkO] at h
  | .glb _ _, _, _, _, _, h => by simp [chkO] at h
  | .bin _ _ _, _, _, _, _, h => by simp [chkO] at h
  | .neg _, _, _, _, _, h => by simp [chkO] at h
  | .not _, _, _, _, _, h => by simp [chkO] at h
  | .and _ _, _, _, _, _, h => by simp [chkO] at h
  | .or _ _, _, _, _, _, h => by simp [chkO] at h
  | .cmp _ _ _, _, _, _, _, h => by simp [chkO] at h
  | .chain _ _ _ _ _, _, _, _, _, h => by simp [chkO] at h
  | .ite _ _ _, _, _, _, _, h => by simp [chkO] at h
  | .tup _, _, _, _, _, h => by simp [chkO] at h
  | .list _, _, _, _, _, h => by simp [chkO] at h
  | .idx _ _, _, _, _, _, h => by simp [chkO] at h
  | .slice _ _ _, _, _, _, _, h => by simp [chkO] at h
  | .rev _, _, _, _, _, h => by simp [chkO] at h
  | .call _ _, _, _, _, _, h => by simp [chkO] at h
  | .bi _ _, _, _, _, _, h => by simp [chkO] at h
  | .isinst _ _, _, _, _, _, h => by simp [chkO] at h
  | .meth _ _ _, _, _, _, _, h => by simp [chkO] at h
  | .dnew, _, _, _, _, h => by simp [chkO] at h
  | .dget _ _ _, _, _, _, _, h => by simp [chkO] at h
  | .dnewN, _, _, _, _, h => by simp [chkO] at h
  | .dlit _ _, _, _, _, _, h => by simp [chkO] at h
  | .box _, _, _, _, _, h => by simp [chkO] at h
  | .rop _ _ _ _, _, _, _, _, h => by simp [chkO] at h
  | .isexc _ _, _, _, _, _, h => by simp [chkO] at h
  | .comp _ _ _ _, _, _, _, _, h => by simp [chkO] at h
  | .range1 _, _, _, _, _, h => by simp [chkO] at h
  | .range2 _ _, _, _, _, _, h => by simp [chkO] at h
  | .enum _, _, _, _, _, h => by simp [chkO] at h
  | .zip _ _, _, _, _, _, h => by simp [chkO] at h
  | .enumZip _ _, _, _, _, _, h => by simp [chkO] at h
theorem sI {cf : CF} {k : Nat} (tg : Expr) : ∀ (c : Ex) (X : Cx) (G : GC) (e : Expr), Cok X G cf k → chkI G tg c e = true → PI X tg e (tI X.K cf G.O c)
  | .cons a r, X, G, e, C, h => by
    cases r with
    | nil =>
      cases a with
      | range1 b =>
        unfold chkI at h
        split at h
        · rename_i r' p z pos
          simp only [Bool.and_eq_true] at h
          obtain ⟨rfl, hg, hm⟩ := isBi_of C h.1.1
          exact i_range1 hg hm h.1.2 (sE b X G z C h.2).pe
        · cases h
      | range2 b c =>
        unfold chkI at h
        split at h
        · rename_i r' p y z pos
          simp only [Bool.and_eq_true] at h
          obtain ⟨⟨⟨⟨h1, h2⟩, h3⟩, h4⟩, h5⟩ := h
          obtain ⟨rfl, hg, hm⟩ := isBi_of C h1
          exact i_range2 hg hm h2 h3 (sE b X G y C h4).pe (sE c X G z C h5).pe
        · cases h
      | _ =>
        simp only [chkI] at h
        exact i_ex (fun b q => nomatch q) (sE _ X G e C h).pe
    | _ => cases a <;> simp [chkI] at h
  | .enum a, X, G, e, C, h => by
    unfold chkI at h
    split at h
    · rename_i r p z pos elts kk tpos
      simp only [Bool.and_eq_true] at h
      obtain ⟨rfl, hg, hm⟩ := isBi_of C h.1.1
      exact i_enum hg hm h.1.2 (sE a X G z C h.2).pe
    · cases h
  | .zip a b, X, G, e, C, h => by
    unfold chkI at h
    split at h
    · rename_i r p y z pos elts kk tpos
      simp only [Bool.and_eq_true] at h
      obtain ⟨⟨⟨⟨h1, h2⟩, h3⟩, h4⟩, h5⟩ := h
      obtain ⟨rfl, hg, hm⟩ := isBi_of C h1
      exact i_zip hg hm h2 h3 (sE a X G y C h4).pe (sE b X G z C h5).pe
    · cases h
  | .enumZip a b, X, G, e, C, h => by
    unfold chkI at h
    split at h
    · rename_i r p q p2 y z pos pos2 elts kk tpos
      simp only [Bool.and_eq_true] at h
      obtain ⟨⟨⟨⟨⟨h0, h1⟩, h2⟩, h3⟩, h4⟩, h5⟩ := h
      obtain ⟨rfl, hg', hm'⟩ := isBi_of C h0
      obtain ⟨rfl, hg, hm⟩ := isBi_of C h1
      exact i_enumZip hg hm hg' hm' h2 h3 (sE a X G y C h4).pe (sE b X G z C h5).pe
    · cases h
  | .nil, _, _, _, _, h => by simp [chkI] at h
  | .no, _, _, _, _, h => by simp [chkI] at h
  | .var _, _, _, _, _, h => by simp [chkI] at h
  | .cst _, _, _, _, _, h => by simp [chkI] at h
  | .glb _ _, _, _, _, _, h => by simp [chkI] at h
  | .bin _ _ _, _, _, _, _, h => by simp [chkI] at h
  | .neg _, _, _, _, _, h => by simp [chkI] at h
  | .not _, _, _, _, _, h => by simp [chkI] at h
  | .and _ _, _, _, _, _, h => by simp [chkI] at h
  | .or _ _, _, _, _, _, h => by simp [chkI] at h
  | .cmp _ _ _, _, _, _, _, h => by simp [chkI] at h
  | .chain _ _ _ _ _, _, _, _, _, h => by simp [chkI] at h
  | .ite _ _ _, _, _, _, _, h => by simp [chkI] at h
  | .tup _, _, _, _, _, h => by simp [chkI] at h
  | .list _, _, _, _, _, h => by simp [chkI] at h
  | .idx _ _, _, _, _, _, h => by simp [chkI] at h
  | .slice _ _ _, _, _, _, _, h => by simp [chkI] at h
  | .rev _, _, _, _, _, h => by simp [chkI] at h
  | .call _ _, _, _, _, _, h => by simp [chkI] at h
  | .bi _ _, _, _, _, _, h => by simp [chkI] at h
  | .isinst _ _, _, _, _, _, h => by simp [chkI] at h
  | .meth _ _ _, _, _, _, _, h => by simp [chkI] at h
  | .dnew, _, _, _, _, h => by simp [chkI] at h
  | .dget _ _ _, _, _, _, _, h => by simp [chkI] at h
  | .dnewN, _, _, _, _, h => by simp [chkI] at h
  | .dlit _ _, _, _, _, _, h => by simp [chkI] at h
  | .box _, _, _, _, _, h => by simp [chkI] at h
  | .rop _ _ _ _, _, _, _, _, h => by simp [chkI] at h
  | .isexc _ _, _, _, _, _, h => by simp [chkI] at h
  | .comp _ _ _ _, _, _, _, _, h => by simp [chkI] at h
  | .range1 _, _, _, _, _, h => by simp [chkI] at h
  | .range2 _ _, _, _, _, _, h => by simp [chkI] at h
end
end BG

/-! BG.SoundS: the checker is right for statements. -/
namespace BG
open PySem PySem.Spec PyProof.Rows L2

/-- the state at a def's entry -/
structure Base where
  H0 : Hp
  R0 : Hp
  d0 : Dr
structure RelS (K : PySem.W.Frag) (B : Base) (Rf : Hp) (df : Dr) (O : List Nat) (e : Env) (s : DSt) (dr : Dr) (R : Hp) (σ : St) (H : Hp) : Prop where
  rel : Rel K O e s dr R σ H
  gr : Grow B.d0 dr B.R0 R B.H0 H
  fl : Sub Rf R
  fd : DrLe df dr
  ofr : ∀ i ∈ O, ∀ d a, e[i]? = some (some d) → σ[i]? = some (some (.ref a)) → B.H0 a = none
section
variable {K : PySem.W.Frag} {B : Base} {Rf : Hp} {df : Dr} {O : List Nat} {e : Env} {s s' : DSt} {dr dr' : Dr} {R R' H H' : Hp} {σ σ' : St}
theorem RelS.grow (r : RelS K B Rf df O e s dr R σ H) (g : Grow dr dr' R R' H H') (sb : Sub R' H') (dk : DrOk K dr' s' R' H') : RelS K B Rf df O e s' dr' R' σ H' :=
  ⟨r.rel.grow g sb dk, r.gr.trans g, r.fl.trans g.rs, r.fd.trans g.drl, r.ofr⟩
theorem RelS.upd {S : List Nat} {e' : Env} (r : RelS K B Rf df O e s dr R σ H) (u : Upd K dr R S e σ e' σ') : RelS K B Rf df (rmS O S) e' s dr R σ' H where
  rel := r.rel.upd u
  gr := r.gr
  fl := r.fl
  fd := r.fd
  ofr := fun i hi d a h1 h2 => by
    obtain ⟨m, q⟩ := List.mem_filter.mp hi
    have q' : i ∉ S := by simpa using q
    obtain ⟨a1, a2⟩ := u.out i q'
    exact r.ofr i m d a (a1.symm.trans h1) (a2.symm.trans h2)
theorem rmS_one (O : List Nat) (i : Nat) : rmS O [i] = rmO O i := by
  unfold rmS rmO
  congr 1
  funext j
  simp
theorem mem_rmO {O : List Nat} {i j : Nat} : j ∈ rmO O i ↔ j ∈ O ∧ j ≠ i := by
  unfold rmO
  rw [List.mem_filter]
  simp
theorem mem_rmS {O S : List Nat} {j : Nat} : j ∈ rmS O S ↔ j ∈ O ∧ j ∉ S := by
  unfold rmS
  rw [List.mem_filter]
  simp
/-- an owned list is held by more than its name from here on -/
theorem RelS.freeze (i : Nat) (r : RelS K B Rf df O e s dr R σ H) : ∃ R', RelS K B Rf df (rmO O i) e s dr R' σ H ∧ Sub R R' := by
  by_cases hb : i ∈ O ∧ ∃ d, e[i]? = some (some d)
  · obtain ⟨hi, d, hd⟩ := hb
    obtain ⟨v, hv, ho⟩ := r.rel.val i d hd
    rw [if_pos hi] at ho
    obtain ⟨a, ob, rfl, h1, h2, h3, h4⟩ := ho
    have sr : Sub R (L2.upd R a ob) := fun b o h => by rw [upd_ne (fun z => by rw [z, h2] at h; cases h)]; exact h
    refine ⟨L2.upd R a ob, ⟨⟨fun b o h => ?_, r.rel.len, fun j d' hj => ?_, ?_, r.rel.drok.upd h3 h2⟩, ⟨r.gr.rs.trans sr, fun b o h n => ?_, r.gr.keep, r.gr.dom, r.gr.drl, r.gr.drn⟩, r.fl.trans sr, r.fd, ?_⟩, sr⟩
    · by_cases z : b = a
      · subst z; rw [upd_same] at h; cases h; exact h1
      · rw [upd_ne z] at h; exact r.rel.sub b o h
    · obtain ⟨v', hv', ho'⟩ := r.rel.val j d' hj
      refine ⟨v', hv', ?_⟩
      by_cases q : j = i
      · subst q
        rw [if_neg (fun z => (mem_rmO.mp z).2 rfl)]
        rw [hd] at hj
        cases hj
        rw [hv] at hv'
        cases hv'
        exact (h4.mono (DrLe.refl _) sr).rp upd_same
      · by_cases m : j ∈ O
        · rw [if_pos m] at ho'
          rw [if_pos (mem_rmO.mpr ⟨m, q⟩)]
          obtain ⟨b, ob', rfl, c1, c2, c3, c4⟩ := ho'
          refine ⟨b, ob', rfl, c1, ?_, c3, c4.mono (DrLe.refl _) sr⟩
          rw [upd_ne (fun z => by subst z; exact r.rel.dist i j _ _ _ hi m (fun q' => q q'.symm) hd hj hv hv')]
          exact c2
        · rw [if_neg m] at ho'
          rw [if_neg (fun z => m (mem_rmO.mp z).1)]
          exact Rp.mono (DrLe.refl _) sr _ ho'
    · intro j l b d1 d2 hj hl hn q1 q2 q3 q4
      exact r.rel.dist j l b d1 d2 (mem_rmO.mp hj).1 (mem_rmO.mp hl).1 hn q1 q2 q3 q4
    · by_cases z : b = a
      · subst z
        exact .inl (r.ofr i hi _ _ hd hv)
      · rw [upd_ne z] at h
        exact r.gr.new b o h n
    · intro j hj d' b q1 q2
      exact r.ofr j (mem_rmO.mp hj).1 d' b q1 q2
  · refine ⟨R, ⟨⟨r.rel.sub, r.rel.len, fun j d' hj => ?_, ?_, r.rel.drok⟩, r.gr, r.fl, r.fd, fun j hj d' b q1 q2 => r.ofr j (mem_rmO.mp hj).1 d' b q1 q2⟩, Sub.refl R⟩
    · obtain ⟨v', hv', ho'⟩ := r.rel.val j d' hj
      refine ⟨v', hv', ?_⟩
      by_cases m : j ∈ O
      · have q : j ≠ i := fun q => hb ⟨by rw [← q]; exact m, d', by rw [← q]; exact hj⟩
        rw [if_pos m] at ho'
        rw [if_pos (mem_rmO.mpr ⟨m, q⟩)]
        exact ho'
      · rw [if_neg m] at ho'
        rw [if_neg (fun z => m (mem_rmO.mp z).1)]
        exact ho'
    · intro j l b d1 d2 hj hl hn q1 q2 q3 q4
      exact r.rel.dist j l b d1 d2 (mem_rmO.mp hj).1 (mem_rmO.mp hl).1 hn q1 q2 q3 q4
/-- a name takes a new list of its own; Hs: an earlier heap, in which all owned lists stood -/
theorem RelS.own {i : Nat} {v : V} {d : Val} {Hs : Hp} (r : RelS K B Rf df O e s dr R σ H) (hi : i < e.length) (ho : OwnF K dr R Hs H v d) (hs : ∀ j ∈ O, ∀ d' b, e[j]? = some (some d') → σ[j]? = some (some (.ref b)) → ∃ o, Hs b = some o) (h0 : ∀ a, Hs a = none → B.H0 a = none) :
    RelS K B Rf df (i :: rmO O i) (e.set i (some d)) s dr R (σ.set i (some v)) H := by
  obtain ⟨a, ob, rfl, h1, h2, h3, h4, h6⟩ := ho
  have hl := r.rel.len
  refine ⟨⟨r.rel.sub, by simp [hl], fun j d' hj => ?_, ?_, r.rel.drok⟩, r.gr, r.fl, r.fd, ?_⟩
  · by_cases q : j = i
    · subst q
      rw [List.getElem?_set_self hi] at hj
      cases hj
      exact ⟨_, List.getElem?_set_self (by omega), by rw [if_pos List.mem_cons_self]; exact ⟨a, ob, rfl, h1, h2, h3, h4⟩⟩
    · rw [List.getElem?_set_ne (fun z => q z.symm)] at hj
      obtain ⟨v', hv', ho'⟩ := r.rel.val j d' hj
      refine ⟨v', by rw [List.getElem?_set_ne (fun z => q z.symm)]; exact hv', ?_⟩
      by_cases m : j ∈ O
      · rw [if_pos m] at ho'
        rw [if_pos (List.mem_cons_of_mem _ (mem_rmO.mpr ⟨m, q⟩))]
        exact ho'
      · rw [if_neg m] at ho'
        rw [if_neg (fun z => by rcases List.mem_cons.mp z with z | z; exact q z; exact m (mem_rmO.mp z).1)]
        exact ho'
  · intro j l b d1 d2 hj hl' hn q1 q2 q3 q4
    have key : ∀ (j : Nat), j ∈ i :: rmO O i → j ≠ i → j ∈ O := fun j hj n => by
      rcases List.mem_cons.mp hj with z | z
      · exact absurd z n
      · exact (mem_rmO.mp z).1
    by_cases qj : j = i
    · subst qj
      rw [List.getElem?_set_self (by omega)] at q3
      cases q3
      rw [List.getElem?_set_ne hn] at q2 q4
      obtain ⟨o, ho⟩ := hs l (key l hl' (fun z => hn z.symm)) d2 a q2 q4
      rw [h6] at ho
      cases ho
    · rw [List.getElem?_set_ne (fun z => qj z.symm)] at q1 q3
      by_cases ql : l = i
      · subst ql
        rw [List.getElem?_set_self (by omega)] at q4
        cases q4
        obtain ⟨o, ho⟩ := hs j (key j hj qj) d1 a q1 q3
        rw [h6] at ho
        cases ho
      · rw [List.getElem?_set_ne (fun z => ql z.symm)] at q2 q4
        exact r.rel.dist j l b d1 d2 (key j hj qj) (key l hl' ql) hn q1 q2 q3 q4
  · intro j hj d' b q1 q2
    by_cases q : j = i
    · subst q
      rw [List.getElem?_set_self (by omega)] at q2
      cases q2
      exact h0 a h6
    · rw [List.getElem?_set_ne (fun z => q z.symm)] at q1 q2
      rcases List.mem_cons.mp hj with z | z
      · exact absurd z q
      · exact r.ofr j (mem_rmO.mp z).1 d' b q1 q2
/-- the owned list of a name is written -/
theorem RelS.writeO {i : Nat} {a : Addr} {on : HO} {dn d0 : Val} (r : RelS K B Rf df O e s dr R σ H) (hi : i ∈ O) (he : e[i]? = some (some d0)) (hv : σ[i]? = some (some (.ref a))) (rp : ObjR K dr R a on dn) :
    RelS K B Rf df O (e.set i (some dn)) s dr R σ (L2.upd H a on) := by
  obtain ⟨v, hv', ho⟩ := r.rel.val i d0 he
  rw [if_pos hi] at ho
  rw [hv] at hv'
  cases hv'
  obtain ⟨a', ob, ea, h1, h2, h3, h4⟩ := ho
  cases ea
  have hi' : i < e.length := by
    rcases List.getElem?_eq_some_iff.mp he with ⟨q, _⟩
    exact q
  refine ⟨⟨fun b o h => ?_, by simp [r.rel.len], fun j d' hj => ?_, ?_, r.rel.drok.updH h3⟩, ⟨r.gr.rs, r.gr.new, fun b o h n => ?_, fun b h => ?_, r.gr.drl, r.gr.drn⟩, r.fl, r.fd, ?_⟩
  · rw [upd_ne (fun z => by rw [z, h2] at h; cases h)]; exact r.rel.sub b o h
  · by_cases q : j = i
    · subst q
      rw [List.getElem?_set_self hi'] at hj
      cases hj
      refine ⟨_, hv, ?_⟩
      rw [if_pos hi]
      exact ⟨a, on, rfl, upd_same, h2, h3, rp⟩
    · rw [List.getElem?_set_ne (fun z => q z.symm)] at hj
      obtain ⟨v', hv', ho'⟩ := r.rel.val j d' hj
      refine ⟨v', hv', ?_⟩
      by_cases m : j ∈ O
      · rw [if_pos m] at ho' ⊢
        obtain ⟨b, ob', rfl, c1, c2, c3, c4⟩ := ho'
        refine ⟨b, ob', rfl, ?_, c2, c3, c4⟩
        rw [upd_ne (fun z => by subst z; exact r.rel.dist i j _ _ _ hi m (fun q' => q q'.symm) he hj hv hv')]
        exact c1
      · rw [if_neg m] at ho' ⊢
        exact ho'
  · intro j l b d1 d2 hj hl' hn q1 q2 q3 q4
    have key : ∀ (j : Nat) d, (e.set i (some dn))[j]? = some (some d) → ∃ d', e[j]? = some (some d') := fun j d h => by
      by_cases q : j = i
      · subst q; exact ⟨_, he⟩
      · rw [List.getElem?_set_ne (fun z => q z.symm)] at h; exact ⟨d, h⟩
    obtain ⟨d1', q1'⟩ := key j d1 q1
    obtain ⟨d2', q2'⟩ := key l d2 q2
    exact r.rel.dist j l b _ _ hj hl' hn q1' q2' q3 q4
  · rw [upd_ne (fun z => by rw [z, r.ofr i hi _ _ he hv] at h; cases h)]
    exact r.gr.keep b o h n
  · by_cases z : b = a
    · rw [z, upd_same] at h; cases h
    · rw [upd_ne z] at h; exact r.gr.dom b h
  · intro j hj d' b q1 q2
    by_cases q : j = i
    · subst q
      rw [hv] at q2
      cases q2
      exact r.ofr j hi _ _ he hv
    · rw [List.getElem?_set_ne (fun z => q z.symm)] at q1
      exact r.ofr j hj d' b q1 q2
theorem RelS.write {i : Nat} {a : Addr} {xs : List V} {ds : List Val} {d0 : Val} (r : RelS K B Rf df O e s dr R σ H) (hi : i ∈ O) (he : e[i]? = some (some d0)) (hv : σ[i]? = some (some (.ref a))) (rp : RpAll K dr R xs ds) (hl : ds.length ≤ lim) :
    RelS K B Rf df O (e.set i (some (.lst ds))) s dr R σ (L2.upd H a (.lst xs)) := r.writeO hi he hv (.lst rp hl)
theorem RelS.frzAll : ∀ (L : List Nat) {O : List Nat} {dr : Dr} {R H : Hp} {σ : St} {e : Env} {s : DSt}, (∀ j ∈ O, j ∈ L) → RelS K B Rf df O e s dr R σ H → ∃ R', RelS K B Rf df [] e s dr R' σ H ∧ Sub R R'
  | [], O, dr, R, H, σ, e, s, h, r => by
    have : O = [] := List.eq_nil_iff_forall_not_mem.mpr fun j hj => nomatch h j hj
    subst this
    exact ⟨R, r, Sub.refl R⟩
  | i :: L, O, dr, R, H, σ, e, s, h, r => by
    obtain ⟨R1, r1, s1⟩ := r.freeze i
    obtain ⟨R2, r2, s2⟩ := RelS.frzAll L (O := rmO O i) (fun j hj => by
      obtain ⟨h1, h2⟩ := mem_rmO.mp hj
      rcases List.mem_cons.mp (h j h1) with z | z
      · exact absurd z h2
      · exact z) r1
    exact ⟨R2, r2, s1.trans s2⟩
end

/-! ### readings of statements -/
def EndP (K : PySem.W.Frag) (xw : Nat → St → Hp → Prop) (B : Base) (Rf : Hp) (df : Dr) (Ob Oc On : List Nat) (D : Ends) (o : OutS) : Prop :=
  match o with
  | .next e s => ∀ σ dr R H, RelS K B Rf df On e s dr R σ H → D.nx σ H
  | .brk e s => ∀ σ dr R H, RelS K B Rf df Ob e s dr R σ H → D.bk σ H
  | .cont e s => ∀ σ dr R H, RelS K B Rf df Oc e s dr R σ H → D.ct σ H
  | .ret v s => ∀ w dr R H, Grow B.d0 dr B.R0 R B.H0 H → Sub R H → DrOk K dr s R H → Rp K dr R w v → D.rt w H
  | .exc c e s => ∀ σ dr R H, RelS K B Rf df [] e s dr R σ H → xw c σ H
  | .bad => False
def tS (K : PySem.W.Frag) (cf : CF) (B : Base) (Rf : Hp) (df : Dr) (Ob Oc On O : List Nat) (c : Sx) : TS := fun D σ H =>
  ∃ e s dr R, RelS K B Rf df O e s dr R σ H ∧ EndP K cf.xw B Rf df Ob Oc On D (exec cf c e s)
theorem PS.weak {X : Cx} {st : Stmt} {t t' : TS} (h : PS X st t) (w : ∀ D σ H, t' D σ H → t D σ H) : PS X st t' := ⟨fun pins s σ H D I q => h.run pins s σ H D I (w D σ H q)⟩
theorem PSs.weak {X : Cx} {st : List Stmt} {t t' : TS} (h : PSs X st t) (w : ∀ D σ H, t' D σ H → t D σ H) : PSs X st t' := ⟨fun pins s σ H D I q => h.run pins s σ H D I (w D σ H q)⟩
section
variable {α : Type} {K : PySem.W.Frag} {xw : Nat → St → Hp → Prop} {B : Base} {Rf : Hp} {df : Dr} {Ob Oc On O : List Nat} {D : Ends}
/-- an expression, then f -/
theorem EndP.beh {o : Out α} {e : Env} {s : DSt} {dr : Dr} {R H : Hp} {σ : St} {f : α → DSt → OutS} {Q1 : α → Dr → Hp → Hp → Prop} (rel : RelS K B Rf df O e s dr R σ H) (h : EndP K xw B Rf df Ob Oc On D (o.thenS e f))
    (w : ∀ a s1, o = .ok a s1 → EndP K xw B Rf df Ob Oc On D (f a s1) → ∀ dr1 R1 H1, Grow dr dr1 R R1 H H1 → Sub R1 H1 → DrOk K dr1 s1 R1 H1 → Q1 a dr1 R1 H1) : Beh K (fun c H => xw c σ H) dr R H o Q1 := by
  cases o with
  | ok a s1 => exact w a s1 rfl h
  | exc c s1 =>
    intro dr1 R1 H1 g1 sb1 dk1
    obtain ⟨R2, r2, _⟩ := (rel.grow g1 sb1 dk1).frzAll O fun j hj => hj
    exact h σ dr1 R2 H1 r2
  | bad => exact h
theorem EndP.nox {o : Out α} {e : Env} {f : α → DSt → OutS} (h : EndP K xw B Rf df Ob Oc On D (o.noexc.thenS e f)) : ∃ a s, o = .ok a s ∧ EndP K xw B Rf df Ob Oc On D (f a s) := by
  cases o with
  | ok a s => exact ⟨a, s, rfl, h⟩
  | exc c s => exact h.elim
  | bad => exact h.elim
theorem EndP.nextIf {o : Option Env} {s : DSt} (h : EndP K xw B Rf df Ob Oc On D (BG.nextIf o s)) : ∃ e, o = some e ∧ ∀ σ dr R H, RelS K B Rf df On e s dr R σ H → D.nx σ H := by
  cases o with
  | none => exact h.elim
  | some e => exact ⟨e, rfl, h⟩
end
theorem setE_some {e e' : Env} {i : Nat} {v : Val} (h : setE e i v = some e') : i < e.length ∧ e' = e.set i (some v) := by
  simp only [setE, Option.ite_none_right_eq_some, Option.some.injEq] at h
  exact ⟨h.1, h.2.symm⟩
end BG

/-! BG.SoundT: each statement. -/
namespace BG
open PySem PySem.Spec PyProof.Rows L2

abbrev GC.at (G : GC) (O : List Nat) : GC := { G with O := O }
theorem Cok.at {X : Cx} {G : GC} {cf : CF} {k : Nat} (C : Cok X G cf k) (O : List Nat) : Cok X (G.at O) cf k :=
  ⟨C.sc, C.N, C.nd, C.calm, C.room, C.fn, C.fns, C.free, C.cons, C.tk, C.excs⟩

section
variable {X : Cx} {G : GC} {cf : CF} {k : Nat} {B : Base} {Rf : Hp} {df : Dr} {Ob Oc On O : List Nat} {pos : Pos}
/-- from a statement's reading to its expression's -/
theorem tS_E {c : Ex} {s0 : Sx} {f : Env → Val → DSt → OutS} (hx : ∀ e s, exec cf s0 e s = (ev cf c e s).thenS e (f e)) {D : Ends} {σ : St} {H : Hp} {Q : VK} (h : tS X.K cf B Rf df Ob Oc On O s0 D σ H)
    (w : ∀ e s dr R v d H1, RelS X.K B Rf df O e s dr R σ H1 → Res X.K O c dr R H1 v d → EndP X.K cf.xw B Rf df Ob Oc On D (f e d s) → Q v H1) : tE X.K cf O c σ H Q := by
  obtain ⟨e, s, dr, R, rel, en⟩ := h
  rw [hx] at en
  refine ⟨e, s, dr, R, rel.rel, EndP.beh rel en fun d s1 ed e1 => ?_⟩
  intro dr1 R1 H1 g1 sb1 dk1 v rv
  exact w e s1 dr1 R1 v d H1 (rel.grow g1 sb1 dk1) rv e1
theorem tS_F {c : Ex} {s0 : Sx} {f : Env → Val → DSt → OutS} (hx : ∀ e s, exec cf s0 e s = (ev cf c e s).thenS e (f e)) {D : Ends} {σ : St} {H : Hp} {Q : VK} (h : tS X.K cf B Rf df Ob Oc On O s0 D σ H)
    (w : ∀ e s dr R v d H1, RelS X.K B Rf df O e s dr R σ H1 → OwnF X.K dr R H H1 v d → (∀ j ∈ O, ∀ d' b, e[j]? = some (some d') → σ[j]? = some (some (.ref b)) → ∃ o, H b = some o) → (∀ a, H a = none → B.H0 a = none) → EndP X.K cf.xw B Rf df Ob Oc On D (f e d s) → Q v H1) : tF X.K cf O c σ H Q := by
  obtain ⟨e, s, dr, R, rel, en⟩ := h
  rw [hx] at en
  refine ⟨e, s, dr, R, rel.rel, EndP.beh rel en fun d s1 ed e1 => ?_⟩
  intro dr1 R1 H1 g1 sb1 dk1 v rv
  refine w e s1 dr1 R1 v d H1 (rel.grow g1 sb1 dk1) rv (fun j hj d' b q1 q2 => ?_) rel.gr.dom e1
  obtain ⟨v', h1, h2⟩ := rel.rel.val j d' q1
  rw [if_pos hj] at h2
  obtain ⟨a, ob, rfl, c1, _⟩ := h2
  rw [q2] at h1
  cases h1
  exact ⟨_, c1⟩
theorem swaps_false {v : Expr} {t : Option Expr} {l : Nat} {env : PySem.Env} (h : notComp v = true) : swapsWith v t l env = pure false := by
  cases v <;> first | rfl | simp [notComp] at h

/-! ### new lists -/
theorem f_list (C : Cok X G cf k) {a : Ex} {es : List Expr} (h : chkE G (.list a) (.List es pos) = true) : PE X (.List es pos) (tF X.K cf G.O (.list a)) := by
  simp only [chkE, Bool.and_eq_true, decide_eq_true_eq] at h
  exact f_listA h.2 h.1.1 h.1.2 (sAs a X G es C h.2)
theorem f_two {a b : Ex} {x y : Expr} {op : Operator} {r : R2} {kk : BinK} (ho : OpR X (binaryOp op) r) (ha : PE X x (tE X.K cf G.O (.list a))) (hb : PE X y (tE X.K cf G.O b))
    (ok : ∀ dr R H Hs s vx vy ds y z Q, Sub R H → DrOk X.K dr s R H → (∀ a, H a = none → Hs a = none) → Sh X.K dr R H vx (.lst ds) → Sh X.K dr R H vy y → vbin kk (.lst ds) y = some z → (∀ dr' R' H', Grow dr dr' R R' H H' → Sub R' H' → DrOk X.K dr' s R' H' → ∀ v, OwnF X.K dr' R' Hs H' v z → Q v H') → r vx vy H Q) :
    PE X (.BinOp x op y pos) (tF X.K cf G.O (.bin kk (.list a) b)) := by
  refine PE.weak (pe_op ho ha hb) fun σ H Q ⟨en, s, dr, R, rel, bh⟩ => ?_
  have hev : ev cf (.bin kk (.list a) b) en s = (ev cf (.list a) en s).bind fun x s => (ev cf b en s).bind fun y s => lift (vbin kk x y) s := by
    conv => lhs; unfold ev
  rw [hev] at bh
  refine ⟨en, s, dr, R, rel, bh.bind fun d s1 ex k1 => ?_⟩
  have hd : ∃ ds, d = .lst ds := by
    simp only [ev] at ex
    cases e1 : evs cf a en s with
    | ok xs s0 => rw [e1] at ex; simp only [Out.bind_ok, Out.ok.injEq] at ex; exact ⟨xs, ex.1.symm⟩
    | exc c s0 => rw [e1] at ex; simp at ex
    | bad => rw [e1] at ex; simp at ex
  obtain ⟨ds, rfl⟩ := hd
  intro dr1 R1 H1 g1 sb1 dk1 vx rx
  refine ⟨en, s1, dr1, R1, rel.grow g1 sb1 dk1, (k1 dr1 R1 H1 g1 sb1).bind fun yy s2 ey k2 => ?_⟩
  intro dr2 R2 H2 g2 sb2 dk2 vy ry
  obtain ⟨z, ez, k3⟩ := (k2 dr2 R2 H2 g2 sb2).lift
  exact ok dr2 R2 H2 H s2 vx vy ds yy z Q sb2 dk2 (g1.trans g2).dom (rx.grow g2).sh ry.sh ez fun dr' R' H' g sb dk v rv => k3.ok g sb dk v rv
theorem f_mul {a b : Ex} {x y : Expr} (ha : PE X x (tE X.K cf G.O (.list a))) (hb : PE X y (tE X.K cf G.O b)) : PE X (.BinOp x .Mult y pos) (tF X.K cf G.O (.bin .mul (.list a) b)) := by
  refine f_two op_rep ha hb fun dr R H Hs s vx vy ds y z Q sb dk hd hx hy e f => ?_
  cases y with
  | int j =>
    simp only [vbin, Option.ite_none_right_eq_some, Option.some.injEq] at e
    obtain ⟨⟨h1, h2, h3⟩, rfl⟩ := e
    obtain ⟨p, xs, rfl, g1, g3⟩ := hx.lst sb
    rw [hy.int]
    have l1 := g3.len
    exact ⟨p, j, xs, rfl, rfl, g1, by omega, by omega, by rw [l1]; exact lim_line h1, fun t ht => newF sb dk (g3.rep _) (by rw [lm_len_rep_flat, Nat.mul_comm]; exact h1) hd t ht f⟩
  | _ => simp [vbin] at e
theorem f_add {a b : Ex} {x y : Expr} (ha : PE X x (tE X.K cf G.O (.list a))) (hb : PE X y (tE X.K cf G.O b)) : PE X (.BinOp x .Add y pos) (tF X.K cf G.O (.bin .add (.list a) b)) := by
  refine f_two op_cat ha hb fun dr R H Hs s vx vy ds y z Q sb dk hd hx hy e f => ?_
  cases y with
  | lst b =>
    simp only [vbin, Option.ite_none_right_eq_some, Option.some.injEq] at e
    obtain ⟨hl, rfl⟩ := e
    obtain ⟨p, xs, rfl, g1, g3⟩ := hx.lst sb
    obtain ⟨q, ys, rfl, k1, k3⟩ := hy.lst sb
    have l1 := g3.len
    have l2 := k3.len
    exact ⟨p, q, xs, ys, rfl, rfl, g1, k1, lim_line (by omega), fun t ht => newF sb dk (g3.append k3) (by rw [List.length_append]; exact hl) hd t ht f⟩
  | _ => simp [vbin] at e
theorem f_addR {a b : Ex} {x y : Expr} (ha : PE X x (tE X.K cf G.O a)) (hb : PE X y (tE X.K cf G.O (.list b))) : PE X (.BinOp x .Add y pos) (tF X.K cf G.O (.bin .add a (.list b))) := by
  refine PE.weak (pe_op op_cat ha hb) fun σ H Q ⟨en, s, dr, R, rel, bh⟩ => ?_
  have hev : ev cf (.bin .add a (.list b)) en s = (ev cf a en s).bind fun x s => (ev cf (.list b) en s).bind fun y s => lift (vbin .add x y) s := by
    conv => lhs; unfold ev
  rw [hev] at bh
  refine ⟨en, s, dr, R, rel, bh.bind fun d s1 ex k1 => ?_⟩
  intro dr1 R1 H1 g1 sb1 dk1 vx rx
  refine ⟨en, s1, dr1, R1, rel.grow g1 sb1 dk1, (k1 dr1 R1 H1 g1 sb1).bind fun yy s2 ey k2 => ?_⟩
  have hd : ∃ ds, yy = .lst ds := by
    simp only [ev] at ey
    cases e1 : evs cf b en s1 with
    | ok xs s0 => rw [e1] at ey; simp only [Out.bind_ok, Out.ok.injEq] at ey; exact ⟨xs, ey.1.symm⟩
    | exc c s0 => rw [e1] at ey; simp at ey
    | bad => rw [e1] at ey; simp at ey
  obtain ⟨ds, rfl⟩ := hd
  intro dr2 R2 H2 g2 sb2 dk2 vy ry
  obtain ⟨z, ez, k3⟩ := (k2 dr2 R2 H2 g2 sb2).lift
  have hx := (rx.grow g2).sh
  cases d with
  | lst cs =>
    simp only [vbin, Option.ite_none_right_eq_some, Option.some.injEq] at ez
    obtain ⟨hl, rfl⟩ := ez
    obtain ⟨p, xs, rfl, q1, q3⟩ := hx.lst sb2
    obtain ⟨q, ys, rfl, k1', k3'⟩ := ry.sh.lst sb2
    have l1 := q3.len
    have l2 := k3'.len
    exact ⟨p, q, xs, ys, rfl, rfl, q1, k1', lim_line (by omega), fun t ht => newF sb2 dk2 (q3.append k3') (by rw [List.length_append]; exact hl) (g1.trans g2).dom t ht fun dr' R' H' g sb dk v rv => k3.ok g sb dk v rv⟩
  | _ => simp [vbin] at ez
/-- the parts of a comprehension -/
structure CompP (X : Cx) (G : GC) (cf : CF) (t : Tg) (src cond elt : Ex) (el tg it : Expr) (ifs : List Expr) (scope : Scope) : Prop where
  ho : isOwn G.O elt = false
  hS : ∀ i ∈ slots t, i ∉ G.O
  hi : PI X tg it (tI X.K cf G.O src)
  blk : BlkOk X.N X.env.scope scope (ownOf G.N (slots t))
  snd : (ownOf G.N (slots t)).map (·.2) = slots t
  hg : ∀ (s : Shared) (H : Hp) (D : Addr) (cl : List (Str × Addr)) (fp : List Addr), PG (X.blk s H scope (compEnvC scope cl D X.env) fp) tg (gTg X.K t)
  ht : ∀ (s : Shared) (H : Hp) (D : Addr) (cl : List (Str × Addr)) (fp : List Addr), PTs (X.blk s H scope (compEnvC scope cl D X.env) fp) ifs (ttOf X.K cf.no G.O cond)
  he : ∀ (s : Shared) (H : Hp) (D : Addr) (cl : List (Str × Addr)) (fp : List Addr), PE (X.blk s H scope (compEnvC scope cl D X.env) fp) el (tE X.K cf.no G.O elt)
  hf : ∀ x, foldedSetIterable it X.env x = pure x
theorem comp_parts (C : Cok X G cf k) {t : Tg} {src cond elt : Ex} {e : Expr} (h : chkE G (.comp t src cond elt) e = true) : ∃ el tg it ifs scope pos, e = .ListComp el [⟨tg, it, ifs, 0⟩] scope pos ∧ CompP X G cf t src cond elt el tg it ifs scope := by
  cases e with
  | ListComp el gs scope pos =>
    unfold chkE at h
    split at h
    · rename_i el' tg it ifs as scope' pos' he
      simp only [Expr.ListComp.injEq] at he
      obtain ⟨rfl, rfl, rfl, rfl⟩ := he
      simp only [Bool.and_eq_true, decide_eq_true_eq, Bool.not_eq_true'] at h
      obtain ⟨⟨⟨⟨⟨⟨⟨⟨⟨rfl, h1⟩, h2⟩, h3⟩, h4⟩, h5⟩, h6⟩, h7⟩, h8⟩, h9⟩ := h
      have hall := List.all_eq_true.mp h3
      refine ⟨el, tg, it, ifs, scope, pos, rfl, h9, fun i hi => ?_, sI tg src X G it C h1, by rw [C.N, C.sc]; exact blkOk_by h2, ownOf_snd (List.all_eq_true.mpr fun i hi => ?_), fun s H D cl fp => s_tg (C.inn scope s H D cl fp) t tg h4, fun s H D cl fp => ?_, fun s H D cl fp => (sE elt _ (G.inn scope) el (C.inn scope s H D cl fp) h8).pe, fold_of h6 _⟩
      · have := hall i hi
        simp only [Bool.and_eq_true, Bool.not_eq_true', decide_eq_false_iff_not] at this
        exact this.1
      · have := hall i hi
        simp only [Bool.and_eq_true] at this
        exact this.2
      · split at h7
        · exact pts_nil
        · cases h7
        · rename_i c c' hne
          have hc : ttOf X.K cf.no G.O cond = tT X.K cf.no G.O cond := by
            cases cond <;> first | rfl | exact absurd rfl hne
          rw [hc]
          exact pts_one (sE cond _ (G.inn scope) _ (C.inn scope s H D cl fp) h7).pt
        · cases h7
    · cases h
  | _ => simp [chkE] at h
theorem CompP.lc (C : Cok X G cf k) {t : Tg} {src cond elt : Ex} {el tg it : Expr} {ifs : List Expr} {scope : Scope} (P : CompP X G cf t src cond elt el tg it ifs scope) : PE X (.ListComp el [⟨tg, it, ifs, 0⟩] scope pos) (tF X.K cf G.O (.comp t src cond elt)) := by
  have Q := pe_lc (X := X) (elt := el) (tg := tg) (iter := it) (ifs := ifs) (scope := scope) (pos := pos) (own := ownOf G.N (slots t)) (wi := tI X.K cf G.O src) (g := gTg X.K t) (tt := ttOf X.K cf.no G.O cond) (te := tE X.K cf.no G.O elt) C.calm C.nd P.hi P.blk P.hg P.ht P.he P.hf
  rw [P.snd] at Q
  exact PE.weak Q (comp_runO P.ho P.hS)
theorem f_fresh (C : Cok X G cf k) {c : Ex} {e : Expr} (hf : isFresh c = true) (h : chkE G c e = true) : PE X e (tF X.K cf G.O c) := by
  cases c with
  | list a =>
    cases e with
    | List es pos => exact f_list C h
    | _ => simp [chkE] at h
  | comp t src cond elt =>
    obtain ⟨el, tg, it, ifs, scope, pos, rfl, P⟩ := comp_parts C h
    exact P.lc C
  | dnewN =>
    cases e with
    | Dict ks vs pos =>
      unfold chkE at h
      split at h
      · rename_i pos' he
        simp only [Expr.Dict.injEq] at he
        obtain ⟨rfl, rfl, rfl⟩ := he
        exact f_dnewN
      · cases h
    | _ => simp [chkE] at h
  | dlit a b =>
    cases e with
    | Dict ks vs pos =>
      unfold chkE at h
      split at h
      · rename_i x y pos' he
        simp only [Expr.Dict.injEq] at he
        obtain ⟨rfl, rfl, rfl⟩ := he
        simp only [Bool.and_eq_true, Bool.not_eq_true'] at h
        obtain ⟨⟨⟨h1, h2⟩, h3⟩, h4⟩ := h
        exact f_dlit C h1 h2 (sE a X G x C h3).pe (sE b X G y C h4).pe
      · cases h
    | _ => simp [chkE] at h
  | bin kk a b =>
    have il : ∀ c : Ex, isListE c = true → ∃ c', c = .list c' := fun c h => by
      cases c with
      | list c' => exact ⟨c', rfl⟩
      | _ => simp [isListE] at h
    cases e with
    | BinOp x op y pos =>
      simp only [chkE, Bool.and_eq_true, decide_eq_true_eq] at h
      obtain ⟨⟨rfl, h1⟩, h2⟩ := h
      have sa := (sE a X G x C h1).pe
      have sb := (sE b X G y C h2).pe
      cases kk with
      | add =>
        simp only [isFresh, Bool.or_eq_true] at hf
        rcases hf with hf | hf
        · obtain ⟨a', rfl⟩ := il _ hf
          exact f_add sa sb
        · obtain ⟨b', rfl⟩ := il _ hf
          exact f_addR sa sb
      | mul =>
        have hm : isListE a = true := by cases a <;> first | rfl | (simp [isFresh] at hf)
        obtain ⟨a', rfl⟩ := il _ hm
        exact f_mul sa sb
      | _ => simp [isFresh] at hf
    | _ => simp [chkE] at h
  | _ => simp [isFresh] at hf

/-! ### statements -/
theorem nameOk_of (C : Cok X G cf k) {i : Nat} {x : Str} (h : nameOk G i x = true) : X.N[i]? = some x ∧ Loc X.env.scope x := by
  simp only [nameOk, isLoc, Bool.and_eq_true, decide_eq_true_eq, Bool.or_eq_true] at h
  refine ⟨by rw [C.N]; exact h.1, ?_⟩
  rw [C.sc]
  rcases h.2 with q | q
  · exact .inl q
  · exact .inr q
theorem fn_of' (C : Cok X G cf k) (hb : G.blk = none) (x : Str) : X.fn x = true := C.fn x fun sc0 h => by rw [hb] at h; cases h
/-- name = value, the value's reading te (a comprehension's store is exchanged) -/
theorem ps_asgn (C : Cok X (G.at O) cf k) (hb : G.blk = none) (hk : G.sc.kind = .function) {i : Nat} {x : Str} {p : Pos} {c : Ex} {v : Expr} {te : TE} (h : asgOk G i x p c v = true) (hv : chkE (G.at O) c v = true) (he : PE X v te)
    (hc : ∀ t src cond elt, c = .comp t src cond elt → ∀ σ H Q, te σ H Q → tLc (tI X.K cf O src) (gTg X.K t) (ttOf X.K cf.no O cond) (tE X.K cf.no O elt) (slots t) σ H Q) : PS X (.Assign [.Name x p] v pos) (tAsg te (gName i)) := by
  simp only [asgOk, Bool.and_eq_true, Bool.or_eq_true] at h
  obtain ⟨h1, h2⟩ := h
  obtain ⟨hi, hl⟩ := nameOk_of C (G := G.at O) h1
  have hf : X.fn x = true ∨ X.env.scope.names.lookup x = some .local := .inl (fn_of' C hb x)
  by_cases hn : notComp v = true
  · exact ps_set C.nd hi hl he (swaps_false hn) hf
  · rcases h2 with h2 | h2
    · exact absurd h2 hn
    · cases v with
      | ListComp el gs scope lpos =>
        simp only at h2
        by_cases q : G.sc.names.lookup x = some .local
        · rw [decide_eq_true q, if_pos rfl] at h2
          simp only [Bool.and_eq_true, decide_eq_true_eq, Bool.not_eq_true'] at h2
          have hcc : ∃ t src cond elt, c = .comp t src cond elt := by
            cases c with
            | comp t src cond elt => exact ⟨_, _, _, _, rfl⟩
            | box a =>
              simp only [chkE, Bool.and_eq_true] at hv
              cases a with
              | list b => simp [chkE] at hv
              | dnewN => simp [chkE] at hv
              | _ => simp [isBox] at hv
            | rop kk a b d => cases kk <;> simp [chkE] at hv
            | _ => simp [chkE] at hv
          obtain ⟨t, src, cond, elt, rfl⟩ := hcc
          obtain ⟨el', tg, it, ifs, scope', pos', ee, P⟩ := comp_parts C hv
          cases ee
          have hloc : X.env.scope.names.lookup x = some .local := by rw [C.sc]; exact q
          have S := ps_setLc (X := X) (i := i) (y := x) (py := p) (elt := el) (tg := tg) (iter := it) (ifs := ifs) (scope := scope) (pos := lpos) (spos := pos) (own := ownOf G.N (slots t)) (wi := tI X.K cf O src) (g := gTg X.K t) (tt := ttOf X.K cf.no O cond) (te := tE X.K cf.no O elt) C.calm C.nd hi hloc
            (sw_true (by rw [C.sc]; exact hk) hloc (by simpa using h2.1) (by simpa using h2.2)) P.hi P.blk P.hg P.ht P.he P.hf
          have snd := P.snd
          simp only at snd
          rw [snd] at S
          refine PS.weak S fun D σ H q => ?_
          exact hc t src cond elt rfl σ H _ q
        · refine ps_set C.nd hi hl he ?_ hf
          have hq : (X.env.kindOf x == some NameKind.local) = false := by
            show (X.env.scope.names.lookup x == some NameKind.local) = false
            rw [C.sc]
            simpa using q
          show (pure (X.env.blockKind == .function && X.env.kindOf x == some .local && p.line == (Expr.ListComp el gs scope lpos).pos.line && !(scope.names.any fun (n, k) => n == x && (k == .local || k == .cell))) : Sem Bool) = pure false
          rw [hq]
          simp
      | _ => simp at h2
theorem t_asg (C : Cok X (G.at O) cf k) (hb : G.blk = none) (hk : G.sc.kind = .function) {i : Nat} {x : Str} {p : Pos} {c : Ex} {v : Expr} (h : asgOk G i x p c v = true) (hv : chkE (G.at O) c v = true) (ho : isOwn O c = false) : PS X (.Assign [.Name x p] v pos) (tS X.K cf B Rf df Ob Oc (rmO O i) O (.asg i c)) := by
  refine PS.weak (ps_asgn C hb hk h hv (sE c X (G.at O) v C hv).pe ?_) fun D σ H q => ?_
  · intro t src cond elt e
    subst e
    obtain ⟨_, _, _, _, _, _, _, P⟩ := comp_parts C hv
    exact comp_run P.ho P.hS
  · refine tS_E (c := c) (f := fun e x s => nextIf (setE e i x) s) (fun e s => rfl) q fun e s dr R v d H1 rel rv en => ?_
    obtain ⟨e', he, nx⟩ := en.nextIf
    obtain ⟨hi, rfl⟩ := setE_some he
    have u := rel.upd (Upd.one rel.rel.len hi (rv.rp ho))
    rw [rmS_one] at u
    exact nx _ _ _ _ u
theorem t_own (C : Cok X (G.at O) cf k) (hb : G.blk = none) (hk : G.sc.kind = .function) {i : Nat} {x : Str} {p : Pos} {c : Ex} {v : Expr} (h : asgOk G i x p c v = true) (hv : chkE (G.at O) c v = true) (ho : isFresh c = true) : PS X (.Assign [.Name x p] v pos) (tS X.K cf B Rf df Ob Oc (i :: rmO O i) O (.own i c)) := by
  refine PS.weak (ps_asgn C hb hk h hv (f_fresh C ho hv) ?_) fun D σ H q => ?_
  · intro t src cond elt e
    subst e
    obtain ⟨_, _, _, _, _, _, _, P⟩ := comp_parts C hv
    exact comp_runO P.ho P.hS
  · refine tS_F (c := c) (f := fun e x s => nextIf (setE e i x) s) (fun e s => rfl) q fun e s dr R v d H1 rel rv h1 h2 en => ?_
    obtain ⟨e', he, nx⟩ := en.nextIf
    obtain ⟨hi, rfl⟩ := setE_some he
    exact nx _ _ _ _ (rel.own hi rv h1 h2)
theorem t_asgT (C : Cok X (G.at O) cf k) {t : Tg} {tg : Expr} {c : Ex} {v : Expr} (h1 : notTuple v = true) (h2 : notComp v = true) (h3 : notStar tg = true) (hg : chkG (G.at O) t tg = true) (hv : chkE (G.at O) c v = true) (ho : isOwn O c = false) : PS X (.Assign [tg] v pos) (tS X.K cf B Rf df Ob Oc (rmS O (slots t)) O (.asgT t c)) := by
  have hw : swappedStores [tg] v X.env = pure none := by
    cases tg <;> cases v <;> first | rfl | simp [notTuple] at h1
  refine PS.weak (ps_asg (sE c X (G.at O) v C hv).pe (s_tg C t tg hg) (show swapsWith v (some tg) pos.line X.env = pure false from swaps_false h2) hw (by rw [asg_star h3]; rfl)) fun D σ H q => ?_
  refine tS_E (c := c) (f := fun e x s => nextIf (bindT t x e) s) (fun e s => rfl) q fun e s dr R v d H1 rel rv en => ?_
  obtain ⟨e', he, nx⟩ := en.nextIf
  exact gTg_run rel.rel.sub t (rv.rp ho) he rel.rel.len fun σ' u => nx _ _ _ _ (rel.upd u)
theorem t_aug (C : Cok X (G.at O) cf k) (hb : G.blk = none) {i : Nat} {x : Str} {p : Pos} {kk : BinK} {c : Ex} {v : Expr} (h : nameOk G i x = true) (hkk : kk = .add ∨ kk = .sub) (ho : i ∉ O) (hv : chkE (G.at O) c v = true) : PS X (.AugAssign (.Name x p) (binOp kk) v pos) (tS X.K cf B Rf df Ob Oc O O (.aug i kk c)) := by
  obtain ⟨hi, hl⟩ := nameOk_of C (G := G.at O) h
  have hf : X.fn x = true ∨ X.env.scope.names.lookup x = some .local := .inl (fn_of' C hb x)
  have W : ∀ {f : Int → Int → Int}, (∀ a b, augI kk a b = some (f a b)) → ∀ D σ H, tS X.K cf B Rf df Ob Oc O O (.aug i kk c) D σ H → tAug i (tE X.K cf O c) (ipI f) D σ H := by
    intro f hf D σ H ⟨e, s, dr, R, rel, en⟩
    unfold exec at en
    split at en
    · rename_i n hn
      obtain ⟨w, hw, rw'⟩ := rel.rel.val i _ hn
      rw [if_neg ho] at rw'
      cases rw'
      refine ⟨_, hw, ?_⟩
      refine ⟨e, s, dr, R, rel.rel, EndP.beh rel en fun d s1 ed e1 => ?_⟩
      intro dr1 R1 H1 g1 sb1 dk1 vy rv
      cases d with
      | int m =>
        simp only [hf] at e1
        obtain ⟨e', he, nx⟩ := e1.nextIf
        obtain ⟨hi', rfl⟩ := setE_some he
        refine ⟨n, m, rfl, rv.int, nx _ dr1 R1 _ ?_⟩
        have u := (rel.grow g1 sb1 dk1).upd (Upd.one rel.rel.len hi' (Rp.int (K := X.K) (dr := dr1) (R := R1) (f n m)))
        have eo : rmS O [i] = O := List.filter_eq_self.mpr fun j hj => by
          have : j ≠ i := fun q => ho (q ▸ hj)
          simpa using this
        rw [eo] at u
        exact u
      | _ => exact e1.elim
    · exact en.elim
  rcases hkk with rfl | rfl
  · exact PS.weak (ps_aug C.nd hi hl (sE c X (G.at O) v C hv).pe ip_add hf) (W fun a b => rfl)
  · exact PS.weak (ps_aug C.nd hi hl (sE c X (G.at O) v C hv).pe ip_sub hf) (W fun a b => rfl)
theorem iop_of {op : Operator} {r : R2} (h : OpR X (inplaceOp op) r) : PIp X op r := h
theorem RelS.ownAt {K : PySem.W.Frag} {e : Env} {s : DSt} {dr : Dr} {R H : Hp} {σ : St} {i : Nat} {d : Val} (rel : RelS K B Rf df O e s dr R σ H) (hi : i ∈ O) (he : e[i]? = some (some d)) : ∃ a o, σ[i]? = some (some (.ref a)) ∧ H a = some o ∧ R a = none ∧ ObjR K dr R a o d := by
  obtain ⟨w, hw, ho⟩ := rel.rel.val i _ he
  rw [if_pos hi] at ho
  obtain ⟨a, ob, rfl, h1, h2, h3, h4⟩ := ho
  exact ⟨a, ob, hw, h1, h2, h4⟩
theorem RelS.listAt {K : PySem.W.Frag} {e : Env} {s : DSt} {dr : Dr} {R H : Hp} {σ : St} {i : Nat} {ds0 : List Val} (rel : RelS K B Rf df O e s dr R σ H) (hi : i ∈ O) (he : e[i]? = some (some (.lst ds0))) : ∃ a xs ds, σ[i]? = some (some (.ref a)) ∧ Val.lst ds0 = .lst ds ∧ H a = some (.lst xs) ∧ R a = none ∧ RpAll K dr R xs ds ∧ ds.length ≤ lim := by
  obtain ⟨a, o, h1, h2, h3, h4⟩ := rel.ownAt hi he
  obtain ⟨xs, rfl, h5, h6⟩ := h4.isL
  exact ⟨a, xs, ds0, h1, rfl, h2, h3, h5, h6⟩
theorem set_self {σ : St} {i : Nat} {v : V} (h : σ[i]? = some (some v)) : σ.set i (some v) = σ := by
  apply List.ext_getElem?
  intro j
  by_cases q : i = j
  · subst q
    rw [h, List.getElem?_set_self (by rcases List.getElem?_eq_some_iff.mp h with ⟨q, _⟩; exact q)]
  · rw [List.getElem?_set_ne q]
theorem t_ext (C : Cok X (G.at O) cf k) (hb : G.blk = none) {i : Nat} {x : Str} {p : Pos} {c : Ex} {v : Expr} (h : nameOk G i x = true) (hi : i ∈ O) (hv : chkE (G.at O) c v = true) (ho : isOwn O c = false) : PS X (.AugAssign (.Name x p) .Add v pos) (tS X.K cf B Rf df Ob Oc O O (.ext i c)) := by
  obtain ⟨hi0, hl⟩ := nameOk_of C (G := G.at O) h
  have hf : X.fn x = true ∨ X.env.scope.names.lookup x = some .local := .inl (fn_of' C hb x)
  refine PS.weak (ps_aug C.nd hi0 hl (sE c X (G.at O) v C hv).pe (iop_of iop_ext) hf) fun D σ H ⟨e, s, dr, R, rel, en⟩ => ?_
  unfold exec at en
  split at en
  · rename_i ds hn
    obtain ⟨a, xs, ds', hw, ed, h1, h2, h3, h4⟩ := rel.listAt hi hn
    cases ed
    refine ⟨_, hw, ?_⟩
    refine ⟨e, s, dr, R, rel.rel, EndP.beh rel en fun d s1 ed e1 => ?_⟩
    intro dr1 R1 H1 g1 sb1 dk1 vy rv
    cases d with
    | lst es =>
      simp only at e1
      by_cases hz : ds.length + es.length ≤ lim
      · rw [if_pos hz] at e1
        obtain ⟨e', he, nx⟩ := e1.nextIf
        obtain ⟨hi', rfl⟩ := setE_some he
        have rel1 := rel.grow g1 sb1 dk1
        obtain ⟨a', xs', ds', hw', ed', h1', h2', h3', h4'⟩ := rel1.listAt hi hn
        cases ed'
        rw [hw] at hw'
        cases hw'
        have rr := rv.rp ho
        cases rr with
        | lst hr hs hl' =>
          have l1 := h3'.len
          have l2 := hs.len
          refine ⟨a, _, xs', _, rfl, rfl, h1', sb1 _ _ hr, lim_line (by omega), ?_⟩
          refine nx _ dr1 R1 _ ?_
          rw [set_self hw]
          exact rel1.write hi hn hw (h3'.append hs) (by rw [List.length_append]; exact hz)
      · rw [if_neg hz] at e1
        exact e1.elim
    | _ => exact e1.elim
  · exact en.elim
theorem v_of (C : Cok X G cf k) {i : Nat} {x : Str} {p : Pos} (h : chkE G (.var i) (.Name x p) = true) : PE X (.Name x p) (tVar i) := by
  simp only [chkE, Bool.and_eq_true, decide_eq_true_eq, isVis, Bool.or_eq_true, notDbg, Bool.not_eq_true'] at h
  obtain ⟨⟨h1, h2⟩, ⟨h3, h4⟩, h5⟩ := h
  have hv : Vis X.env.scope x := by
    rw [C.sc]
    rcases h2 with (h2 | h2) | h2
    · exact .inl h2
    · exact .inr (.inl h2)
    · exact .inr (.inr h2)
  exact pe_var (i := i) (by rw [C.N]; exact h1) hv h3 h4
theorem t_append (C : Cok X (G.at O) cf k) {i : Nat} {x : Str} {p ap cp : Pos} {c : Ex} {v : Expr} (hl : ap.endLine = cp.line) (hs : notStar v = true) (hi : i ∈ O) (hn : chkE (G.at O) (.var i) (.Name x p) = true) (hv : chkE (G.at O) c v = true) (ho : isOwn O c = false) :
    PS X (.Expr (.Call (.Attribute (.Name x p) "append" ap) [v] [] cp) pos) (tS X.K cf B Rf df Ob Oc O O (.append i c)) := by
  have hline : (ap.endLine == cp.line) = true := by rw [hl]; simp
  have hfew : ((backTo cp (starEach [v] X.env)).all (fun x => !x.1) && (backToKw cp (keywordEach [] X.env)).all (fun x => x.1.isSome) && decide ([v].length + ([] : List Keyword).length + (if ([] : List Keyword).isEmpty then 0 else 1) < 30)) = true := by
    rw [star_of hs]
    rfl
  refine PS.weak (ps_expr (pe_bm PySem.F.plainAttrs_list PySem.F.slot_list_append PySem.F.type_list_append mt_append (v_of C hn) (pa_cons (sE c X (G.at O) v C hv).pe pa_nil (star_of hs _ _)) rfl hfew hline (star_of hs _ _) rfl) rfl) fun D σ H ⟨e, s, dr, R, rel, en⟩ => ?_
  unfold exec at en
  obtain ⟨d, s1, ed, e1⟩ := en.nox
  split at e1
  · rename_i ds hn
    obtain ⟨a, xs, ds', hw, ed', h1, h2, h3, h4⟩ := rel.listAt hi hn
    cases ed'
    refine ⟨_, hw, .inl ⟨rfl, _, SqL.of h1⟩, e, s, dr, R, rel.rel, ?_⟩
    rw [ed]
    intro dr1 R1 H1 g1 sb1 dk1 vy rv
    have rel1 := rel.grow g1 sb1 dk1
    obtain ⟨a', xs', ds', hw', ed', h1', h2', h3', h4'⟩ := rel1.listAt hi hn
    cases ed'
    rw [hw] at hw'
    cases hw'
    by_cases hz : ds.length < lim
    · rw [if_pos hz] at e1
      obtain ⟨e', he, nx⟩ := e1.nextIf
      obtain ⟨hi', rfl⟩ := setE_some he
      have l1 := h3'.len
      refine ⟨a, xs', vy, rfl, rfl, h1', lim_line1 (by omega), nx _ dr1 R1 _ ?_⟩
      exact rel1.write hi hn hw (h3'.append (.cons (rv.rp ho) .nil)) (by rw [List.length_append]; exact hz)
    · rw [if_neg hz] at e1
      exact e1.elim
  · exact e1.elim
def rSetBoth (K : PySem.W.Frag) : TSet := fun o i v H Q => rSetL o i v H Q ∨ rSetN K o i v H Q
theorem set_both (hu : X.A.units + 64 < cLine) : PSet X (rSetBoth X.K) := by
  intro pins s σ H o i v ov iv u Q I ro ri rv h
  rcases h with h | h
  · exact set_list pins s σ H o i v ov iv u Q I ro ri rv h
  · exact set_N hu pins s σ H o i v ov iv u Q I ro ri rv h
theorem t_setI (C : Cok X (G.at O) cf k) {i : Nat} {x : Str} {p p2 : Pos} {ix c : Ex} {y v : Expr} (hc : notComp v = true) (hy0 : notSlice y = true) (hi : i ∈ O) (hn : chkE (G.at O) (.var i) (.Name x p) = true) (hy : chkE (G.at O) ix y = true) (hv : chkE (G.at O) c v = true) (ho : isOwn O c = false) :
    PS X (.Assign [.Subscript (.Name x p) y p2] v pos) (tS X.K cf B Rf df Ob Oc O O (.setI i ix c)) := by
  have ha : ∀ w, assign (.Subscript (.Name x p) y p2) X.env w = (do let ov ← holding [w] (eval (.Name x p) X.env); let iv ← holding [w, ov] (eval y X.env); standAt p2; holding [w, ov, iv] (setItem ov iv w); release [w, ov, iv] []) := by
    intro w
    cases y <;> first | rfl | simp [notSlice] at hy0
  have hw : swappedStores [.Subscript (.Name x p) y p2] v X.env = pure none := by cases v <;> rfl
  refine PS.weak (ps_asg (sE c X (G.at O) v C hv).pe (pg_sub (v_of C hn) (sE ix X (G.at O) y C hy).pe (set_both C.room.units) ha) (show swapsWith v (some (.Subscript (.Name x p) y p2)) pos.line X.env = pure false from swaps_false hc) hw rfl) fun D σ H ⟨e, s, dr, R, rel, en⟩ => ?_
  unfold exec at en
  refine ⟨e, s, dr, R, rel.rel, EndP.beh rel en fun d s1 ed e1 => ?_⟩
  intro dr1 R1 H1 g1 sb1 dk1 vy rv
  obtain ⟨j, s2, ej, e2⟩ := e1.nox
  have rel1 := rel.grow g1 sb1 dk1
  split at e2
  · rename_i ds jj hn
    obtain ⟨a, xs, ds', hw, ed', h1, h2, h3, h4⟩ := rel1.listAt hi hn
    cases ed'
    refine ⟨_, hw, e, s1, dr1, R1, rel1.rel, ?_⟩
    rw [ej]
    intro dr2 R2 H2 g2 sb2 dk2 vj rj
    have rel2 := rel1.grow g2 sb2 dk2
    obtain ⟨a', xs', ds', hw', ed', h1', h2', h3', h4'⟩ := rel2.listAt hi hn
    cases ed'
    rw [hw] at hw'
    cases hw'
    split at e2
    · rename_i kk hk
      obtain ⟨e', he, nx⟩ := e2.nextIf
      obtain ⟨hi', rfl⟩ := setE_some he
      refine .inl ⟨a, xs', jj, kk, rfl, rj.int, h1', by rw [h3'.len]; exact hk, nx _ dr2 R2 _ ?_⟩
      exact rel2.write hi hn hw (h3'.set _ ((rv.grow g2).rp ho)) (by rw [List.length_set]; exact h4')
    · exact e2.elim
  · rename_i j _ _ ks vs hn
    obtain ⟨a, o0, hw, h1, h2, h3⟩ := rel1.ownAt hi hn
    refine ⟨_, hw, e, s1, dr1, R1, rel1.rel, ?_⟩
    rw [ej]
    intro dr2 R2 H2 g2 sb2 dk2 vj rj
    have rel2 := rel1.grow g2 sb2 dk2
    obtain ⟨a', o', hw', h1', h2', h3'⟩ := rel2.ownAt hi hn
    rw [hw] at hw'
    cases hw'
    by_cases c : dOk ks j = true ∧ vs.length < lim
    · rw [if_pos c] at e2
      obtain ⟨e', he, nx⟩ := e2.nextIf
      obtain ⟨hi', rfl⟩ := setE_some he
      exact .inr ⟨a, ks, vs, j, d, dr2, R2, o', rfl, sb2, h1', h3', rj.sh.key c.1, c.1, c.2, (rv.grow g2).rp ho, fun on hon => nx _ dr2 R2 _ (rel2.writeO hi hn hw hon)⟩
    · rw [if_neg c] at e2
      exact e2.elim
  · exact e2.elim
theorem t_expr (C : Cok X (G.at O) cf k) {c : Ex} {v : Expr} (h2 : notComp v = true) (hv : chkE (G.at O) c v = true) : PS X (.Expr v pos) (tS X.K cf B Rf df Ob Oc O O (.expr c)) := by
  refine PS.weak (ps_expr (sE c X (G.at O) v C hv).pe (swaps_false h2)) fun D σ H q => ?_
  exact tS_E (c := c) (f := fun e x s => .next e s) (fun e s => rfl) q fun e s dr R v d H1 rel rv en => en _ _ _ _ rel
theorem t_ret (C : Cok X (G.at O) cf k) {c : Ex} {v : Expr} (hv : chkE (G.at O) c v = true) (ho : isOwn O c = false) : PS X (.Return (some v) pos) (tS X.K cf B Rf df Ob Oc On O (.ret c)) := by
  refine PS.weak (ps_ret (sE c X (G.at O) v C hv).pe) fun D σ H q => ?_
  exact tS_E (c := c) (f := fun e x s => .ret x s) (fun e s => rfl) q fun e s dr R v d H1 rel rv en => en _ _ _ _ rel.gr rel.rel.sub rel.rel.drok (rv.rp ho)
end
end BG

/-! BG.SoundU: parallel stores, if, for, while, blocks. -/
namespace BG
open PySem PySem.Spec PyProof.Rows L2

section
variable {X : Cx} {G : GC} {cf : CF} {k : Nat} {B : Base} {Rf : Hp} {df : Dr} {Ob Oc On O : List Nat} {pos : Pos}
theorem t_ite (C : Cok X (G.at O) cf k) {c : Ex} {v : Expr} {a b : List Stmt} {t f : Sx} (hv : chkE (G.at O) c v = true) (ha : PSs X a (tS X.K cf B Rf df Ob Oc On O t)) (hb : PSs X b (tS X.K cf B Rf df Ob Oc On O f)) : PS X (.If v a b pos) (tS X.K cf B Rf df Ob Oc On O (.ite c t f)) := by
  refine PS.weak (ps_if (sE c X (G.at O) v C hv).pt ha hb) fun D σ H ⟨e, s, dr, R, rel, en⟩ => ?_
  have hx : exec cf (.ite c t f) e s = (ev cf c e s).thenS e fun x s => match x with
      | .bl true => exec cf t e s
      | .bl false => exec cf f e s
      | _ => .bad := rfl
  rw [hx] at en
  refine ⟨e, s, dr, R, rel.rel, EndP.beh rel en fun d s1 ed e1 => ?_⟩
  intro dr1 R1 H1 g1 sb1 dk1
  have rel1 := rel.grow g1 sb1 dk1
  cases d with
  | bl i =>
    refine ⟨i, rfl, ?_⟩
    cases i with
    | true => rw [if_pos rfl]; exact ⟨e, s1, dr1, R1, rel1, e1⟩
    | false => rw [if_neg Bool.false_ne_true]; exact ⟨e, s1, dr1, R1, rel1, e1⟩
  | _ => exact e1.elim
theorem t_while (C : Cok X (G.at O) cf k) (po : PassesOwn (model X.prog X.w) X.A X.env X.xe) {n : Nat} {c : Ex} {v : Expr} {body : List Stmt} {b : Sx} (hv : chkE (G.at O) c v = true) (hb : PSs X body (tS X.K cf B Rf df O O O O b)) : PS X (.While v body [] pos) (tS X.K cf B Rf df Ob Oc O O (.whileS n c b)) := by
  refine PS.weak (ps_while po (sE c X (G.at O) v C hv).pt hb) fun D σ H ⟨e, s, dr, R, rel, en⟩ => ?_
  have hx : exec cf (.whileS n c b) e s = whileL (ev cf c) (exec cf b) n e s := rfl
  rw [hx] at en
  refine ⟨fun m σ' H' => ∃ e s dr R, RelS X.K B Rf df O e s dr R σ' H' ∧ EndP X.K cf.xw B Rf df Ob Oc O D (whileL (ev cf c) (exec cf b) m e s), ⟨n, e, s, dr, R, rel, en⟩, ?_⟩
  rintro m σ' H' ⟨e, s, dr, R, rel, en⟩
  cases m with
  | zero => exact en.elim
  | succ m =>
    unfold whileL at en
    refine ⟨e, s, dr, R, rel.rel, EndP.beh rel en fun d s1 ed e1 => ?_⟩
    intro dr1 R1 H1 g1 sb1 dk1
    have rel1 := rel.grow g1 sb1 dk1
    cases d with
    | bl i =>
      refine ⟨i, rfl, ?_⟩
      cases i with
      | false => rw [if_neg Bool.false_ne_true]; exact e1 _ _ _ _ rel1
      | true =>
        rw [if_pos rfl]
        refine ⟨fun σ' H' => ∃ e s dr R, RelS X.K B Rf df O e s dr R σ' H' ∧ EndP X.K cf.xw B Rf df Ob Oc O D (whileL (ev cf c) (exec cf b) m e s), fun σ' H' h => ⟨m, Nat.lt_succ_self m, h⟩, e, s1, dr1, R1, rel1, ?_⟩
        simp only at e1
        cases eb : exec cf b e s1 with
        | next e2 s2 => rw [eb] at e1; exact fun σ2 dr2 R2 H2 r2 => ⟨e2, s2, dr2, R2, r2, e1⟩
        | cont e2 s2 => rw [eb] at e1; exact fun σ2 dr2 R2 H2 r2 => ⟨e2, s2, dr2, R2, r2, e1⟩
        | brk e2 s2 => rw [eb] at e1; exact fun σ2 dr2 R2 H2 r2 => e1 σ2 dr2 R2 H2 r2
        | ret v s2 => rw [eb] at e1; exact e1
        | exc c e2 s2 => rw [eb] at e1; exact e1
        | bad => rw [eb] at e1; exact e1.elim
    | _ => exact e1.elim
theorem RelS.floor {K : PySem.W.Frag} {Rf' : Hp} {df' : Dr} {e : Env} {s : DSt} {dr : Dr} {R H : Hp} {σ : St} (r : RelS K B Rf df O e s dr R σ H) (h1 : Sub Rf' R) (h2 : DrLe df' dr) : RelS K B Rf' df' O e s dr R σ H := ⟨r.rel, r.gr, h1, h2, r.ofr⟩
theorem t_for (C : Cok X (G.at O) cf k) (po : PassesOwn (model X.prog X.w) X.A X.env X.xe) {t : Tg} {src : Ex} {tg it : Expr} {body : List Stmt} {b : Sx} (hI : chkI (G.at O) tg src it = true) (hs : notSet it = true) (ho : isOwnS O src = false) (hg : chkG (G.at O) t tg = true) (hS : ∀ i ∈ slots t, i ∉ O)
    (hb : ∀ Rf df, PSs X body (tS X.K cf B Rf df O O O O b)) : PS X (.For tg it body [] pos) (tS X.K cf B Rf df Ob Oc O O (.forS t src b)) := by
  refine ⟨fun pins s0 σ H D I h => ?_⟩
  obtain ⟨e, s, dr, R, rel, en⟩ := h
  have hx : exec cf (.forS t src b) e s = (evi cf src e s).thenS e fun xs s => forL t (exec cf b) xs e s := rfl
  rw [hx] at en
  -- the region at the loop's start is not known ahead: every region has its reading
  refine (ps_for (tb := fun D σ H => ∃ Rf df, tS X.K cf B Rf df O O O O b D σ H) po C.calm (sI tg src X (G.at O) it C hI) (s_tg C t tg hg) ⟨fun pins s σ H D I ⟨Rf, df, h⟩ => (hb Rf df).run pins s σ H D I h⟩ (fold_of hs _)).run pins s0 σ H D I ⟨e, s, dr, R, rel.rel, EndP.beh rel en fun xs s1 ed e1 => ?_⟩
  intro dr1 R1 H1 g1 sb1 dk1 J Z itok zok zr
  have zR := zr ho
  have rel1 := rel.grow g1 sb1 dk1
  refine ⟨fun i m σ' H' => m = xs.length - i ∧ i ≤ xs.length ∧ ∃ e' s' dr' R', RelS X.K B Rf df O e' s' dr' R' σ' H' ∧ Sub R1 R' ∧ DrLe dr1 dr' ∧ EndP X.K cf.xw B Rf df Ob Oc O D (forL t (exec cf b) (xs.drop i) e' s'), ⟨xs.length - 0, rfl, Nat.zero_le _, e, s1, dr1, R1, rel1, Sub.refl _, DrLe.refl _, e1⟩, ?_⟩
  rintro i m σ' H' ⟨rfl, hi, e', s', dr', R', rel', sr, dl, en'⟩
  have sz : Sub Z H' := fun a o q => rel'.rel.sub a o (sr a o (zR a o q))
  by_cases hd : i = xs.length
  · left
    subst hd
    rw [List.drop_length] at en'
    exact ⟨itok.stop _ H' (Nat.le_refl _) sz, en' _ _ _ _ rel'⟩
  · right
    have hlt : i < xs.length := by omega
    obtain ⟨hgo, hyld⟩ := itok.go i dr' R' H' hlt dl sr sz rel'.rel.sub
    refine ⟨hgo, fun σ2 H2 => ∃ e' s' dr' R', RelS X.K B Rf df O e' s' dr' R' σ2 H2 ∧ Sub R1 R' ∧ DrLe dr1 dr' ∧ EndP X.K cf.xw B Rf df Ob Oc O D (forL t (exec cf b) (xs.drop (i + 1)) e' s'), fun σ2 H2 h => ⟨xs.length - (i + 1), by omega, rfl, by omega, h⟩, fun x H3 hx => ?_⟩
    obtain ⟨R3, d, hd3, rp3, g3, sb3, dk3⟩ := hyld x H3 hx
    rw [List.drop_eq_getElem_cons hlt] at en'
    have ed' : xs[i] = d := by
      rw [List.getElem?_eq_getElem hlt] at hd3
      exact Option.some.inj hd3
    rw [ed'] at en'
    unfold forL at en'
    cases eb : bindT t d e' with
    | none => rw [eb] at en'; exact en'.elim
    | some e2 =>
      rw [eb] at en'
      simp only at en'
      have rel3 := rel'.grow g3 sb3 (dk3 s' rel'.rel.drok)
      refine gTg_run sb3 t rp3 eb rel3.rel.len fun σ2 u => ?_
      have rel4 : RelS X.K B Rf df O e2 s' dr' R3 σ2 H3 := by
        have := rel3.upd u
        have eo : rmS O (slots t) = O := List.filter_eq_self.mpr fun j hj => by
          have : j ∉ slots t := fun q => hS j q hj
          simpa using this
        rw [eo] at this
        exact this
      refine ⟨R3, dr', e2, s', dr', R3, rel4.floor (Sub.refl _) (DrLe.refl _), ?_⟩
      have back : ∀ {e5 s5 σ5 dr5 R5 H5}, RelS X.K B R3 dr' O e5 s5 dr5 R5 σ5 H5 → RelS X.K B Rf df O e5 s5 dr5 R5 σ5 H5 ∧ Sub R1 R5 ∧ DrLe dr1 dr5 := fun r => ⟨r.floor (rel4.fl.trans r.fl) (rel4.fd.trans r.fd), (sr.trans g3.rs).trans r.fl, dl.trans r.fd⟩
      cases ex : exec cf b e2 s' with
      | next e5 s5 => rw [ex] at en'; exact fun σ5 dr5 R5 H5 r5 => ⟨e5, s5, dr5, R5, (back r5).1, (back r5).2.1, (back r5).2.2, en'⟩
      | cont e5 s5 => rw [ex] at en'; exact fun σ5 dr5 R5 H5 r5 => ⟨e5, s5, dr5, R5, (back r5).1, (back r5).2.1, (back r5).2.2, en'⟩
      | brk e5 s5 => rw [ex] at en'; exact fun σ5 dr5 R5 H5 r5 => en' σ5 dr5 R5 H5 (back r5).1
      | ret v s5 => rw [ex] at en'; exact en'
      | exc c e5 s5 => rw [ex] at en'; exact fun σ5 dr5 R5 H5 r5 => en' σ5 dr5 R5 H5 (r5.floor (rel4.fl.trans r5.fl) (rel4.fd.trans r5.fd))
      | bad => rw [ex] at en'; exact en'.elim

/-! ### blocks -/
theorem t_nil : PSs X [] (tS X.K cf B Rf df Ob Oc O O .nil) := PSs.weak pss_nil fun D σ H ⟨e, s, dr, R, rel, en⟩ => en σ dr R H rel
theorem t_seq {a r : Sx} {st : Stmt} {rest : List Stmt} {O1 : List Nat} (h1 : PS X st (tS X.K cf B Rf df Ob Oc O1 O a)) (h2 : PSs X rest (tS X.K cf B Rf df Ob Oc On O1 r)) : PSs X (st :: rest) (tS X.K cf B Rf df Ob Oc On O (.seq a r)) := by
  refine PSs.weak (pss_cons h1 h2) fun D σ H ⟨e, s, dr, R, rel, en⟩ => ⟨e, s, dr, R, rel, ?_⟩
  have hx : exec cf (.seq a r) e s = match exec cf a e s with
      | .next e s => exec cf r e s
      | x => x := rfl
  rw [hx] at en
  cases ea : exec cf a e s with
  | next e1 s1 => rw [ea] at en; exact fun σ1 dr1 R1 H1 r1 => ⟨e1, s1, dr1, R1, r1, en⟩
  | cont e5 s5 => rw [ea] at en; exact en
  | brk e5 s5 => rw [ea] at en; exact en
  | ret v s5 => rw [ea] at en; exact en
  | exc c e5 s5 => rw [ea] at en; exact en
  | bad => rw [ea] at en; exact en
theorem t_last {a : Sx} {st : Stmt} (h1 : ∀ On, PS X st (tS X.K cf B Rf df Ob Oc On O a)) : PSs X [st] (tS X.K cf B Rf df Ob Oc On O (.seq a .nil)) := t_seq (h1 On) t_nil
theorem t_freeze {i : Nat} {r : Sx} {ss : List Stmt} (h : PSs X ss (tS X.K cf B Rf df Ob Oc On (rmO O i) r)) : PSs X ss (tS X.K cf B Rf df Ob Oc On O (.seq (.freeze i) r)) := by
  refine PSs.weak h fun D σ H ⟨e, s, dr, R, rel, en⟩ => ?_
  obtain ⟨R', rel', _⟩ := rel.freeze i
  exact ⟨e, s, dr, R', rel', en⟩
theorem t_brk : PS X (.Break pos) (tS X.K cf B Rf df O Oc On O .brk) := PS.weak ps_break fun D σ H ⟨e, s, dr, R, rel, en⟩ => en σ dr R H rel
theorem t_cont : PS X (.Continue pos) (tS X.K cf B Rf df Ob O On O .cont) := PS.weak ps_continue fun D σ H ⟨e, s, dr, R, rel, en⟩ => en σ dr R H rel
theorem xname_dbg : ∀ c : Nat, c < 8 → (xname c == ("__debug__" : Str)) = false
  | 0, _ => by decide
  | 1, _ => by decide
  | 2, _ => by decide
  | 3, _ => by decide
  | 4, _ => by decide
  | 5, _ => by decide
  | 6, _ => by decide
  | 7, _ => by decide
  | n + 8, h => by omega
theorem t_raise (C : Cok X (G.at O) cf k) {c : Nat} {m : Str} {j : Nat} {p p2 p3 : Pos} (hc : c < 7) (hm : c ∈ G.excs) (hg : isGl G.sc (xname c) = true) : PS X (.Raise (some (.Call (.Name (xname c) p) [.Constant (.str m) j p2] [] p3)) none pos) (tS X.K cf B Rf df Ob Oc On O (.raise c)) := by
  have XC := C.excs c hm
  refine PS.weak (ps_raise C.calm C.tk (pmk_own PySem.F.excBase_ValueError XC.xi XC.gl XC.kp (raises_own XC.sb XC.ty) (gl_of C hg) (xname_dbg c (by omega)))) fun D σ H ⟨e, s, dr, R, rel, en⟩ => ?_
  obtain ⟨R2, r2, _⟩ := rel.frzAll O fun j hj => hj
  exact ⟨c, rfl, rfl, en σ dr R2 H r2⟩
/-! ### cells -/
/-- a cell is written -/
theorem RelS.cellSet {K : PySem.W.Frag} {e : Env} {s : DSt} {dr : Dr} {R H : Hp} {σ : St} {n : Nat} {a : Addr} {on : HO} {dn : Val} (r : RelS K B Rf df O e s dr R σ H) (hn : dr.cs[n]? = some (some a)) (ob : ObjR K dr R a on dn) : RelS K B Rf df O e { s with st := s.st.set n (some dn) } dr R σ (L2.upd H a on) := by
  obtain ⟨d0, o0, c1, c2, c3, c4⟩ := r.rel.drok.cel n a hn
  have nd : ¬ NotDr dr a := fun z => z.cs n hn
  have hl : n < s.st.length := (List.getElem?_eq_some_iff.mp c1).1
  refine ⟨⟨fun b o h => ?_, r.rel.len, fun j d h => ?_, r.rel.dist, ⟨?_, by rw [r.rel.drok.len]; simp, r.rel.drok.inj, r.rel.drok.sep, fun i b q => ?_, fun i q => ?_⟩⟩, ⟨r.gr.rs, r.gr.new, fun b o h n => ?_, fun b h => ?_, r.gr.drl, r.gr.drn⟩, r.fl, r.fd, r.ofr⟩
  · rw [upd_ne (fun z => by rw [z, c2] at h; cases h)]
    exact r.rel.sub b o h
  · obtain ⟨v, h1, h2⟩ := r.rel.val j d h
    refine ⟨v, h1, ?_⟩
    by_cases m : j ∈ O
    · rw [if_pos m] at h2 ⊢
      obtain ⟨b, u, rfl, q1, q2, q3, q4⟩ := h2
      exact ⟨b, u, rfl, by rw [upd_ne (fun z : b = a => nd (by rw [← z]; exact q3))]; exact q1, q2, q3, q4⟩
    · rw [if_neg m] at h2 ⊢
      exact h2
  · have h := r.rel.drok.dw
    have sp := r.rel.drok.sep n a
    show DwOk dr.dw s.dw R (L2.upd H a on)
    unfold DwOk at h ⊢
    split at h
    · trivial
    · rename_i x y ns c e1 e2
      obtain ⟨n1, n2⟩ := sp _ hn e1
      obtain ⟨h1, h2, h3⟩ := h
      exact ⟨by rw [upd_ne (fun z => n1 z.symm)]; exact h1, by rw [upd_ne (fun z => n2 z.symm)]; exact h2, h3⟩
    · exact h
  · by_cases z : i = n
    · subst z
      rw [hn] at q
      cases q
      exact ⟨dn, on, List.getElem?_set_self hl, c2, upd_same, ob⟩
    · obtain ⟨d, u, q1, q2, q3, q4⟩ := r.rel.drok.cel i b q
      refine ⟨d, u, by rw [List.getElem?_set_ne (fun w => z w.symm)]; exact q1, q2, ?_, q4⟩
      rw [upd_ne (fun w : b = a => z (r.rel.drok.inj i n a (by rw [← w]; exact q) hn))]
      exact q3
  · have z : i ≠ n := fun z => by rw [z, hn] at q; cases q
    rw [List.getElem?_set_ne (fun w => z w.symm)]
    exact r.rel.drok.ded i q
  · rw [upd_ne (fun z => by rw [z] at h n; rw [r.gr.drn a n nd] at h; cases h)]
    exact r.gr.keep b o h n
  · by_cases z : b = a
    · rw [z, upd_same] at h; cases h
    · rw [upd_ne z] at h; exact r.gr.dom b h
/-- r.append(v) -/
theorem t_appR (C : Cok X (G.at O) cf k) {rx c : Ex} {o : Expr} {v : Expr} {ap cp : Pos} (hl : ap.endLine = cp.line) (hso : notSuper o = true) (hs : notStar v = true) (hr : chkE (G.at O) rx o = true) (hv : chkE (G.at O) c v = true) (ho : isOwn O c = false) :
    PS X (.Expr (.Call (.Attribute o "append" ap) [v] [] cp) pos) (tS X.K cf B Rf df Ob Oc O O (.appR rx c)) := by
  have hline : (ap.endLine == cp.line) = true := by rw [hl]; simp
  have hfew : ((backTo cp (starEach [v] X.env)).all (fun x => !x.1) && (backToKw cp (keywordEach [] X.env)).all (fun x => x.1.isSome) && decide ([v].length + ([] : List Keyword).length + (if ([] : List Keyword).isEmpty then 0 else 1) < 30)) = true := by
    rw [star_of hs]
    rfl
  refine PS.weak (ps_expr (pe_bm PySem.F.plainAttrs_list PySem.F.slot_list_append PySem.F.type_list_append mt_append (sE rx X (G.at O) o C hr).pe (pa_cons (sE c X (G.at O) v C hv).pe pa_nil (star_of hs _ _)) (base_of hso) hfew hline (star_of hs _ _) rfl) rfl) fun D σ H ⟨e, s, dr, R, rel, en⟩ => ?_
  unfold exec at en
  refine ⟨e, s, dr, R, rel.rel, EndP.beh rel en fun x s1 ex e1 => ?_⟩
  intro dr1 R1 H1 g1 sb1 dk1 vx rvx
  have rel1 := rel.grow g1 sb1 dk1
  by_cases hd : isLst (der s1 x) = true
  · rw [if_pos hd] at e1
    obtain ⟨y, s2, ey, e2⟩ := e1.nox
    unfold isLst at hd
    split at hd
    · rename_i ds1 ed1
      obtain ⟨n, rfl, en1⟩ := der_some ed1
      have rp1 : Rp X.K dr1 R1 vx (.ref n) := rvx.sh.elim id fun z => (z.not (fun _ z => nomatch z) (fun _ _ z => nomatch z)).elim
      obtain ⟨a, o1, rfl, hn1, h2, h3, h4⟩ := dk1.at rp1 en1
      obtain ⟨xs1, rfl, _, _⟩ := h4.isL
      refine ⟨.inl ⟨rfl, _, SqL.of h3⟩, e, s1, dr1, R1, rel1.rel, ?_⟩
      rw [ey]
      intro dr2 R2 H2 g2 sb2 dk2 vy rv
      have rel2 := rel1.grow g2 sb2 dk2
      simp only at e2
      split at e2
      · rename_i ds2 en2
        obtain ⟨a', o2, ea, hn2, k2, k3, k4⟩ := dk2.at (Rp.mono g2.drl g2.rs _ rp1) en2
        cases ea
        obtain ⟨xs2, rfl, r2, l2⟩ := k4.isL
        by_cases hz : ds2.length < lim
        · rw [if_pos hz] at e2
          have l1 := r2.len
          refine ⟨a, xs2, vy, rfl, rfl, k3, lim_line1 (by omega), ?_⟩
          exact e2 _ dr2 R2 _ (rel2.cellSet hn2 (.lst (r2.append (.cons (rv.rp ho) .nil)) (by rw [List.length_append]; exact hz)))
        · rw [if_neg hz] at e2
          exact e2.elim
      · exact e2.elim
    · cases hd
  · rw [if_neg hd] at e1
    exact e1.elim
/-- name[y] = v, the name's a cell -/
theorem t_setR (C : Cok X (G.at O) cf k) {i : Nat} {x : Str} {p p2 : Pos} {ix c : Ex} {y v : Expr} (hc : notComp v = true) (hy0 : notSlice y = true) (hi : i ∉ O) (hn : chkE (G.at O) (.var i) (.Name x p) = true) (hy : chkE (G.at O) ix y = true) (hv : chkE (G.at O) c v = true) (ho : isOwn O c = false) :
    PS X (.Assign [.Subscript (.Name x p) y p2] v pos) (tS X.K cf B Rf df Ob Oc O O (.setR i ix c)) := by
  have ha : ∀ w, assign (.Subscript (.Name x p) y p2) X.env w = (do let ov ← holding [w] (eval (.Name x p) X.env); let iv ← holding [w, ov] (eval y X.env); standAt p2; holding [w, ov, iv] (setItem ov iv w); release [w, ov, iv] []) := by
    intro w
    cases y <;> first | rfl | simp [notSlice] at hy0
  have hw : swappedStores [.Subscript (.Name x p) y p2] v X.env = pure none := by cases v <;> rfl
  refine PS.weak (ps_asg (sE c X (G.at O) v C hv).pe (pg_sub (v_of C hn) (sE ix X (G.at O) y C hy).pe (set_both C.room.units) ha) (show swapsWith v (some (.Subscript (.Name x p) y p2)) pos.line X.env = pure false from swaps_false hc) hw rfl) fun D σ H ⟨e, s, dr, R, rel, en⟩ => ?_
  unfold exec at en
  refine ⟨e, s, dr, R, rel.rel, EndP.beh rel en fun d s1 ed e1 => ?_⟩
  intro dr1 R1 H1 g1 sb1 dk1 vy rv
  have rel1 := rel.grow g1 sb1 dk1
  obtain ⟨q, s2, eq, e2⟩ := e1.nox
  split at e2
  · rename_i n hni
    obtain ⟨vx, hw1, rx⟩ := rel1.rel.val i _ hni
    rw [if_neg hi] at rx
    refine ⟨vx, hw1, e, s1, dr1, R1, rel1.rel, ?_⟩
    rw [eq]
    intro dr2 R2 H2 g2 sb2 dk2 vj rj
    have rel2 := rel1.grow g2 sb2 dk2
    split at e2
    · rename_i ks vs en2
      obtain ⟨a, o2, rfl, hn2, k2, k3, k4⟩ := dk2.at (Rp.mono g2.drl g2.rs _ rx) en2
      by_cases c : dOk ks q = true ∧ vs.length < lim
      · rw [if_pos c] at e2
        exact .inr ⟨a, ks, vs, q, d, dr2, R2, o2, rfl, sb2, k3, k4, rj.sh.key c.1, c.1, c.2, (rv.grow g2).rp ho, fun on hon => e2 _ dr2 R2 _ (rel2.cellSet hn2 hon)⟩
      · rw [if_neg c] at e2
        exact e2.elim
    · exact e2.elim
  · exact e2.elim
/-- cells die, their lists are values -/
theorem frz_rp {K : PySem.W.Frag} {H : Hp} : ∀ {ds ys : List Val} {s s' : DSt} {dr : Dr} {R : Hp} {xs : List V}, RpAll K dr R xs ds → Sub R H → DrOk K dr s R H → frzL ds s = some (ys, s') → ∃ dr' R', RpAll K dr' R' xs ys ∧ Grow dr dr' R R' H H ∧ Sub R' H ∧ DrOk K dr' s' R' H
  | [], ys, s, s', dr, R, xs, h, sb, dk, e => by
    cases h
    simp only [frzL, Option.some.injEq, Prod.mk.injEq] at e
    obtain ⟨rfl, rfl⟩ := e
    exact ⟨dr, R, .nil, Grow.refl _ _ _, sb, dk⟩
  | d :: ds, ys, s, s', dr, R, _, h, sb, dk, e => by
    cases h with
    | @cons v vs _ _ h hs =>
    by_cases isR : ∃ n, d = .ref n
    · obtain ⟨n, rfl⟩ := isR
      simp only [frzL] at e
      split at e
      · rename_i d' ed
        obtain ⟨⟨ys', s2⟩, e2, e3⟩ := Option.map_eq_some_iff.mp e
        cases e3
        obtain ⟨a, o, rfl, hn, h2, h3, h4⟩ := dk.at h ed
        have hl : n < dr.cs.length := (List.getElem?_eq_some_iff.mp hn).1
        have key : ∀ (i : Nat) b, (dr.cs.set n none)[i]? = some (some b) → i ≠ n ∧ dr.cs[i]? = some (some b) := by
          intro i b q
          by_cases z : i = n
          · subst z; rw [List.getElem?_set_self hl] at q; cases q
          · rw [List.getElem?_set_ne (fun w => z w.symm)] at q; exact ⟨z, q⟩
        have sr : Sub R (L2.upd R a o) := fun b u q => by rw [upd_ne (fun z => by rw [z, h2] at q; cases q)]; exact q
        have dl : DrLe dr ⟨dr.dw, dr.cs.set n none⟩ := ⟨fun _ q => q, by simp, fun i b _ q => (key i b q).2⟩
        have sb1 : Sub (L2.upd R a o) H := fun b u q => by
          by_cases z : b = a
          · subst z; rw [upd_same] at q; cases q; exact h3
          · rw [upd_ne z] at q; exact sb b u q
        have g1 : Grow dr ⟨dr.dw, dr.cs.set n none⟩ R (L2.upd R a o) H H := by
          refine ⟨sr, fun b u q r => ?_, fun _ _ q _ => q, fun _ q => q, dl, fun b n1 n2 => absurd ⟨n1.dw, fun i q => n1.cs i (key i b q).2⟩ n2⟩
          by_cases z : b = a
          · exact .inr (.inr fun w => w.cs n (z ▸ hn))
          · rw [upd_ne z, r] at q; cases q
        have dk1 : DrOk K ⟨dr.dw, dr.cs.set n none⟩ { s with st := s.st.set n none } (L2.upd R a o) H := by
          refine ⟨?_, by simp [dk.len], fun i j b q1 q2 => dk.inj i j b (key i b q1).2 (key j b q2).2, fun i b p q1 q2 => dk.sep i b p (key i b q1).2 q2, fun i b q => ?_, fun i q => ?_⟩
          · have h := dk.dw
            have sp := dk.sep n a
            show DwOk dr.dw s.dw (L2.upd R a o) H
            unfold DwOk at h ⊢
            split at h
            · trivial
            · rename_i x y ns c e1 e2
              obtain ⟨n1, n2⟩ := sp _ hn e1
              obtain ⟨k1, k2, k3, k4, k5⟩ := h
              exact ⟨k1, k2, k3, by rw [upd_ne (fun z => n1 z.symm)]; exact k4, by rw [upd_ne (fun z => n2 z.symm)]; exact k5⟩
            · exact h
          · obtain ⟨z, q'⟩ := key i b q
            obtain ⟨d2, u, c1, c2, c3, c4⟩ := dk.cel i b q'
            refine ⟨d2, u, by rw [List.getElem?_set_ne (fun w => z w.symm)]; exact c1, ?_, c3, c4.mono dl sr⟩
            rw [upd_ne (fun w : b = a => z (dk.inj i n a (by rw [← w]; exact q') hn))]
            exact c2
          · show (s.st.set n none)[i]? = some none
            have hls : n < s.st.length := (List.getElem?_eq_some_iff.mp ed).1
            by_cases z : i = n
            · subst z; exact List.getElem?_set_self hls
            · rw [List.getElem?_set_ne (fun w => z w.symm)] at q ⊢
              exact dk.ded i q
        obtain ⟨dr2, R2, r2, g2, sb2, dk2⟩ := frz_rp (RpAll.mono dl sr _ hs) sb1 dk1 e2
        exact ⟨dr2, R2, .cons (Rp.mono g2.drl g2.rs _ ((h4.mono dl sr).rp upd_same)) r2, g1.trans g2, sb2, dk2⟩
      · cases e
    · have e' : (frzL ds s).map (fun r => (d :: r.1, r.2)) = some (ys, s') := by
        cases d <;> first | exact e | exact absurd ⟨_, rfl⟩ isR
      obtain ⟨⟨ys', s2⟩, e2, e3⟩ := Option.map_eq_some_iff.mp e'
      cases e3
      obtain ⟨dr2, R2, r2, g2, sb2, dk2⟩ := frz_rp hs sb dk e2
      exact ⟨dr2, R2, .cons (Rp.mono g2.drl g2.rs _ h) r2, g2, sb2, dk2⟩
theorem rmS_no {O : List Nat} {i : Nat} (h : i ∉ O) : rmS O [i] = O := List.filter_eq_self.mpr fun j hj => by
  have : j ≠ i := fun q => h (q ▸ hj)
  simpa using this
theorem t_frz {i : Nat} {r : Sx} {ss : List Stmt} (h : PSs X ss (tS X.K cf B Rf df Ob Oc On O r)) : PSs X ss (tS X.K cf B Rf df Ob Oc On O (.seq (.frz i) r)) := by
  refine PSs.weak h fun D σ H ⟨e, s, dr, R, rel, en⟩ => ?_
  have hx : exec cf (.seq (.frz i) r) e s = match exec cf (.frz i) e s with
      | .next e s => exec cf r e s
      | x => x := rfl
  rw [hx] at en
  have hf : exec cf (.frz i) e s = match e[i]? with
    | some (some (.ref n)) => match frzL [.ref n] s with
      | some ([d], s) => nextIf (setE e i d) s
      | _ => .bad
    | some (some (.lst xs)) => match frzL xs s with
      | some (ys, s) => nextIf (setE e i (.lst ys)) s
      | none => .bad
    | _ => .bad := rfl
  rw [hf] at en
  have put : ∀ {d' : Val} {v : V} {s' : DSt} {dr' : Dr} {R' : Hp}, i ∉ O → σ[i]? = some (some v) → RelS X.K B Rf df O e s' dr' R' σ H → Rp X.K dr' R' v d' → i < e.length → RelS X.K B Rf df O (e.set i (some d')) s' dr' R' σ H := by
    intro d' v s' dr' R' ho hv rel' rp hi
    have u := rel'.upd (Upd.one rel'.rel.len hi rp)
    rw [rmS_no ho, set_self hv] at u
    exact u
  cases hn : e[i]? with
  | none => rw [hn] at en; exact en.elim
  | some o0 =>
    cases o0 with
    | none => rw [hn] at en; exact en.elim
    | some d0 =>
      rw [hn] at en
      obtain ⟨v, hv, rp⟩ := rel.rel.val i _ hn
      cases d0 with
      | ref n =>
        simp only at en
        have ho : i ∉ O := fun ho => by
          rw [if_pos ho] at rp
          exact rp.hv.not (fun _ z => nomatch z) (fun _ _ z => nomatch z)
        rw [if_neg ho] at rp
        cases ef : frzL [.ref n] s with
        | none => rw [ef] at en; exact en.elim
        | some r0 =>
          obtain ⟨l, s2⟩ := r0
          rw [ef] at en
          obtain ⟨dr2, R2, r2, g2, sb2, dk2⟩ := frz_rp (.cons rp .nil) rel.rel.sub rel.rel.drok ef
          cases r2 with
          | @cons _ _ d _ r2 r3 =>
            cases r3
            simp only at en
            cases es : setE e i d with
            | none => rw [es] at en; exact en.elim
            | some e' =>
              rw [es] at en
              obtain ⟨hi, rfl⟩ := setE_some es
              exact ⟨_, s2, dr2, R2, put ho hv (rel.grow g2 sb2 dk2) r2 hi, en⟩
      | lst xs =>
        simp only at en
        cases ef : frzL xs s with
        | none => rw [ef] at en; exact en.elim
        | some r0 =>
          obtain ⟨ys, s2⟩ := r0
          rw [ef] at en
          simp only at en
          cases es : setE e i (.lst ys) with
          | none => rw [es] at en; exact en.elim
          | some e' =>
            rw [es] at en
            obtain ⟨hi, rfl⟩ := setE_some es
            by_cases ho : i ∈ O
            · rw [if_pos ho] at rp
              obtain ⟨a, o, rfl, h1, h2, h3, h4⟩ := rp
              obtain ⟨vs, rfl, h5, h6⟩ := h4.isL
              obtain ⟨dr2, R2, r2, g2, sb2, dk2⟩ := frz_rp h5 rel.rel.sub rel.rel.drok ef
              have hl : ys.length ≤ lim := by rw [← r2.len, h5.len]; exact h6
              have w := (rel.grow g2 sb2 dk2).write ho hn hv r2 hl
              have eH : L2.upd H a (.lst vs) = H := by
                funext b
                by_cases z : b = a
                · rw [z, upd_same, h1]
                · rw [upd_ne z]
              rw [eH] at w
              exact ⟨_, s2, dr2, R2, w, en⟩
            · rw [if_neg ho] at rp
              cases rp with
              | lst hr hs hl =>
                obtain ⟨dr2, R2, r2, g2, sb2, dk2⟩ := frz_rp hs rel.rel.sub rel.rel.drok ef
                exact ⟨_, s2, dr2, R2, put ho hv (rel.grow g2 sb2 dk2) (.lst (g2.rs _ _ hr) r2 (by rw [← r2.len, hs.len]; exact hl)) hi, en⟩
      | _ => exact en.elim
/-! ### try -/
structure FrX (X : Cx) : Prop where
  stk : X.stack = X.env :: X.outer
  fr : X.env.frame = some X.env.locals
  ex : X.ex = []
theorem RelS.gone {K : PySem.W.Frag} {O : List Nat} {e : Env} {s : DSt} {dr : Dr} {R H : Hp} {σ : St} {i : Nat} (r : RelS K B Rf df O e s dr R σ H) (ho : i ∉ O) : RelS K B Rf df O (e.set i none) s dr R (σ.set i none) H where
  rel := ⟨r.rel.sub, by simp [r.rel.len], fun j d h => by
      have z : j ≠ i := fun z => by
        subst z
        rw [List.getElem?_set] at h
        simp only [if_true] at h
        split at h <;> simp at h
      rw [List.getElem?_set_ne (fun w => z w.symm)] at h ⊢
      exact r.rel.val j d h, fun j l a d1 d2 hj hl hn q1 q2 q3 q4 => by
      have zj : j ≠ i := fun z => ho (z ▸ hj)
      have zl : l ≠ i := fun z => ho (z ▸ hl)
      rw [List.getElem?_set_ne (fun w => zj w.symm)] at q1 q3
      rw [List.getElem?_set_ne (fun w => zl w.symm)] at q2 q4
      exact r.rel.dist j l a d1 d2 hj hl hn q1 q2 q3 q4, r.rel.drok⟩
  gr := r.gr
  fl := r.fl
  fd := r.fd
  ofr := fun j hj d a q1 q2 => by
    have zj : j ≠ i := fun z => ho (z ▸ hj)
    rw [List.getElem?_set_ne (fun w => zj w.symm)] at q1 q2
    exact r.ofr j hj d a q1 q2
theorem set3 {α : Type} {l : List α} {i j : Nat} {x y z : α} (h : i ≠ j) : ((l.set j x).set i y).set j z = (l.set i y).set j z := by
  rw [List.set_comm _ _ (Ne.symm h), List.set_set]
theorem Cok.tr (C : Cok X G cf k) {W : WX} {pn : List (Addr × Obj)} {xe : Value → Shared → Prop} (tk : Takes (X.tr pn xe) W) : Cok (X.tr pn xe) G ⟨cf.f, fun c σ H => W (.ref (xcA X.K c)) none σ H⟩ k where
  sc := C.sc
  N := C.N
  nd := C.nd
  calm := C.calm
  room := C.room
  fn := C.fn
  fns := C.fns
  free := C.free
  cons := C.cons
  tk := tk.imp fun cls d σ H ⟨c, e1, e2, w⟩ => by subst e1 e2; exact w
  excs := C.excs
theorem t_try (C : Cok X (G.at []) cf k) (F : FrX X) {b : Sx} {i j : Nat} {body : List Stmt} {n m : Str} {px pm pn ps pe : Pos} (h8 : all8 G = true) (hg : isGl G.sc (xname 7) = true) (hij : i ≠ j) (hj : G.N[j]? = some n) (hi : G.N[i]? = some m) (kn : G.sc.names.lookup n = some .local) (km : G.sc.names.lookup m = some .local) (nd : notDbg n = true)
    (hb : ∀ (W : WX) (pn : List (Addr × Obj)) (xe : Value → Shared → Prop), Cok (X.tr pn xe) (G.at []) ⟨cf.f, fun c σ H => W (.ref (xcA X.K c)) none σ H⟩ k → PassesOwn (model X.prog X.w) X.A X.env xe → PSs (X.tr pn xe) body (tS X.K ⟨cf.f, fun c σ H => W (.ref (xcA X.K c)) none σ H⟩ B Rf df Ob Oc [] [] b)) :
    PS X (.Try body [keepH (xname 7) n m px pm pn ps pe] [] [] pos) (tS X.K cf B Rf df Ob Oc [] [] (.tryS b i j)) := by
  have X7 := C.excs 7 (all8_at h8 (by omega))
  simp only [notDbg, Bool.and_eq_true, Bool.not_eq_true'] at nd
  have T := ps_try_keep (X := X) (x := xname 7) (n := n) (m := m) (c := .ref (xcA X.K 7)) (i := i) (j := j) (body := body) (px := px) (pm := pm) (pn := pn) (ps := ps) (pe := pe) (pos := pos)
    (tb := fun W => tS X.K ⟨cf.f, fun c σ H => W (.ref (xcA X.K c)) none σ H⟩ B Rf df Ob Oc [] [] b) F.stk F.fr F.ex C.nd (by rw [C.N]; exact hj) (by rw [C.N]; exact hi)
    (show X.env.scope.names.lookup n = _ by rw [C.sc]; exact kn) (show X.env.scope.names.lookup m = _ by rw [C.sc]; exact km) nd.1.1 nd.1.2 ⟨gl_of C hg, xname_dbg 7 (by omega), .inl X7.gl⟩ fun W pn xe tk po => hb W pn xe (C.tr tk) po
  refine PS.weak T fun D σ H ⟨e, s, dr, R, rel, en⟩ => ⟨e, s, dr, R, rel, ?_⟩
  have hx : exec cf (.tryS b i j) e s = match exec cf b e s with
    | .exc c e s => if c < 7 then nextIf ((setE e i (.exc c)).bind fun e => if j < e.length then some (e.set j none) else none) s else .bad
    | x => x := rfl
  rw [hx] at en
  show EndP X.K _ B Rf df Ob Oc [] D (exec cf.f b e s)
  cases ex : exec cf b e s with
  | next e1 s1 => rw [ex] at en; exact en
  | brk e1 s1 => rw [ex] at en; exact en
  | cont e1 s1 => rw [ex] at en; exact en
  | ret v s1 => rw [ex] at en; exact en
  | bad => rw [ex] at en; exact en
  | exc c e1 s1 =>
    rw [ex] at en
    simp only at en
    by_cases hc : c < 7
    · rw [if_pos hc] at en
      obtain ⟨e2, he, nx⟩ := en.nextIf
      obtain ⟨e3, he3, he⟩ := Option.bind_eq_some_iff.mp he
      obtain ⟨hi3, rfl⟩ := setE_some he3
      by_cases hjl : j < (e1.set i (some (.exc c))).length
      · rw [if_pos hjl] at he
        cases he
        intro σ1 dr1 R1 H1 r1
        refine ⟨(C.excs c (all8_at h8 (by omega))).em, rfl, fun a ha => ?_⟩
        rw [set3 hij]
        obtain ⟨g, sb⟩ := grow_laid (dr := dr1) (o := ExH (.ref (xcA X.K c)) a) ha r1.rel.sub
        have r2 := r1.grow g sb (r1.rel.drok.laidR r1.rel.sub ha)
        have r3 := r2.upd (Upd.one r2.rel.len hi3 (Rp.exc (K := X.K) (dr := dr1) (c := c) upd_same))
        exact nx _ _ _ _ (r3.gone (i := j) (fun z => nomatch z))
      · rw [if_neg hjl] at he
        cases he
    · rw [if_neg hc] at en
      exact en.elim
/-! ### x = dict(a); x[k] = v -/
theorem exec_dupd {i : Nat} {a kx v : Ex} {r : Sx} {e : Env} {s : DSt} : exec cf (.seq (.dupd i a kx v) r) e s = (ev cf a e s).noexc.thenS e fun d s => if copyOk d = true ∧ i < e.length then
      (ev cf v (e.set i none) s).noexc.thenS (e.set i none) fun y s => (ev cf kx (e.set i none) s).noexc.thenS (e.set i none) fun q s => match vput d q y with
        | some z => exec cf r (e.set i (some z)) s
        | none => .bad
    else .bad := by
  have hx : exec cf (.seq (.dupd i a kx v) r) e s = match exec cf (.dupd i a kx v) e s with
      | .next e s => exec cf r e s
      | x => x := rfl
  rw [hx]
  simp only [exec]
  cases ev cf a e s with
  | ok d s1 =>
    simp only [Out.noexc_ok, Out.thenS_ok]
    by_cases c : copyOk d = true ∧ i < e.length
    · rw [if_pos c, if_pos c]
      cases ev cf v (e.set i none) s1 with
      | ok y s2 =>
        simp only [Out.noexc_ok, Out.thenS_ok]
        cases ev cf kx (e.set i none) s2 with
        | ok q s3 =>
          simp only [Out.noexc_ok, Out.thenS_ok]
          cases vput d q y with
          | none => rfl
          | some z =>
            simp only [Option.bind_some, setE]
            rw [if_pos c.2]
            rfl
        | exc c s => rfl
        | bad => rfl
      | exc c s => rfl
      | bad => rfl
    · rw [if_neg c, if_neg c]
  | exc c s => rfl
  | bad => rfl
theorem Rel.erase {K : PySem.W.Frag} {O : List Nat} {e : Env} {s : DSt} {dr : Dr} {R H : Hp} {σ : St} {i : Nat} {w : V} (r : Rel K O e s dr R σ H) (hi : i < e.length) : Rel K O (e.set i none) s dr R (σ.set i (some w)) H := by
  have hne : ∀ (j : Nat) d, (e.set i none)[j]? = some (some d) → j ≠ i ∧ e[j]? = some (some d) := fun j d h => by
    by_cases q : i = j
    · subst q
      rw [List.getElem?_set_self hi] at h
      cases h
    · rw [List.getElem?_set_ne q] at h
      exact ⟨fun z => q z.symm, h⟩
  refine ⟨r.sub, by rw [List.length_set, List.length_set]; exact r.len, fun j d h => ?_, fun j j' a d d' hj hj' hjj h h' q q' => ?_, r.drok⟩
  · obtain ⟨n, h⟩ := hne j d h
    obtain ⟨v, h1, h2⟩ := r.val j d h
    exact ⟨v, by rw [List.getElem?_set_ne (fun z => n z.symm)]; exact h1, h2⟩
  · obtain ⟨n, h⟩ := hne j d h
    obtain ⟨n', h'⟩ := hne j' d' h'
    rw [List.getElem?_set_ne (fun z => n z.symm)] at q
    rw [List.getElem?_set_ne (fun z => n' z.symm)] at q'
    exact r.dist j j' a d d' hj hj' hjj h h' q q'
theorem RelS.erase {K : PySem.W.Frag} {O : List Nat} {e : Env} {s : DSt} {dr : Dr} {R H : Hp} {σ : St} {i : Nat} {w : V} (r : RelS K B Rf df O e s dr R σ H) (hi : i < e.length) (ho : i ∉ O) : RelS K B Rf df O (e.set i none) s dr R (σ.set i (some w)) H :=
  ⟨r.rel.erase hi, r.gr, r.fl, r.fd, fun j hj d a h q => by
    have n : i ≠ j := fun z => ho (z ▸ hj)
    rw [List.getElem?_set_ne n] at h q
    exact r.ofr j hj d a h q⟩
/-- an object of this def's own is put where it stays -/
theorem RelS.put {K : PySem.W.Frag} {O : List Nat} {e : Env} {s : DSt} {dr : Dr} {R H : Hp} {σ : St} {i : Nat} {p : Addr} {o o' : HO} {d : Val} (r : RelS K B Rf df O (e.set i none) s dr R σ H) (hi : i < e.length) (ho : i ∉ O) (hp : H p = some o) (hl : ∃ ps, o = .dT ps) (hR : R p = none) (nd : NotDr dr p) (hB : B.H0 p = none) (hσ : σ[i]? = some (some (.ref p)))
    (rp : Rp K dr (L2.upd R p o') (.ref p) d) : RelS K B Rf df O (e.set i (some d)) s dr (L2.upd R p o') σ (L2.upd H p o') := by
  have sr : Sub R (L2.upd R p o') := fun b u h => by rw [upd_ne (fun z => by rw [z, hR] at h; cases h)]; exact h
  have hne : ∀ (j : Nat) d', j ≠ i → (e.set i (some d))[j]? = some (some d') → (e.set i none)[j]? = some (some d') := fun j d' n h => by
    rw [List.getElem?_set_ne (fun z => n z.symm)] at h ⊢
    exact h
  have own : ∀ v d', OwnV K dr R H v d' → OwnV K dr (L2.upd R p o') (L2.upd H p o') v d' := fun v d' h => by
    obtain ⟨a, ob, e1, h1, h2, h3, h4⟩ := h
    obtain ⟨ps, rfl⟩ := hl
    have n : a ≠ p := fun z => by
      rw [z, hp] at h1
      cases h1
      rcases h4 with ⟨_, _, z, _⟩ | ⟨_, _, _, z, _⟩ | ⟨_, _, _, z, _⟩ <;> cases z
    exact ⟨a, ob, e1, by rw [upd_ne n]; exact h1, by rw [upd_ne n]; exact h2, h3, h4.mono (DrLe.refl _) sr⟩
  refine ⟨⟨fun b u h => ?_, by rw [List.length_set]; have := r.rel.len; rw [List.length_set] at this; exact this, fun j d' h => ?_, fun j j' a d1 d2 hj hj' hjj h h' q q' => ?_, ?_⟩, ⟨r.gr.rs.trans sr, fun a u h n => ?_, fun a u h n => ?_, fun a h => ?_, r.gr.drl, r.gr.drn⟩, r.fl.trans sr, r.fd, fun j hj d' a h q => ?_⟩
  · by_cases z : b = p
    · subst z
      rw [upd_same] at h ⊢
      exact h
    · rw [upd_ne z] at h ⊢
      exact r.rel.sub b u h
  · by_cases z : j = i
    · subst z
      rw [List.getElem?_set_self hi] at h
      cases h
      exact ⟨_, hσ, by rw [if_neg ho]; exact rp⟩
    · obtain ⟨v, h1, h2⟩ := r.rel.val j d' (hne j d' z h)
      refine ⟨v, h1, ?_⟩
      by_cases hj : j ∈ O
      · rw [if_pos hj] at h2 ⊢
        exact own v d' h2
      · rw [if_neg hj] at h2 ⊢
        exact Rp.mono (DrLe.refl _) sr d' h2
  · have n : j ≠ i := fun z => ho (z ▸ hj)
    have n' : j' ≠ i := fun z => ho (z ▸ hj')
    exact r.rel.dist j j' a d1 d2 hj hj' hjj (hne j d1 n h) (hne j' d2 n' h') q q'
  · exact (r.rel.drok.upd nd hR).updH nd
  · by_cases z : a = p
    · rw [z]; exact .inl hB
    · rw [upd_ne z] at h
      exact r.gr.new a u h n
  · have z : a ≠ p := fun z => by rw [z, hB] at h; cases h
    rw [upd_ne z]
    exact r.gr.keep a u h n
  · by_cases z : a = p
    · rw [z]; exact hB
    · rw [upd_ne z] at h
      exact r.gr.dom a h
  · have n : j ≠ i := fun z => ho (z ▸ hj)
    exact r.ofr j hj d' a (hne j d' n h) q
theorem put_rel {K : PySem.W.Frag} {dr : Dr} {R : Hp} {q : List Int} {v : V} {d : Val} {ps : List (List Key × V)} {ks : List (List Int)} {vs : List Val} (hk : ps.map (fun p => p.1) = ks.map keyI) (hs : RpAll K dr R (ps.map fun p => p.2) vs) (hv : Rp K dr R v d) :
    (putK ps (keyI q) v).map (fun p => p.1) = (putKs ks q).map keyI ∧ RpAll K dr R ((putK ps (keyI q) v).map fun p => p.2) (putVs ks vs q d) ∧ (putVs ks vs q d).length ≤ vs.length + 1 := by
  have hany : (ps.any fun kv => decide (kv.1 = keyI q)) = true ↔ q ∈ ks := by
    constructor
    · intro h
      obtain ⟨x, hx, e⟩ := List.any_eq_true.mp h
      have : x.1 ∈ ks.map keyI := by rw [← hk]; exact List.mem_map.mpr ⟨x, hx, rfl⟩
      obtain ⟨k, hk', e'⟩ := List.mem_map.mp this
      have e2 : x.1 = keyI q := by simpa using e
      rw [e2] at e'
      rw [← keyI_inj e']
      exact hk'
    · intro h
      have : keyI q ∈ ps.map (fun p => p.1) := by rw [hk]; exact List.mem_map.mpr ⟨q, h, rfl⟩
      obtain ⟨x, hx, e⟩ := List.mem_map.mp this
      exact List.any_eq_true.mpr ⟨x, hx, by simpa using e⟩
  unfold putK putKs putVs
  by_cases c : q ∈ ks
  · rw [if_pos (hany.mpr c), if_pos c, if_pos c]
    clear hany c
    refine ⟨?_, ?_, ?_⟩
    · rw [← hk, List.map_map]
      apply List.map_congr_left
      intro x _
      simp only [Function.comp]
      split <;> rfl
    · induction ps generalizing ks vs with
      | nil =>
        cases ks with
        | nil => cases hs; exact .nil
        | cons k ks => simp at hk
      | cons p ps ih =>
        cases ks with
        | nil => simp at hk
        | cons k ks =>
          simp only [List.map_cons, List.cons.injEq] at hk hs
          cases hs with
          | cons h1 h2 =>
            simp only [List.map_cons, List.zipWith_cons_cons]
            refine .cons ?_ (ih hk.2 h2)
            by_cases z : k = q
            · rw [if_pos z, if_pos (by rw [hk.1, z])]
              exact hv
            · rw [if_neg z, if_neg (fun w => z (keyI_inj (hk.1.symm.trans w)))]
              exact h1
    · rw [List.length_zipWith]
      omega
  · rw [if_neg (fun z => c (hany.mp z)), if_neg c, if_neg c]
    refine ⟨by rw [List.map_append, List.map_append, hk]; rfl, ?_, by simp⟩
    rw [List.map_append]
    exact hs.append (.cons hv .nil)
theorem dict_boot : bootBuiltins "dict" = some (.type "dict") := by decide +kernel
theorem t_dupd (C : Cok X (G.at O) cf k) (hb : G.blk = none) {i : Nat} {x : Str} {p p1 p2 p3 p4 p5 p6 : Pos} {a kx v : Ex} {ea ek e2 : Expr} {r : Sx} {rest : List Stmt} (hn : nameOk G i x = true) (hg : Gl X "dict") (hm : X.mg "dict" = none) (ho : i ∉ O) (hst : notStar ea = true) (hc : notComp e2 = true) (hsl : notSlice ek = true) (hvn : chkE (G.at O) (.var i) (.Name x p4) = true)
    (ha : chkE (G.at O) a ea = true) (hk : chkE (G.at O) kx ek = true) (hv : chkE (G.at O) v e2 = true) (hvo : isOwn O v = false) (h : PSs X rest (tS X.K cf B Rf df Ob Oc On O r)) :
    PSs X (.Assign [.Name x p] (.Call (.Name "dict" p1) [ea] [] p2) p3 :: .Assign [.Subscript (.Name x p4) ek p5] e2 p6 :: rest) (tS X.K cf B Rf df Ob Oc On O (.seq (.dupd i a kx v) r)) := by
  have hu : X.A.units + 64 < cLine := C.room.units
  obtain ⟨hi, hl⟩ := nameOk_of C (G := G.at O) hn
  have hf : X.fn x = true ∨ X.env.scope.names.lookup x = some .local := .inl (fn_of' C hb x)
  have PD : PE X (.Call (.Name "dict" p1) [ea] [] p2) (tCB rDictT (tAs X.K cf O (.cons a .nil))) := pe_callTy (x := "dict") (cr_dictT hu) hg hm dict_boot (pa_cons' hst (sE a X (G.at O) ea C ha).pe pa_nil') (by decide) (by decide) (star_of hst _ _) rfl
  have S1 : PS X (.Assign [.Name x p] (.Call (.Name "dict" p1) [ea] [] p2) p3) (tAsg (tCB rDictT (tAs X.K cf O (.cons a .nil))) (gName i)) := ps_set C.nd hi hl PD (swaps_false rfl) hf
  have hasg : ∀ w, assign (.Subscript (.Name x p4) ek p5) X.env w = (do let ov ← holding [w] (eval (.Name x p4) X.env); let iv ← holding [w, ov] (eval ek X.env); standAt p5; holding [w, ov, iv] (setItem ov iv w); release [w, ov, iv] []) := by
    intro w
    cases ek <;> first | rfl | simp [notSlice] at hsl
  have hw : swappedStores [.Subscript (.Name x p4) ek p5] e2 X.env = pure none := by cases e2 <;> rfl
  have S2 := ps_asg (pos := p6) (sE v X (G.at O) e2 C hv).pe (pg_sub (v_of C hvn) (sE kx X (G.at O) ek C hk).pe (set_dict (X := X) (by omega)) hasg) (show swapsWith e2 (some (.Subscript (.Name x p4) ek p5)) p6.line X.env = pure false from swaps_false hc) hw rfl
  refine PSs.weak (pss_cons S1 (pss_cons S2 h)) fun D σ H ⟨e, s, dr, R, rel, en⟩ => ?_
  rw [exec_dupd] at en
  obtain ⟨d, s1, ed, en1⟩ := en.nox
  by_cases c : copyOk d = true ∧ i < e.length
  case neg => rw [if_neg c] at en1; exact en1.elim
  rw [if_pos c] at en1
  obtain ⟨y, s2, ey, en2⟩ := en1.nox
  obtain ⟨q, s3, eq, en3⟩ := en2.nox
  obtain ⟨c1, c2⟩ := c
  have hz : ∃ z, vput d q y = some z := by
    cases ez : vput d q y with
    | none => rw [ez] at en3; exact en3.elim
    | some z => exact ⟨z, rfl⟩
  obtain ⟨z, ez⟩ := hz
  rw [ez] at en3
  cases d <;> simp [copyOk] at c1
  rename_i ks vs
  have hq : ∃ qs, q = .tup qs := by
    cases q <;> first | exact ⟨_, rfl⟩ | simp [vput] at ez
  obtain ⟨qs, rfl⟩ := hq
  have ez0 := ez
  simp only [vput] at ez0
  obtain ⟨qi, eqi, ez2⟩ := Option.bind_eq_some_iff.mp ez0
  have hlt : vs.length < lim := by
    by_cases w : vs.length < lim
    · exact w
    · rw [if_neg w] at ez2
      cases ez2
  rw [if_pos hlt] at ez2
  cases ez2
  refine ⟨e, s, dr, R, rel.rel, ?_⟩
  have eds : evs cf (.cons a .nil) e s = .ok [.dct ks vs] s1 := by simp only [evs, ed, Out.bind_ok]
  rw [eds]
  intro dr1 R1 H1 g1 sb1 dk1 vds rds
  have rel1 := rel.grow g1 sb1 dk1
  cases rds with
  | cons r1 r2 =>
    cases r2
    rcases r1.sh with hx | hx
    case inr => exact (hx.not (fun _ z => nomatch z) (fun _ _ z => nomatch z)).elim
    cases hx with
    | @dct a' ps _ _ hR hkk hvs hlen =>
      have small : ∀ w ∈ ps, ∃ k, smallK k = true ∧ w.1 = keyI k := fun w hw => by
        have : w.1 ∈ ks.map keyI := by rw [← hkk]; exact List.mem_map.mpr ⟨w, hw, rfl⟩
        obtain ⟨k, h1, h2⟩ := List.mem_map.mp this
        exact ⟨k, c1 k h1, h2.symm⟩
      refine ⟨a', ps, rfl, sb1 _ _ hR, small, fun p0 hp0 => ?_⟩
      obtain ⟨g2, sb2⟩ := grow_out (dr := dr1) (o := .dT ps) hp0 sb1
      have rel2 := (rel1.grow g2 sb2 (dk1.laidO hp0)).erase (w := .ref p0) c2 ho
      obtain ⟨hRp1, nd1⟩ := new_free sb1 dk1 hp0
      have hB : B.H0 p0 = none := rel1.gr.dom p0 hp0
      have hσ : (σ.set i (some (.ref p0)))[i]? = some (some (.ref p0)) := List.getElem?_set_self (by rw [rel.rel.len]; exact c2)
      refine ⟨e.set i none, s1, dr1, R1, rel2.rel, ?_⟩
      rw [ey]
      intro dr2 R2 H2 g3 sb3 dk3 vy ry
      have rel3 := rel2.grow g3 sb3 dk3
      refine ⟨_, hσ, e.set i none, s2, dr2, R2, rel3.rel, ?_⟩
      rw [eq]
      intro dr3 R3 H3 g4 sb4 dk4 vq rq
      have rel4 := rel3.grow g4 sb4 dk4
      obtain ⟨b, xs, rfl, hb1, hb2, rp⟩ := rq.sh.tup sb4
      have ex := RpAll.ints rp eqi
      subst ex
      have hp2 : H2 p0 = some (.dT ps) := g3.keep p0 _ upd_same nd1
      have nd2 : NotDr dr2 p0 := nd1.of_le (H := L2.upd H1 p0 (.dT ps)) upd_same g3.drl g3.drn
      have hp3 : H3 p0 = some (.dT ps) := g4.keep p0 _ hp2 nd2
      have hRp2 : R2 p0 = none := g3.no upd_same (fun _ z => nomatch z) hRp1 nd1
      have hRp3 : R3 p0 = none := g4.no hp2 (fun _ z => nomatch z) hRp2 nd2
      have plen : ps.length = vs.length := by
        have := hvs.len
        rw [List.length_map] at this
        exact this
      refine ⟨p0, L2.upd H3 p0 (.dT (putK ps (keyI qi) vy)), rfl, DPut.t hp3 (by rw [keyI_kV]; exact hb1) (by rw [plen]; exact lim_line1 hlt), ?_⟩
      have hvs3 : RpAll X.K dr3 R3 (ps.map fun p => p.2) vs := RpAll.mono (g2.drl.trans (g3.drl.trans g4.drl)) (g2.rs.trans (g3.rs.trans g4.rs)) vs hvs
      obtain ⟨w1, w2, w3⟩ := put_rel (q := qi) hkk hvs3 ((ry.grow g4).rp hvo)
      refine ⟨e.set i (some (.dct (putKs ks qi) (putVs ks vs qi y))), s3, dr3, L2.upd R3 p0 (.dT (putK ps (keyI qi) vy)), rel4.put c2 ho hp3 ⟨_, rfl⟩ hRp3 (nd2.of_le hp2 g4.drl g4.drn) hB hσ (.dct upd_same w1 (RpAll.mono (DrLe.refl _) (fun b u h => ?_) _ w2) (by omega)), en3⟩
      rw [upd_ne (fun z => by rw [z, hRp3] at h; cases h)]
      exact h
end
end BG

/-! BG.SoundP: a, b = x, y; the checker is right for all statements. -/
namespace BG
open PySem PySem.Spec PyProof.Rows L2

inductive ParA (K : PySem.W.Frag) (dr : Dr) (R H : Hp) (own : List Nat) : (Addr → Prop) → Tg → List V → List Val → Prop
  | nil {P : Addr → Prop} : ParA K dr R H own P .nil [] []
  | val {P : Addr → Prop} {i : Nat} {r : Tg} {v : V} {d : Val} {vs : List V} {ds : List Val} (hi : i ∉ own) (h : Rp K dr R v d) (t : ParA K dr R H own P r vs ds) : ParA K dr R H own P (.cons (.name i) r) (v :: vs) (d :: ds)
  | own {P : Addr → Prop} {i : Nat} {r : Tg} {p : Addr} {d : Val} {vs : List V} {ds : List Val} (hi : i ∈ own) (h : OwnV K dr R H (.ref p) d) (n : ¬ P p) (t : ParA K dr R H own (fun a => P a ∨ a = p) r vs ds) : ParA K dr R H own P (.cons (.name i) r) (.ref p :: vs) (d :: ds)
theorem ParA.grow {K : PySem.W.Frag} {dr dr' : Dr} {R R' H H' : Hp} {own : List Nat} (g : Grow dr dr' R R' H H') : ∀ {P : Addr → Prop} {t : Tg} {vs : List V} {ds : List Val}, ParA K dr R H own P t vs ds → ParA K dr' R' H' own P t vs ds
  | _, _, _, _, .nil => .nil
  | _, _, _, _, .val hi h t => .val hi (Rp.mono g.drl g.rs _ h) (t.grow g)
  | _, _, _, _, .own hi h n t => .own hi (h.grow g) n (t.grow g)
theorem ParA.len {K : PySem.W.Frag} {dr : Dr} {R H : Hp} {own : List Nat} : ∀ {P : Addr → Prop} {t : Tg} {vs : List V} {ds : List Val}, ParA K dr R H own P t vs ds → vs.length = tgLen t ∧ ds.length = tgLen t
  | _, _, _, _, .nil => ⟨rfl, rfl⟩
  | _, _, _, _, .val _ _ t => by have := t.len; simp [tgLen, this.1, this.2]
  | _, _, _, _, .own _ _ _ t => by have := t.len; simp [tgLen, this.1, this.2]
def tAF (K : PySem.W.Frag) (cf : CF) (O own : List Nat) (t : Tg) (a : Ex) : TA := fun σ H Q => ∃ e s dr R, Rel K O e s dr R σ H ∧ ∃ P : Addr → Prop, (∀ x, P x → H x ≠ none) ∧
  Beh K (cf.at σ) dr R H (evs cf a e s) fun ds dr' R' H' => ∀ vs, ParA K dr' R' H' own P t vs ds → Q vs H'
section
variable {X : Cx} {G : GC} {cf : CF} {k : Nat} {B : Base} {Rf : Hp} {df : Dr} {Ob Oc On O : List Nat} {pos : Pos}
theorem pa_par (C : Cok X G cf k) (own : List Nat) : ∀ (t : Tg) (a : Ex) (es : List Expr), parArgs G own t a = true → chkAs G a es = true → PA X es (tAF X.K cf G.O own t a)
  | .nil, a, es, hp, hk => by
    cases a with
    | nil =>
      cases es with
      | nil =>
        refine PA.weak pa_nil fun σ H Q ⟨en, s, dr, R, rel, P, hP, bh⟩ => ?_
        simp only [evs] at bh
        exact bh.ok (Grow.refl _ _ _) rel.sub rel.drok _ .nil
      | cons x l => simp [chkAs] at hk
    | _ => simp [parArgs] at hp
  | .cons t1 r, a, es, hp, hk => by
    cases t1 with
    | name i =>
      cases a with
      | cons a1 a2 =>
        cases es with
        | nil => simp [chkAs] at hk
        | cons x l =>
          simp only [parArgs, Bool.and_eq_true] at hp
          simp only [chkAs, Bool.and_eq_true] at hk
          have ih := pa_par C own r a2 l hp.2 hk.2
          by_cases ho : i ∈ own
          · have hf : isFresh a1 = true := by have := hp.1; rw [decide_eq_true ho, if_pos rfl] at this; exact this
            refine PA.weak (pa_cons (f_fresh C hf hk.1.2) ih (star_of hk.1.1 _ _)) fun σ H Q ⟨en, s, dr, R, rel, P, hP, bh⟩ => ?_
            simp only [evs] at bh
            refine ⟨en, s, dr, R, rel, bh.bind fun d s1 ex k1 => ?_⟩
            intro dr1 R1 H1 g1 sb1 dk1 vx rx
            obtain ⟨p, ob, rfl, h1, h2, h3, h4, h6⟩ := rx
            refine ⟨en, s1, dr1, R1, rel.grow g1 sb1 dk1, fun a => P a ∨ a = p, fun x hx => ?_, (k1 dr1 R1 H1 g1 sb1).bind fun ds2 s2 ey k2 => ?_⟩
            · rcases hx with hx | rfl
              · exact fun z => hP x hx (g1.dom x z)
              · rw [h1]; simp
            · intro dr2 R2 H2 g2 sb2 dk2 vs rs
              exact (k2 dr2 R2 H2 g2 sb2).ok (Grow.refl _ _ _) sb2 dk2 _ (.own ho (OwnV.grow ⟨p, ob, rfl, h1, h2, h3, h4⟩ g2) (fun z => hP p z h6) rs)
          · have hf : isOwn G.O a1 = false := by have := hp.1; rw [decide_eq_false ho] at this; simpa using this
            refine PA.weak (pa_cons (sE a1 X G x C hk.1.2).pe ih (star_of hk.1.1 _ _)) fun σ H Q ⟨en, s, dr, R, rel, P, hP, bh⟩ => ?_
            simp only [evs] at bh
            refine ⟨en, s, dr, R, rel, bh.bind fun d s1 ex k1 => ?_⟩
            intro dr1 R1 H1 g1 sb1 dk1 vx rx
            refine ⟨en, s1, dr1, R1, rel.grow g1 sb1 dk1, P, fun x hx z => hP x hx (g1.dom x z), (k1 dr1 R1 H1 g1 sb1).bind fun ds2 s2 ey k2 => ?_⟩
            intro dr2 R2 H2 g2 sb2 dk2 vs rs
            exact (k2 dr2 R2 H2 g2 sb2).ok (Grow.refl _ _ _) sb2 dk2 _ (.val ho (Rp.mono g2.drl g2.rs _ (rx.rp hf)) rs)
      | _ => simp [parArgs] at hp
    | _ => cases a <;> simp [parArgs] at hp
  | .name _, a, es, hp, hk => by cases a <;> simp [parArgs] at hp
  | .tup _, a, es, hp, hk => by cases a <;> simp [parArgs] at hp
/-- the names are stored, one after another -/
theorem par_bind {K : PySem.W.Frag} {own : List Nat} {s : DSt} {dr : Dr} {R H : Hp} : ∀ {t : Tg} {P : Addr → Prop} {O : List Nat} {e e' : Env} {σ : St} {vs : List V} {ds : List Val} {Q : St → Hp → Prop}, RelS K B Rf df O e s dr R σ H → ParA K dr R H own P t vs ds → bindTs t ds e = some e' →
    (∀ j ∈ O, ∀ d' b, e[j]? = some (some d') → σ[j]? = some (some (.ref b)) → P b) → (∀ a, ¬ P a → B.H0 a = none) → (∀ σ', RelS K B Rf df (parO own t O) e' s dr R σ' H → Q σ' H) → gTgs K t vs σ H Q
  | _, P, O, e, e', σ, _, _, Q, rel, .nil, hb, hs, h0, q => by
    simp only [bindTs, Option.some.injEq] at hb
    subst hb
    exact ⟨rfl, q σ rel⟩
  | _, P, O, e, e', σ, _, _, Q, rel, .val (i := i) (r := r) (v := v) (d := d) (vs := vs) (ds := ds) hi h t, hb, hs, h0, q => by
    simp only [bindTs, bindT] at hb
    obtain ⟨e1, hb1, hb2⟩ := Option.bind_eq_some_iff.mp hb
    simp only [Option.ite_none_right_eq_some, Option.some.injEq] at hb1
    obtain ⟨hlt, rfl⟩ := hb1
    refine ⟨v, vs, rfl, ?_⟩
    have r1 := rel.upd (Upd.one rel.rel.len hlt h)
    rw [rmS_one] at r1
    refine par_bind r1 t hb2 (fun j hj d' b q1 q2 => ?_) h0 fun σ' r2 => q σ' ?_
    · obtain ⟨m, n⟩ := mem_rmO.mp hj
      rw [List.getElem?_set_ne (fun z => n z.symm)] at q1 q2
      exact hs j m d' b q1 q2
    · simp only [parO, if_neg hi]; exact r2
  | _, P, O, e, e', σ, _, _, Q, rel, .own (i := i) (r := r) (p := p) (d := d) (vs := vs) (ds := ds) hi h n t, hb, hs, h0, q => by
    simp only [bindTs, bindT] at hb
    obtain ⟨e1, hb1, hb2⟩ := Option.bind_eq_some_iff.mp hb
    simp only [Option.ite_none_right_eq_some, Option.some.injEq] at hb1
    obtain ⟨hlt, rfl⟩ := hb1
    refine ⟨.ref p, vs, rfl, ?_⟩
    obtain ⟨p', ob, ep, h1, h2, h3, h4⟩ := h
    cases ep
    have r1 := rel.own (Hs := fun a => (open Classical in if P a then some (.lst []) else none)) hlt ⟨p, ob, rfl, h1, h2, h3, h4, by simp [n]⟩ (fun j hj d' b q1 q2 => ⟨.lst [], by simp [hs j hj d' b q1 q2]⟩) (fun a ha => h0 a (by
      intro z
      simp [z] at ha))
    refine par_bind r1 t hb2 (fun j hj d' b q1 q2 => ?_) (fun a ha => h0 a fun z => ha (.inl z)) fun σ' r2 => q σ' ?_
    · by_cases z : j = i
      · subst z
        rw [List.getElem?_set_self (by rw [rel.rel.len]; exact hlt)] at q2
        cases q2
        exact .inr rfl
      · rw [List.getElem?_set_ne (fun y => z y.symm)] at q1 q2
        rcases List.mem_cons.mp hj with y | y
        · exact absurd y z
        · exact .inl (hs j (mem_rmO.mp y).1 d' b q1 q2)
    · simp only [parO, if_pos hi]; exact r2
theorem sw_eq {sc : Scope} {env : PySem.Env} (hs : env.scope = sc) (hk : sc.kind = .function) {ts vs : List Expr} {kt k2 : Nat} {pt pt2 : Pos} {o : Option (List Str)} (h : swOf sc ts vs = some o) : swappedStores [.Tuple ts kt pt] (.Tuple vs k2 pt2) env = pure o := by
  have hb : (env.blockKind != .function) = false := by
    unfold PySem.Env.blockKind
    rw [hs, hk]
    rfl
  have hkind : ∀ id, env.kindOf id = sc.names.lookup id := fun id => by show env.scope.names.lookup id = _; rw [hs]
  unfold swOf at h
  unfold swappedStores
  simp only [hkind, hb, Bool.or_false, pure_bind]
  split at h
  · rename_i c
    cases h
    exact if_pos c
  · rename_i c
    refine (if_neg c).trans ?_
    split at h
    · rename_i c2
      cases h
      exact if_pos c2
    · rename_i c2
      refine (if_neg c2).trans ?_
      simp only at h
      split at h
      · rename_i c3
        cases h
        exact if_pos c3
      · rename_i c3
        refine (if_neg c3).trans ?_
        split at h
        · rename_i c4
          cases h
          exact if_pos c4
        · rename_i c4
          refine (if_neg c4).trans ?_
          split at h
          · cases h
          · rename_i c5
            cases h
            exact if_neg c5
theorem gTgs_names2 {K : PySem.W.Frag} {i j : Nat} {vs : List V} {σ : St} {H : Hp} {Q : St → Hp → Prop} (h : gTgs K (.cons (.name i) (.cons (.name j) .nil)) vs σ H Q) : ∃ v w, vs = [v, w] ∧ Q ((σ.set i (some v)).set j (some w)) H := by
  obtain ⟨v, r, rfl, w, r2, rfl, rfl, q⟩ := h
  exact ⟨v, w, rfl, q⟩
theorem gTgs_names3 {K : PySem.W.Frag} {i j l : Nat} {vs : List V} {σ : St} {H : Hp} {Q : St → Hp → Prop} (h : gTgs K (.cons (.name i) (.cons (.name j) (.cons (.name l) .nil))) vs σ H Q) : ∃ u v w, vs = [u, v, w] ∧ Q (((σ.set i (some u)).set j (some v)).set l (some w)) H := by
  obtain ⟨v, r, rfl, w, r2, rfl, z, r3, rfl, rfl, q⟩ := h
  exact ⟨v, w, z, rfl, q⟩
theorem chkAs_lenA {K : PySem.W.Frag} {dr : Dr} {R H : Hp} {own : List Nat} : ∀ {P : Addr → Prop} {t : Tg} {ws : List V} {ds : List Val} {a : Ex} {vs : List Expr}, ParA K dr R H own P t ws ds → chkAs G a vs = true → parArgs G own t a = true → ws.length = vs.length
  | _, _, _, _, a, vs, .nil, h, hp => by
    cases a <;> simp [parArgs] at hp
    cases vs with
    | nil => rfl
    | cons x l => simp [chkAs] at h
  | _, _, _, _, a, vs, .val _ _ t, h, hp => by
    cases a <;> simp only [parArgs] at hp <;> (try (cases hp; done))
    cases vs with
    | nil => simp [chkAs] at h
    | cons x l =>
      simp only [chkAs, Bool.and_eq_true] at h hp
      simp [chkAs_lenA t h.2 hp.2]
  | _, _, _, _, a, vs, .own _ _ _ t, h, hp => by
    cases a <;> simp only [parArgs] at hp <;> (try (cases hp; done))
    cases vs with
    | nil => simp [chkAs] at h
    | cons x l =>
      simp only [chkAs, Bool.and_eq_true] at h hp
      simp [chkAs_lenA t h.2 hp.2]
theorem tg_cons {t : Tg} {e : Expr} {es : List Expr} (h : chkGs G t (e :: es) = true) : ∃ t1 r, t = .cons t1 r ∧ chkG G t1 e = true ∧ chkGs G r es = true := by
  cases t with
  | cons t1 r => simp only [chkGs, Bool.and_eq_true] at h; exact ⟨t1, r, rfl, h.1.2, h.2⟩
  | _ => simp [chkGs] at h
theorem tg_nil {t : Tg} (h : chkGs G t [] = true) : t = .nil := by
  cases t with
  | nil => rfl
  | _ => simp [chkGs] at h
theorem tg_name {t : Tg} {x : Str} {p : Pos} (h : chkG G t (.Name x p) = true) : ∃ i, t = .name i ∧ G.N[i]? = some x := by
  cases t with
  | name i => simp only [chkG, Bool.and_eq_true, decide_eq_true_eq] at h; exact ⟨i, rfl, h.1.1⟩
  | _ => simp [chkG] at h
theorem tg_two {t : Tg} {x y : Str} {px py : Pos} (h : chkGs G t [.Name x px, .Name y py] = true) : ∃ i j, t = .cons (.name i) (.cons (.name j) .nil) ∧ G.N[i]? = some x ∧ G.N[j]? = some y := by
  obtain ⟨t1, r, rfl, h1, h2⟩ := tg_cons h
  obtain ⟨t2, r2, rfl, h3, h4⟩ := tg_cons h2
  obtain ⟨i, rfl, hi⟩ := tg_name h1
  obtain ⟨j, rfl, hj⟩ := tg_name h3
  rw [tg_nil h4]
  exact ⟨i, j, rfl, hi, hj⟩
theorem tg_three {t : Tg} {x y z : Str} {px py pz : Pos} (h : chkGs G t [.Name x px, .Name y py, .Name z pz] = true) : ∃ i j l, t = .cons (.name i) (.cons (.name j) (.cons (.name l) .nil)) ∧ G.N[i]? = some x ∧ G.N[j]? = some y ∧ G.N[l]? = some z := by
  obtain ⟨t1, r, rfl, h1, h2⟩ := tg_cons h
  obtain ⟨t2, r2, rfl, h3, h4⟩ := tg_cons h2
  obtain ⟨t3, r3, rfl, h5, h6⟩ := tg_cons h4
  obtain ⟨i, rfl, hi⟩ := tg_name h1
  obtain ⟨j, rfl, hj⟩ := tg_name h3
  obtain ⟨l, rfl, hl⟩ := tg_name h5
  rw [tg_nil h6]
  exact ⟨i, j, l, rfl, hi, hj, hl⟩
theorem par_cons {t1 r : Tg} {own : List Nat} {a : Ex} (h : parArgs G own (.cons t1 r) a = true) : ∃ a1 a2, a = .cons a1 a2 ∧ parArgs G own r a2 = true := by
  cases t1 <;> cases a <;> simp [parArgs] at h
  exact ⟨_, _, rfl, h.2⟩
theorem par_nil {own : List Nat} {a : Ex} (h : parArgs G own .nil a = true) : a = .nil := by
  cases a <;> simp [parArgs] at h
  rfl
theorem as_cons {a1 a2 : Ex} {vs : List Expr} (h : chkAs G (.cons a1 a2) vs = true) : ∃ v l, vs = v :: l ∧ chkAs G a2 l = true := by
  cases vs with
  | nil => simp [chkAs] at h
  | cons x l => simp only [chkAs, Bool.and_eq_true] at h; exact ⟨x, l, rfl, h.2⟩
theorem as_nil {vs : List Expr} (h : chkAs G .nil vs = true) : vs = [] := by
  cases vs with
  | nil => rfl
  | cons x l => simp [chkAs] at h
theorem par_two {t : Tg} {own : List Nat} {a : Ex} {vs : List Expr} {e1 e2 : Expr} (ha : chkAs G a vs = true) (hg : chkGs G t [e1, e2] = true) (hp : parArgs G own t a = true) : ∃ a1 a2 v1 v2, a = .cons a1 (.cons a2 .nil) ∧ vs = [v1, v2] := by
  obtain ⟨t1, r, rfl, h1, h2⟩ := tg_cons hg
  obtain ⟨t2, r2, rfl, h3, h4⟩ := tg_cons h2
  obtain rfl := tg_nil h4
  obtain ⟨a1, b1, rfl, p1⟩ := par_cons hp
  obtain ⟨a2, b2, rfl, p2⟩ := par_cons p1
  obtain rfl := par_nil p2
  obtain ⟨v1, l1, rfl, q1⟩ := as_cons ha
  obtain ⟨v2, l2, rfl, q2⟩ := as_cons q1
  obtain rfl := as_nil q2
  exact ⟨a1, a2, v1, v2, rfl, rfl⟩
theorem par_three {t : Tg} {own : List Nat} {a : Ex} {vs : List Expr} {e1 e2 e3 : Expr} (ha : chkAs G a vs = true) (hg : chkGs G t [e1, e2, e3] = true) (hp : parArgs G own t a = true) : ∃ a1 a2 a3 v1 v2 v3, a = .cons a1 (.cons a2 (.cons a3 .nil)) ∧ vs = [v1, v2, v3] := by
  obtain ⟨t1, r, rfl, h1, h2⟩ := tg_cons hg
  obtain ⟨t2, r2, rfl, h3, h4⟩ := tg_cons h2
  obtain ⟨t3, r3, rfl, h5, h6⟩ := tg_cons h4
  obtain rfl := tg_nil h6
  obtain ⟨a1, b1, rfl, p1⟩ := par_cons hp
  obtain ⟨a2, b2, rfl, p2⟩ := par_cons p1
  obtain ⟨a3, b3, rfl, p3⟩ := par_cons p2
  obtain rfl := par_nil p3
  obtain ⟨v1, l1, rfl, q1⟩ := as_cons ha
  obtain ⟨v2, l2, rfl, q2⟩ := as_cons q1
  obtain ⟨v3, l3, rfl, q3⟩ := as_cons q2
  obtain rfl := as_nil q3
  exact ⟨a1, a2, a3, v1, v2, v3, rfl, rfl⟩
theorem sw_shape {sc : Scope} {ts : List Expr} {ns : List Str} (hw : swShape sc ts ns = true) :
    (∃ x px y py, ts = [.Name x px, .Name y py] ∧ ns = [x, y] ∧ x ≠ y ∧ sc.names.lookup x = some .local ∧ sc.names.lookup y = some .local) ∨
    ∃ x px y py z pz, ts = [.Name x px, .Name y py, .Name z pz] ∧ ns = [x, y, z] ∧ x ≠ y ∧ x ≠ z ∧ y ≠ z ∧ sc.names.lookup x = some .local ∧ sc.names.lookup y = some .local ∧ sc.names.lookup z = some .local := by
  unfold swShape at hw
  split at hw
  · simp only [Bool.and_eq_true, decide_eq_true_eq, Bool.not_eq_true', decide_eq_false_iff_not] at hw
    obtain ⟨⟨⟨⟨rfl, rfl⟩, hxy⟩, lx⟩, ly⟩ := hw
    exact .inl ⟨_, _, _, _, rfl, rfl, hxy, lx, ly⟩
  · simp only [Bool.and_eq_true, decide_eq_true_eq, Bool.not_eq_true', decide_eq_false_iff_not] at hw
    obtain ⟨⟨⟨⟨⟨⟨⟨⟨rfl, rfl⟩, rfl⟩, hxy⟩, hxz⟩, hyz⟩, lx⟩, ly⟩, lz⟩ := hw
    exact .inr ⟨_, _, _, _, _, _, rfl, rfl, hxy, hxz, hyz, lx, ly, lz⟩
  · cases hw
theorem t_par (C : Cok X (G.at O) cf k) (hk : G.sc.kind = .function) {t : Tg} {own : List Nat} {a : Ex} {ts vs : List Expr} {kt k2 : Nat} {pt pt2 : Pos} (hg : chkGs (G.at O) t ts = true) (ha : chkAs (G.at O) a vs = true) (hp : parArgs (G.at O) own t a = true) (hl : vs.length ≤ lim)
    (hw : (match swOf G.sc ts vs with
        | some none => true
        | some (some ns) => swShape G.sc ts ns
        | none => false) = true) : PS X (.Assign [.Tuple ts kt pt] (.Tuple vs k2 pt2) pos) (tS X.K cf B Rf df Ob Oc (parO own t O) O (.par t own a)) := by
  have P := pa_par C own t a vs hp ha
  -- what the arguments leave, and the stores behind them
  have W : ∀ (D : Ends) σ H (Q : List V → Hp → Prop), tS X.K cf B Rf df Ob Oc (parO own t O) O (.par t own a) D σ H →
      (∀ e s dr R ws ds H1 Pd, RelS X.K B Rf df O e s dr R σ H1 → ParA X.K dr R H1 own Pd t ws ds → (∀ j ∈ O, ∀ d' b, e[j]? = some (some d') → σ[j]? = some (some (.ref b)) → Pd b) → (∀ a, ¬ Pd a → B.H0 a = none) → (∃ e', bindTs t ds e = some e' ∧ ∀ σ dr R H, RelS X.K B Rf df (parO own t O) e' s dr R σ H → D.nx σ H) → Q ws H1) →
      tAF X.K cf O own t a σ H Q := by
    intro D σ H Q ⟨e, s, dr, R, rel, en⟩ w
    have hx : exec cf (.par t own a) e s = (evs cf a e s).thenS e fun xs s => nextIf (bindTs t xs e) s := rfl
    rw [hx] at en
    refine ⟨e, s, dr, R, rel.rel, fun a => H a ≠ none, fun x hx => hx, EndP.beh rel en fun ds s1 ed e1 => ?_⟩
    intro dr1 R1 H1 g1 sb1 dk1 ws rs
    refine w e s1 dr1 R1 ws ds H1 _ (rel.grow g1 sb1 dk1) rs (fun j hj d' b q1 q2 => ?_) (fun a ha => rel.gr.dom a (by simpa using ha)) e1.nextIf
    obtain ⟨v', h1, h2⟩ := rel.rel.val j d' q1
    rw [if_pos hj] at h2
    obtain ⟨p, ob, rfl, c1, _⟩ := h2
    rw [q2] at h1
    cases h1
    rw [c1]
    simp
  cases eo : swOf G.sc ts vs with
  | none => rw [eo] at hw; cases hw
  | some o =>
    have sw := sw_eq (kt := kt) (k2 := k2) (pt := pt) (pt2 := pt2) (show X.env.scope = G.sc from C.sc) hk eo
    have hss : swapsWithSole [.Tuple ts kt pt] (.Tuple vs k2 pt2) pos.line X.env = pure false := rfl
    cases o with
    | none =>
      obtain ⟨l1, l2⟩ := chkGs_each X.env hg
      refine PS.weak (ps_asg (pe_tup P) (pg_tup C.calm (s_tgs C t ts hg) l1 l2) hss sw rfl) fun D σ H q => ?_
      refine W D σ H _ q fun e s dr R ws ds H1 Pd rel pa hs h0 ⟨e', hb, nx⟩ => ?_
      refine ⟨?_, fun p hp => ?_⟩
      · have := chkAs_lenA pa ha hp
        rw [this]
        exact lim_line hl
      · obtain ⟨g, sb⟩ := grow_out (dr := dr) (o := .tup ws) hp rel.rel.sub
        refine ⟨p, ws, rfl, SqT.of upd_same, pa.len.1, ?_⟩
        exact par_bind (rel.grow g sb (rel.rel.drok.laidO hp)) (pa.grow g) hb hs h0 fun σ' r' => nx _ _ _ _ r'
    | some ns =>
      rw [eo] at hw
      simp only at hw
      rcases sw_shape hw with ⟨x, px, y, py, rfl, rfl, hxy, lx, ly⟩ | ⟨x, px, y, py, z, pz, rfl, rfl, hxy, hxz, hyz, lx, ly, lz⟩
      · obtain ⟨a1, a2, v1, v2, rfl, rfl⟩ := par_two ha hg hp
        obtain ⟨i, j, rfl, hi, hj⟩ := tg_two hg
        refine PS.weak (ps_par (i := i) (j := j) C.calm C.nd (by rw [C.N]; exact hi) (by rw [C.N]; exact hj) (fun z => by subst z; rw [hi] at hj; exact hxy (Option.some.inj hj)) (by rw [C.sc]; exact lx) (by rw [C.sc]; exact ly) P sw hss) fun D σ H q => ?_
        refine W D σ H _ q fun e s dr R ws ds H1 Pd rel pa hs h0 ⟨e', hb, nx⟩ => ?_
        exact gTgs_names2 (par_bind rel pa hb hs h0 fun σ' r' => nx _ _ _ _ r')
      · obtain ⟨a1, a2, a3, v1, v2, v3, rfl, rfl⟩ := par_three ha hg hp
        obtain ⟨i, j, l, rfl, hi, hj, hl⟩ := tg_three hg
        refine PS.weak (ps_par3 (i := i) (j := j) (l := l) C.calm C.nd (by rw [C.N]; exact hi) (by rw [C.N]; exact hj) (by rw [C.N]; exact hl) (fun z => by subst z; rw [hi] at hj; exact hxy (Option.some.inj hj)) (fun z => by subst z; rw [hi] at hl; exact hxz (Option.some.inj hl)) (fun z => by subst z; rw [hj] at hl; exact hyz (Option.some.inj hl)) (by rw [C.sc]; exact lx) (by rw [C.sc]; exact ly) (by rw [C.sc]; exact lz) P sw hss) fun D σ H q => ?_
        refine W D σ H _ q fun e s dr R ws ds H1 Pd rel pa hs h0 ⟨e', hb, nx⟩ => ?_
        exact gTgs_names3 (par_bind rel pa hb hs h0 fun σ' r' => nx _ _ _ _ r')

/-! ### all statements -/
end
def contB (G : GC) (Ob Oc : List Nat) (c : Sx) (rest : List Stmt) : Option (Option (List Nat)) → Option (Option (List Nat))
  | none => none
  | some none => (match c, rest with
    | .nil, [] => some none
    | _, _ => none)
  | some (some O') => chkB G Ob Oc c O' rest
theorem contB_none {G : GC} {Ob Oc : List Nat} {c : Sx} {rest : List Stmt} {r : Option (List Nat)} (h : contB G Ob Oc c rest (some none) = some r) : c = .nil ∧ rest = [] := by
  unfold contB at h
  simp only at h
  split at h
  · exact ⟨rfl, rfl⟩
  · cases h
theorem chkB_seq {G : GC} {Ob Oc : List Nat} {a c : Sx} {O : List Nat} {ss : List Stmt} (hf : ∀ i, a ≠ .freeze i) (hz : ∀ i, a ≠ .frz i) (hd : ∀ i x y z, a ≠ .dupd i x y z) : chkB G Ob Oc (.seq a c) O ss = match ss with
    | [] => none
    | s :: rest => contB G Ob Oc c rest (chk1 G Ob Oc a O s) := by
  cases ss with
  | nil => cases a <;> first | exact absurd rfl (hf _) | exact absurd rfl (hz _) | exact absurd rfl (hd _ _ _ _) | rfl
  | cons s rest =>
    cases a <;> first
      | exact absurd rfl (hf _)
      | exact absurd rfl (hz _)
      | exact absurd rfl (hd _ _ _ _)
      | (simp only [chkB]
         generalize chk1 G Ob Oc _ O s = q
         rcases q with _ | _ | q
         · rfl
         · cases c <;> cases rest <;> rfl
         · rfl)
mutual
theorem sB {k : Nat} {B : Base} {G : GC} (hb : G.blk = none) (hk : G.sc.kind = .function) : ∀ (c : Sx) (cf : CF) (X : Cx) (po : PassesOwn (model X.prog X.w) X.A X.env X.xe) (F : FrX X) (Rf : Hp) (df : Dr) (Ob Oc O : List Nat) (ss : List Stmt) (r : Option (List Nat)), Cok X G cf k → chkB G Ob Oc c O ss = some r →
    ∀ On, (∀ O', r = some O' → O' = On) → PSs X ss (tS X.K cf B Rf df Ob Oc On O c)
  | .nil, cf, X, po, F, Rf, df, Ob, Oc, O, ss, r, C, h, On, hr => by
    cases ss with
    | nil =>
      simp only [chkB, Option.some.injEq] at h
      subst h
      have := hr O rfl
      subst this
      exact t_nil
    | cons x l => simp [chkB] at h
  | .seq a c, cf, X, po, F, Rf, df, Ob, Oc, O, ss, r, C, h, On, hr => by
    by_cases hf : ∃ i, a = .freeze i
    · obtain ⟨i, rfl⟩ := hf
      simp only [chkB] at h
      exact t_freeze (sB hb hk c cf X po F Rf df Ob Oc (rmO O i) ss r C h On hr)
    by_cases hzz : ∃ i, a = .frz i
    · obtain ⟨i, rfl⟩ := hzz
      simp only [chkB] at h
      exact t_frz (sB hb hk c cf X po F Rf df Ob Oc O ss r C h On hr)
    by_cases hdd : ∃ i x y z, a = .dupd i x y z
    · obtain ⟨i, xa, xk, xv, rfl⟩ := hdd
      simp only [chkB] at h
      split at h
      · rename_i x p f p1 ea p2 p3 x' p4 ek p5 e2 p6 rest
        simp only [Option.ite_none_right_eq_some, Bool.and_eq_true, decide_eq_true_eq, Bool.not_eq_true'] at h
        obtain ⟨⟨⟨⟨⟨⟨⟨⟨⟨⟨⟨⟨h1, h2⟩, h3⟩, h4⟩, h5⟩, h6⟩, h7⟩, h8⟩, h9⟩, h10⟩, h11⟩, h12⟩, h13⟩ := h
        subst h1
        obtain ⟨rfl, hg, hm⟩ := isBi_of (C.at O) h3
        exact t_dupd (C.at O) hb h2 hg hm h4 h5 h6 h7 h8 h9 h10 h11 h12 (sB hb hk c cf X po F Rf df Ob Oc O rest r C h13 On hr)
      · cases h
    · have hu := chkB_seq (G := G) (Ob := Ob) (Oc := Oc) (c := c) (O := O) (ss := ss) (fun i q => hf ⟨i, q⟩) (fun i q => hzz ⟨i, q⟩) (fun i x y z q => hdd ⟨i, x, y, z, q⟩)
      rw [hu] at h
      cases ss with
      | nil => cases h
      | cons s rest =>
        simp only at h
        cases e1 : chk1 G Ob Oc a O s with
        | none => rw [e1] at h; cases h
        | some o =>
          rw [e1] at h
          cases o with
          | none =>
            obtain ⟨rfl, rfl⟩ := contB_none h
            exact t_last fun On => s1 hb hk a cf X po F Rf df Ob Oc O s none C e1 On (fun _ q => nomatch q)
          | some O1 =>
            exact t_seq (s1 hb hk a cf X po F Rf df Ob Oc O s (some O1) C e1 O1 (fun _ q => Option.some.inj q.symm)) (sB hb hk c cf X po F Rf df Ob Oc O1 rest r C h On hr)
  | .asg _ _, _, _, _, _, _, _, _, _, _, _, _, _, h, _, _ => by simp [chkB] at h
  | .own _ _, _, _, _, _, _, _, _, _, _, _, _, _, h, _, _ => by simp [chkB] at h
  | .asgT _ _, _, _, _, _, _, _, _, _, _, _, _, _, h, _, _ => by simp [chkB] at h
  | .par _ _ _, _, _, _, _, _, _, _, _, _, _, _, _, h, _, _ => by simp [chkB] at h
  | .aug _ _ _, _, _, _, _, _, _, _, _, _, _, _, _, h, _, _ => by simp [chkB] at h
  | .ext _ _, _, _, _, _, _, _, _, _, _, _, _, _, h, _, _ => by simp [chkB] at h
  | .append _ _, _, _, _, _, _, _, _, _, _, _, _, _, h, _, _ => by simp [chkB] at h
  | .setI _ _ _, _, _, _, _, _, _, _, _, _, _, _, _, h, _, _ => by simp [chkB] at h
  | .expr _, _, _, _, _, _, _, _, _, _, _, _, _, h, _, _ => by simp [chkB] at h
  | .ite _ _ _, _, _, _, _, _, _, _, _, _, _, _, _, h, _, _ => by simp [chkB] at h
  | .forS _ _ _, _, _, _, _, _, _, _, _, _, _, _, _, h, _, _ => by simp [chkB] at h
  | .whileS _ _ _, _, _, _, _, _, _, _, _, _, _, _, _, h, _, _ => by simp [chkB] at h
  | .ret _, _, _, _, _, _, _, _, _, _, _, _, _, h, _, _ => by simp [chkB] at h
  | .brk, _, _, _, _, _, _, _, _, _, _, _, _, h, _, _ => by simp [chkB] at h
  | .cont, _, _, _, _, _, _, _, _, _, _, _, _, h, _, _ => by simp [chkB] at h
  | .raise _, _, _, _, _, _, _, _, _, _, _, _, _, h, _, _ => by simp [chkB] at h
  | .freeze _, _, _, _, _, _, _, _, _, _, _, _, _, h, _, _ => by simp [chkB] at h
  | .dupd _ _ _ _, _, _, _, _, _, _, _, _, _, _, _, _, h, _, _ => by simp [chkB] at h
  | .appR _ _, _, _, _, _, _, _, _, _, _, _, _, _, h, _, _ => by simp [chkB] at h
  | .setR _ _ _, _, _, _, _, _, _, _, _, _, _, _, _, h, _, _ => by simp [chkB] at h
  | .frz _, _, _, _, _, _, _, _, _, _, _, _, _, h, _, _ => by simp [chkB] at h
  | .tryS _ _ _, _, _, _, _, _, _, _, _, _, _, _, _, h, _, _ => by simp [chkB] at h
theorem s1 {k : Nat} {B : Base} {G : GC} (hb : G.blk = none) (hk : G.sc.kind = .function) : ∀ (c : Sx) (cf : CF) (X : Cx) (po : PassesOwn (model X.prog X.w) X.A X.env X.xe) (F : FrX X) (Rf : Hp) (df : Dr) (Ob Oc O : List Nat) (st : Stmt) (r : Option (List Nat)), Cok X G cf k → chk1 G Ob Oc c O st = some r →
    ∀ On, (∀ O', r = some O' → O' = On) → PS X st (tS X.K cf B Rf df Ob Oc On O c)
  | .asg i c, cf, X, po, F, Rf, df, Ob, Oc, O, st, r, C, h, On, hr => by
    unfold chk1 at h
    split at h
    · simp only [Option.ite_none_right_eq_some, Option.some.injEq, Bool.and_eq_true, Bool.not_eq_true'] at h
      obtain ⟨⟨⟨h1, h2⟩, h3⟩, rfl⟩ := h
      obtain rfl := hr _ rfl
      exact t_asg (C.at O) hb hk h1 h2 h3
    · cases h
  | .own i c, cf, X, po, F, Rf, df, Ob, Oc, O, st, r, C, h, On, hr => by
    unfold chk1 at h
    split at h
    · simp only [Option.ite_none_right_eq_some, Option.some.injEq, Bool.and_eq_true, Bool.not_eq_true'] at h
      obtain ⟨⟨⟨h1, h2⟩, h3⟩, rfl⟩ := h
      obtain rfl := hr _ rfl
      exact t_own (C.at O) hb hk h1 h2 h3
    · cases h
  | .asgT t c, cf, X, po, F, Rf, df, Ob, Oc, O, st, r, C, h, On, hr => by
    unfold chk1 at h
    split at h
    · simp only [Option.ite_none_right_eq_some, Option.some.injEq, Bool.and_eq_true, Bool.not_eq_true'] at h
      obtain ⟨⟨⟨⟨⟨⟨h1, h2⟩, h3⟩, h4⟩, h5⟩, h6⟩, rfl⟩ := h
      obtain rfl := hr _ rfl
      exact t_asgT (C.at O) h1 h2 h3 h4 h5 h6
    · cases h
  | .par t own a, cf, X, po, F, Rf, df, Ob, Oc, O, st, r, C, h, On, hr => by
    unfold chk1 at h
    split at h
    · simp only [Option.ite_none_right_eq_some, Option.some.injEq, Bool.and_eq_true, decide_eq_true_eq] at h
      obtain ⟨⟨⟨⟨⟨h1, h2⟩, h3⟩, h4⟩, h5⟩, rfl⟩ := h
      obtain rfl := hr _ rfl
      exact t_par (C.at O) hk h1 h2 h3 h4 h5
    · cases h
  | .aug i kk c, cf, X, po, F, Rf, df, Ob, Oc, O, st, r, C, h, On, hr => by
    unfold chk1 at h
    split at h
    · simp only [Option.ite_none_right_eq_some, Option.some.injEq, Bool.and_eq_true, decide_eq_true_eq] at h
      obtain ⟨⟨⟨⟨⟨h1, rfl⟩, h3⟩, h4⟩, h5⟩, rfl⟩ := h
      obtain rfl := hr _ rfl
      exact t_aug (C.at O) hb h1 (by cases kk <;> first | exact .inl rfl | exact .inr rfl | cases h3) h4 h5
    · cases h
  | .ext i c, cf, X, po, F, Rf, df, Ob, Oc, O, st, r, C, h, On, hr => by
    unfold chk1 at h
    split at h
    · simp only [Option.ite_none_right_eq_some, Option.some.injEq, Bool.and_eq_true, decide_eq_true_eq, Bool.not_eq_true'] at h
      obtain ⟨⟨⟨⟨⟨h1, rfl⟩, h3⟩, h4⟩, h5⟩, rfl⟩ := h
      obtain rfl := hr _ rfl
      exact t_ext (C.at O) hb h1 h3 h4 h5
    · cases h
  | .append i c, cf, X, po, F, Rf, df, Ob, Oc, O, st, r, C, h, On, hr => by
    unfold chk1 at h
    split at h
    · simp only [Option.ite_none_right_eq_some, Option.some.injEq, Bool.and_eq_true, decide_eq_true_eq, Bool.not_eq_true'] at h
      obtain ⟨⟨⟨⟨⟨⟨⟨rfl, h2⟩, h3⟩, h4⟩, h5⟩, h6⟩, h7⟩, rfl⟩ := h
      obtain rfl := hr _ rfl
      exact t_append (C.at O) h2 h3 h4 (by simpa [chkE] using h5) h6 h7
    · cases h
  | .setI i ix c, cf, X, po, F, Rf, df, Ob, Oc, O, st, r, C, h, On, hr => by
    unfold chk1 at h
    split at h
    · simp only [Option.ite_none_right_eq_some, Option.some.injEq, Bool.and_eq_true, decide_eq_true_eq, Bool.not_eq_true'] at h
      obtain ⟨⟨⟨⟨⟨⟨⟨h1, h2⟩, h3⟩, h4⟩, h5⟩, h6⟩, h7⟩, rfl⟩ := h
      obtain rfl := hr _ rfl
      exact t_setI (C.at O) h1 h2 h3 h4 h5 h6 h7
    · cases h
  | .expr c, cf, X, po, F, Rf, df, Ob, Oc, O, st, r, C, h, On, hr => by
    unfold chk1 at h
    split at h
    · simp only [Option.ite_none_right_eq_some, Option.some.injEq, Bool.and_eq_true] at h
      obtain ⟨⟨h1, h2⟩, rfl⟩ := h
      obtain rfl := hr _ rfl
      exact t_expr (C.at O) h1 h2
    · cases h
  | .ite c t f, cf, X, po, F, Rf, df, Ob, Oc, O, st, r, C, h, On, hr => by
    unfold chk1 at h
    split at h
    · rename_i v a b pos
      simp only [Option.ite_none_right_eq_some] at h
      obtain ⟨h1, h2⟩ := h
      cases ea : chkB G Ob Oc t O a with
      | none => rw [ea] at h2; cases eb : chkB G Ob Oc f O b <;> rw [eb] at h2 <;> simp at h2
      | some ra =>
        cases eb : chkB G Ob Oc f O b with
        | none => rw [ea, eb] at h2; cases ra <;> simp at h2
        | some rb =>
          rw [ea, eb] at h2
          have key : (∀ O', ra = some O' → O' = On) ∧ ∀ O', rb = some O' → O' = On := by
            cases ra with
            | none =>
              simp only [Option.some.injEq] at h2
              subst h2
              exact ⟨fun _ q => (nomatch q), hr⟩
            | some O1 =>
              cases rb with
              | none =>
                simp only [Option.some.injEq] at h2
                subst h2
                exact ⟨hr, fun _ q => (nomatch q)⟩
              | some O2 =>
                simp only [Option.ite_none_right_eq_some, Option.some.injEq] at h2
                obtain ⟨rfl, rfl⟩ := h2
                exact ⟨hr, hr⟩
          exact t_ite (C.at O) h1 (sB hb hk t cf X po F Rf df Ob Oc O a ra C ea On key.1) (sB hb hk f cf X po F Rf df Ob Oc O b rb C eb On key.2)
    · cases h
  | .forS t src b, cf, X, po, F, Rf, df, Ob, Oc, O, st, r, C, h, On, hr => by
    unfold chk1 at h
    split at h
    · rename_i tg it body pos
      simp only [Option.ite_none_right_eq_some, Bool.and_eq_true, Bool.not_eq_true'] at h
      obtain ⟨⟨⟨⟨⟨h1, h2⟩, h3⟩, h4⟩, h5⟩, h6⟩ := h
      have hS : ∀ i ∈ slots t, i ∉ O := fun i hi => by
        have := List.all_eq_true.mp h5 i hi
        simpa using this
      cases eb : chkB G O O b O body with
      | none => rw [eb] at h6; cases h6
      | some rb =>
        rw [eb] at h6
        have key : r = some O ∧ ∀ O', rb = some O' → O' = O := by
          cases rb with
          | none =>
            simp only [Option.some.injEq] at h6
            exact ⟨h6.symm, fun _ q => (nomatch q)⟩
          | some O1 =>
            simp only [Option.ite_none_right_eq_some, Option.some.injEq] at h6
            obtain ⟨rfl, h6⟩ := h6
            exact ⟨h6.symm, fun _ q => (Option.some.inj q).symm⟩
        obtain ⟨rfl, k2⟩ := key
        obtain rfl := hr _ rfl
        exact t_for (C.at _) po h1 h2 h3 h4 hS fun Rf df => sB hb hk b cf X po F Rf df _ _ _ body rb C eb _ k2
    · cases h
  | .whileS n c b, cf, X, po, F, Rf, df, Ob, Oc, O, st, r, C, h, On, hr => by
    unfold chk1 at h
    split at h
    · rename_i v body pos
      simp only [Option.ite_none_right_eq_some] at h
      obtain ⟨h1, h6⟩ := h
      cases eb : chkB G O O b O body with
      | none => rw [eb] at h6; cases h6
      | some rb =>
        rw [eb] at h6
        have key : r = some O ∧ ∀ O', rb = some O' → O' = O := by
          cases rb with
          | none =>
            simp only [Option.some.injEq] at h6
            exact ⟨h6.symm, fun _ q => (nomatch q)⟩
          | some O1 =>
            simp only [Option.ite_none_right_eq_some, Option.some.injEq] at h6
            obtain ⟨rfl, h6⟩ := h6
            exact ⟨h6.symm, fun _ q => (Option.some.inj q).symm⟩
        obtain ⟨rfl, k2⟩ := key
        obtain rfl := hr _ rfl
        exact t_while (C.at _) po h1 (sB hb hk b cf X po F Rf df _ _ _ body rb C eb _ k2)
    · cases h
  | .ret c, cf, X, po, F, Rf, df, Ob, Oc, O, st, r, C, h, On, hr => by
    unfold chk1 at h
    split at h
    · simp only [Option.ite_none_right_eq_some, Bool.and_eq_true, Bool.not_eq_true'] at h
      exact t_ret (C.at O) h.1.1 h.1.2
    · cases h
  | .brk, cf, X, po, F, Rf, df, Ob, Oc, O, st, r, C, h, On, hr => by
    unfold chk1 at h
    split at h
    · simp only [Option.ite_none_right_eq_some] at h
      obtain ⟨rfl, _⟩ := h
      exact t_brk
    · cases h
  | .cont, cf, X, po, F, Rf, df, Ob, Oc, O, st, r, C, h, On, hr => by
    unfold chk1 at h
    split at h
    · simp only [Option.ite_none_right_eq_some] at h
      obtain ⟨rfl, _⟩ := h
      exact t_cont
    · cases h
  | .raise c, cf, X, po, F, Rf, df, Ob, Oc, O, st, r, C, h, On, hr => by
    unfold chk1 at h
    split at h
    · simp only [Option.ite_none_right_eq_some, Bool.and_eq_true, decide_eq_true_eq] at h
      obtain ⟨⟨⟨⟨h1, h2⟩, rfl⟩, h4⟩, _⟩ := h
      exact t_raise (C.at O) h1 h2 h4
    · cases h
  | .appR rx c, cf, X, po, F, Rf, df, Ob, Oc, O, st, r, C, h, On, hr => by
    unfold chk1 at h
    split at h
    · simp only [Option.ite_none_right_eq_some, Option.some.injEq, Bool.and_eq_true, decide_eq_true_eq, Bool.not_eq_true'] at h
      obtain ⟨⟨⟨⟨⟨⟨⟨rfl, h2⟩, h3⟩, h4⟩, h5⟩, h6⟩, h7⟩, rfl⟩ := h
      obtain rfl := hr _ rfl
      exact t_appR (C.at _) h2 h3 h4 h5 h6 h7
    · cases h
  | .setR i ix c, cf, X, po, F, Rf, df, Ob, Oc, O, st, r, C, h, On, hr => by
    unfold chk1 at h
    split at h
    · simp only [Option.ite_none_right_eq_some, Option.some.injEq, Bool.and_eq_true, decide_eq_true_eq, Bool.not_eq_true'] at h
      obtain ⟨⟨⟨⟨⟨⟨⟨h1, h2⟩, h3⟩, h4⟩, h5⟩, h6⟩, h7⟩, rfl⟩ := h
      obtain rfl := hr _ rfl
      exact t_setR (C.at _) h1 h2 h3 h4 h5 h6 h7
    · cases h
  | .tryS b i j, cf, X, po, F, Rf, df, Ob, Oc, O, st, r, C, h, On, hr => by
    unfold chk1 at h
    split at h
    · rename_i body x px n m pm n' pn ps pe pos
      simp only [Option.ite_none_right_eq_some, Bool.and_eq_true, decide_eq_true_eq] at h
      obtain ⟨⟨⟨⟨⟨⟨⟨⟨⟨⟨⟨h1, rfl⟩, rfl⟩, h4⟩, rfl⟩, h6⟩, h7⟩, h8⟩, h9⟩, h10⟩, h11⟩, h⟩ := h
      cases eb : chkB G Ob Oc b [] body with
      | none => rw [eb] at h; cases h
      | some rb =>
        rw [eb] at h
        have key : r = some [] ∧ ∀ O', rb = some O' → O' = [] := by
          cases rb with
          | none =>
            simp only [Option.some.injEq] at h
            exact ⟨h.symm, fun _ q => (nomatch q)⟩
          | some O1 =>
            simp only [Option.ite_none_right_eq_some, Option.some.injEq] at h
            obtain ⟨rfl, h⟩ := h
            exact ⟨h.symm, fun _ q => (Option.some.inj q).symm⟩
        obtain ⟨rfl, k2⟩ := key
        obtain rfl := hr _ rfl
        exact t_try (C.at _) F h1 h4 h6 h7 h8 h9 h10 h11 fun W pn xe C' po' => sB hb hk b _ (X.tr pn xe) po' ⟨F.stk, F.fr, F.ex⟩ Rf df Ob Oc [] body rb ⟨C'.sc, C'.N, C'.nd, C'.calm, C'.room, C'.fn, C'.fns, C'.free, C'.cons, C'.tk, C'.excs⟩ eb [] k2
    · cases h
  | .frz _, _, _, _, _, _, _, _, _, _, _, _, _, h, _, _ => by simp [chk1] at h
  | .nil, _, _, _, _, _, _, _, _, _, _, _, _, h, _, _ => by simp [chk1] at h
  | .seq _ _, _, _, _, _, _, _, _, _, _, _, _, _, h, _, _ => by simp [chk1] at h
  | .freeze _, _, _, _, _, _, _, _, _, _, _, _, _, h, _, _ => by simp [chk1] at h
  | .dupd _ _ _ _, _, _, _, _, _, _, _, _, _, _, _, _, h, _, _ => by simp [chk1] at h
end
end BG

/-! BG.SoundF: defs keep the promise of the evaluator. -/
namespace BG
open PySem PySem.Spec PyProof.Rows L2

structure DefI where
  x : Str
  f : Nat
  st : Stmt
  N : List Str
  ps : List Str
  b : Sx
structure Stat where
  fns : List (Str × Nat × Nat)
  free : List Str
  cons : List (Str × Val)
  excs : List Nat
def gcOf (S : Stat) (d : DefI) : GC := { N := d.N, sc := defScope d.st, blk := none, O := [], fns := S.fns, free := S.free, cons := S.cons, excs := S.excs }
def scOk (d : DefI) : Bool := decide ((defScope d.st).kind = .function) && !(defScope d.st).isCoroutine && !(defScope d.st).isGenerator && decide (d.N.Nodup) && decide (d.N.take d.ps.length = d.ps) &&
  (d.ps.all fun x => decide ((defScope d.st).names.lookup x = some .local) || decide ((defScope d.st).names.lookup x = some .cell)) && ((defScope d.st).names.all fun y => !decide (y.2 = .free))
def defOk (S : Stat) (d : DefI) : Bool := scOk d && (chkB (gcOf S d) [] [] d.b [] (defBody d.st)).isSome
theorem scOk_scope {d : DefI} (h : scOk d = true) : FnScope d.N d.ps (defScope d.st) := by
  simp only [scOk, Bool.and_eq_true, decide_eq_true_eq, Bool.not_eq_true', List.all_eq_true, Bool.or_eq_true, decide_eq_false_iff_not] at h
  obtain ⟨⟨⟨⟨⟨⟨h1, h2⟩, h3⟩, h4⟩, h5⟩, h6⟩, h7⟩ := h
  exact ⟨h1, h2, h3, h4, h5, h6, fun y hy => h7 y hy⟩
theorem rel_start {K : PySem.W.Frag} {N : List Str} {vs : List V} {ds : List Val} {s : DSt} {dr : Dr} {R H : Hp} (sb : Sub R H) (dk : DrOk K dr s R H) (r : RpAll K dr R vs ds) : Rel K [] (ds.map some ++ List.replicate (N.length - ds.length) none) s dr R (L2.start N vs) H where
  sub := sb
  len := by unfold L2.start; simp [r.len]
  val := fun i d h => by
    by_cases q : i < ds.length
    · rw [List.getElem?_append_left (by simpa using q), List.getElem?_map] at h
      cases e : ds[i]? with
      | none => rw [e] at h; simp at h
      | some d' =>
        rw [e] at h
        simp only [Option.map_some, Option.some.injEq] at h
        subst h
        obtain ⟨v, h1, h2⟩ := r.getD e
        refine ⟨v, ?_, by rw [if_neg (by simp)]; exact h2⟩
        unfold L2.start
        rw [List.getElem?_append_left (by rw [List.length_map, r.len]; exact q), List.getElem?_map, h1]
        rfl
    · rw [List.getElem?_append_right (by simpa using q), List.getElem?_replicate] at h
      split at h <;> simp at h
  dist := fun i j a d d' hi => nomatch hi
  drok := dk

section
variable {P : Program} {w : World} {K : PySem.W.Frag} {mg : Str → Option Value} {base : Heap} {S : Stat} {tb : Nat → Option Fn}
/-- what is known of the names -/
structure Known (P : Program) (w : World) (K : PySem.W.Frag) (mg : Str → Option Value) (base : Heap) (S : Stat) (cf : Nat → List Val → DSt → Out Val) (n : Nat) : Prop where
  fns : ∀ p ∈ S.fns, ∃ f fd ps, ps.length = p.2.2 ∧ FnOk P w K mg base (L2.CX P w) n f fd ps (spOf K p.2.2 (cf p.2.1)) ∧ mg p.1 = some (.ref f) ∧ PySem.W.keepIn K (.ref f) = true ∧ Binds K fd ps []
  free : ∀ x ∈ S.free, mg x = none
  cons : ∀ p ∈ S.cons, ∃ u v, mg p.1 = some u ∧ RelV v u ∧ ∀ dr R, Rp K dr R v p.2
  excs : ∀ c ∈ S.excs, XOk K mg S.excs c
theorem code_ok {d : DefI} {q : Str} {fa : Addr} {fd : FuncData} {cf : Nat → List Val → DSt → Out Val} {n : Nat} (F : FunD K d.x q (defArgs d.st) (defBody d.st) (defScope d.st) [] [] fa fd) (hd : defOk S d = true) (Kn : Known P w K mg base S cf n) :
    FnOk P w K mg base (L2.CX P w) (n + 1) fa fd d.ps (spOf K d.ps.length fun xs s => runBody cf d.ps.length d.N.length d.b xs s) := by
  simp only [defOk, Bool.and_eq_true] at hd
  have sc := scOk_scope hd.1
  refine F.ok sc (fun vs H Q E h => by obtain ⟨_, _, _, _, _, _, _, h, _⟩ := h; exact h) fun cdv A outer s0 H vs Q E hr h => ?_
  obtain ⟨ds, s, dr, R, sb, dk, rp, hl, bh⟩ := h
  obtain ⟨r, er⟩ := Option.isSome_iff_exists.mp hd.2
  let X := cxOf (L2.CX P w) P w K mg base d.N q (defScope d.st) fa cdv A outer s0 H E
  let c0 : CF := ⟨cf, fun c _ H' => E (.ref (xcA K c)) none H'⟩
  have tk : Takes X (fun cls d _ H => E cls d H) := takes_of rfl rfl rfl rfl
  have C : Cok X (gcOf S d) c0 n := ⟨rfl, rfl, sc.nd, rfl, hr, fun _ _ => rfl, Kn.fns, Kn.free, Kn.cons, tk.imp fun cls d σ H ⟨c, e1, e2, w⟩ => by subst e1 e2; exact w, Kn.excs⟩
  let On : List Nat := r.getD []
  have hOn : ∀ O', r = some O' → O' = On := fun O' e => by
    subst e
    rfl
  have T := sB (B := ⟨H, R, dr⟩) (G := gcOf S d) rfl sc.kind d.b c0 X (passes_of rfl) ⟨rfl, rfl, rfl⟩ R dr [] [] [] (defBody d.st) r C er On hOn
  refine ⟨_, T, ds.map some ++ List.replicate (d.N.length - ds.length) none, s, dr, R, ⟨rel_start sb dk rp, Grow.refl _ _ _, Sub.refl _, DrLe.refl _, fun i hi => nomatch hi⟩, ?_⟩
  have ld : ds.length = d.ps.length := by rw [← rp.len]; exact hl
  simp only [runBody] at bh
  rw [if_pos ld] at bh
  rw [ld]
  show EndP K c0.xw _ _ _ _ _ _ _ (exec cf d.b (ds.map some ++ List.replicate (d.N.length - d.ps.length) none) s)
  cases ex : exec cf d.b (ds.map some ++ List.replicate (d.N.length - d.ps.length) none) s with
  | next e1 s1 =>
    rw [ex] at bh
    exact fun σ1 dr1 R1 H1 r1 => bh dr1 R1 H1 r1.gr r1.rel.sub r1.rel.drok _ .non
  | ret v s1 =>
    rw [ex] at bh
    exact fun w1 dr1 R1 H1 g sb dk rv => bh dr1 R1 H1 g sb dk w1 rv
  | brk e1 s1 => rw [ex] at bh; exact bh.elim
  | cont e1 s1 => rw [ex] at bh; exact bh.elim
  | exc c e1 s1 =>
    rw [ex] at bh
    exact fun σ1 dr1 R1 H1 r1 => bh dr1 R1 H1 r1.gr r1.rel.sub r1.rel.drok
  | bad => rw [ex] at bh; exact bh.elim
/-- a def of the text; a def by hand -/
structure CodeF (K : PySem.W.Frag) (mg : Str → Option Value) (tb : Nat → Option Fn) (S : Stat) (d : DefI) : Prop where
  tb : tb d.f = some (.code d.ps.length d.N.length d.b)
  ok : defOk S d = true
  ex : ∃ q fa fd, FunD K d.x q (defArgs d.st) (defBody d.st) (defScope d.st) [] [] fa fd ∧ mg d.x = some (.ref fa) ∧ Binds K fd d.ps []
structure PrimF (P : Program) (w : World) (K : PySem.W.Frag) (mg : Str → Option Value) (base : Heap) (tb : Nat → Option Fn) (p : Str × Nat × Nat) : Prop where
  ex : ∃ F f fd ps, tb p.2.1 = some (.prim F) ∧ ps.length = p.2.2 ∧ FnOk P w K mg base (L2.CX P w) 1 f fd ps (spOf K p.2.2 F) ∧ mg p.1 = some (.ref f) ∧ PySem.W.keepIn K (.ref f) = true ∧ Binds K fd ps []
theorem all_ok (hS : ∀ p ∈ S.fns, (∃ d : DefI, p = (d.x, d.f, d.ps.length) ∧ CodeF K mg tb S d) ∨ PrimF P w K mg base tb p) (hf : ∀ x ∈ S.free, mg x = none) (hc : ∀ p ∈ S.cons, ∃ u v, mg p.1 = some u ∧ RelV v u ∧ ∀ dr R, Rp K dr R v p.2) (he : ∀ c ∈ S.excs, XOk K mg S.excs c) : ∀ n, Known P w K mg base S (run tb n) n
  | 0 => ⟨fun p hp => by
      have bad : ∀ vs H Q E, ¬ spOf K p.2.2 (run tb 0 p.2.1) vs H Q E := fun vs H Q E ⟨ds, s, dr, R, _, _, _, _, bh⟩ => bh
      have mk : ∀ (f : Addr) (fd : FuncData) (ps : List Str), FnOk P w K mg base (L2.CX P w) 0 f fd ps (spOf K p.2.2 (run tb 0 p.2.1)) := fun f fd ps => ⟨fun vs H Q E h => (bad _ _ _ _ h).elim, fun A outer s H args us vs Q E _ _ _ _ h => (bad _ _ _ _ h).elim⟩
      rcases hS p hp with ⟨d, rfl, c⟩ | c
      · obtain ⟨q, fa, fd, F, g, b⟩ := c.ex
        exact ⟨fa, fd, d.ps, rfl, mk _ _ _, g, F.kp, b⟩
      · obtain ⟨F, f, fd, ps, _, hl, _, g, kp, b⟩ := c.ex
        exact ⟨f, fd, ps, hl, mk _ _ _, g, kp, b⟩, hf, hc, he⟩
  | n + 1 => ⟨fun p hp => by
      have ih := all_ok hS hf hc he n
      rcases hS p hp with ⟨d, rfl, c⟩ | c
      · obtain ⟨q, fa, fd, F, g, b⟩ := c.ex
        refine ⟨fa, fd, d.ps, rfl, ?_, g, F.kp, b⟩
        have e : run tb (n + 1) d.f = fun xs s => runBody (run tb n) d.ps.length d.N.length d.b xs s := by
          funext xs s
          unfold run
          rw [c.tb]
        show FnOk P w K mg base (L2.CX P w) (n + 1) fa fd d.ps (spOf K d.ps.length (run tb (n + 1) d.f))
        rw [e]
        exact code_ok F c.ok ih
      · obtain ⟨F, f, fd, ps, ht, hl, fo, g, kp, b⟩ := c.ex
        refine ⟨f, fd, ps, hl, ?_, g, kp, b⟩
        have e : run tb (n + 1) p.2.1 = F := by
          funext xs s
          unfold run
          rw [ht]
        rw [e]
        exact fo.mono (by omega), hf, hc, he⟩
end
end BG

/-! BG.SoundD: the law's own two helpers, over any row. Printed by mkdraw.py. -/
namespace BG
open PySem PySem.Spec PyProof.Rows L2
abbrev drawB (p1 p2 p3 p4 p5 p6 p7 p8 p9 p10 p11 p12 p13 p14 p15 p16 p17 p18 p19 p20 p21 p22 p23 p24 p25 p26 p27 p28 p29 p30 p31 p32 p33 p34 p35 p36 p37 p38 p39 p40 p41 p42 p43 p44 p45 p46 p47 p48 p49 p50 p51 p52 p53 p54 p55 p56 p57 p58 p59 p60 p61 p62 p63 p64 p65 p66 p67 p68 p69 p70 p71 p72 p73 p74 p75 : Pos) (k1 k2 k3 k4 k5 k6 k7 k8 k9 k10 k11 k12 k13 k14 k15 : Nat) : List Stmt :=
  [.Assign [(.Name "numbers" p1)] (.Subscript (.Name "draws" p2) (.Constant (.int 0) k1 p3) p4) p5,
   .Assign [(.Subscript (.Name "draws" p6) (.Constant (.int 1) k2 p7) p8)] (.BinOp (.Subscript (.Name "draws" p9) (.Constant (.int 1) k3 p10) p11) .Add (.Constant (.int 1) k4 p12) p13) p14,
   .Assign [(.Name "at" p15)] (.BinOp (.Subscript (.Name "draws" p16) (.Constant (.int 1) k5 p17) p18) .Mod (.Call (.Name "len" p20) [(.Name "numbers" p19)] [] p21) p22) p23,
   .Assign [(.Name "cell" p24)] (.Subscript (.Name "numbers" p25) (.Name "at" p26) p27) p28,
   .If (.Compare (.Name "cell" p29) [.GtE] [(.Constant (.int 1000000000000000000) k6 p30)] p31) [.Assign [(.Subscript (.Name "numbers" p32) (.Name "at" p33) p34)] (.BinOp (.Name "cell" p35) .FloorDiv (.Name "limit" p36) p37) p38, .Return (some (.BinOp (.Name "cell" p39) .Mod (.Name "limit" p40) p41)) p42] [] p43,
   .Assign [(.Name "mixed" p44)] (.BinOp (.BinOp (.Name "cell" p45) .Add (.BinOp (.Constant (.int 104729) k7 p46) .Mult (.Subscript (.Name "draws" p47) (.Constant (.int 1) k8 p48) p49) p50) p51) .Mod (.Constant (.int 4294967291) k9 p52) p53) p54,
   .Assign [(.Name "mixed" p55)] (.BinOp (.BinOp (.Name "mixed" p56) .Pow (.Constant (.int 5) k10 p57) p58) .Mod (.Constant (.int 4294967279) k11 p59) p60) p61,
   .Return (some (.BinOp (.BinOp (.BinOp (.BinOp (.BinOp (.BinOp (.Name "mixed" p62) .FloorDiv (.Constant (.int 64) k12 p63) p64) .Mult (.Constant (.int 69621) k13 p65) p66) .Add (.Name "mixed" p67) p68) .Mod (.Constant (.int 4294967231) k14 p69) p70) .FloorDiv (.Constant (.int 8) k15 p71) p72) .Mod (.Name "limit" p73) p74)) p75]
abbrev startB (p1 p2 p3 p4 p5 p6 p7 p8 p9 p10 p11 p12 : Pos) (k1 k2 : Nat) : List Stmt :=
  [.Return (some (.List [(.IfExp (.Compare (.Name "script" p1) [.NotEq] [(.List [] p2)] p3) (.Call (.Name "list" p5) [(.Name "script" p4)] [] p6) (.List [(.Constant (.int 0) k1 p7)] p8) p9), (.Constant (.int 0) k2 p10)] p11)) p12]
theorem vis_par' {N P : List Str} {sc : Scope} (S : FnScope N P sc) {x : Str} (h : x ∈ P) : Vis sc x := by
  rcases S.par x h with e | e
  · exact Or.inl e
  · exact Or.inr (Or.inl e)
theorem atI_nat {α : Type} {xs : List α} {j : Nat} {v : α} {i : Int} (hi : i = j) (h : xs[j]? = some v) : atI xs i = some v := by
  subst hi
  have hj := (List.getElem?_eq_some_iff.mp h).1
  unfold atI ixN
  rw [if_pos (by omega), if_pos (by omega)]
  exact h
theorem ixN_nat {n j : Nat} {i : Int} (hi : i = j) (h : j < n) : ixN n i = some j := by
  subst hi
  unfold ixN
  rw [if_pos (by omega), if_pos (by omega)]
  rfl
theorem grow_dr {K : PySem.W.Frag} {dr : Dr} {a b : Addr} {R H : Hp} {xs ys : List V} {us vs : List V} (ha : H a = some (.lst us)) (hb : H b = some (.lst vs)) (ra : R a = none) (rb : R b = none) (sb : Sub R H) (hd : dr.dw = some (a, b)) :
    Grow dr dr R R H (upd (upd H a (.lst xs)) b (.lst ys)) ∧ Sub R (upd (upd H a (.lst xs)) b (.lst ys)) := by
  refine ⟨⟨Sub.refl R, fun c o h n => (by rw [h] at n; cases n), fun c o h n => ?_, fun c h => ?_, DrLe.refl _, fun c n m => absurd n m⟩, fun c o h => ?_⟩
  · obtain ⟨n1, n2⟩ := n.dw _ hd
    rw [upd_ne n2, upd_ne n1]
    exact h
  · by_cases z : c = b
    · rw [z, upd_same] at h; cases h
    · rw [upd_ne z] at h
      by_cases z2 : c = a
      · rw [z2, upd_same] at h; cases h
      · rwa [upd_ne z2] at h
  · rw [upd_ne (ne_of_none h rb), upd_ne (ne_of_none h ra)]
    exact sb c o h
theorem grow_dr1 {K : PySem.W.Frag} {dr : Dr} {a b : Addr} {R H : Hp} {xs us : List V} (ha : H a = some (.lst us)) (ra : R a = none) (sb : Sub R H) (hd : dr.dw = some (a, b)) :
    Grow dr dr R R H (upd H a (.lst xs)) ∧ Sub R (upd H a (.lst xs)) := by
  refine ⟨⟨Sub.refl R, fun c o h n => (by rw [h] at n; cases n), fun c o h n => ?_, fun c h => ?_, DrLe.refl _, fun c n m => absurd n m⟩, fun c o h => ?_⟩
  · obtain ⟨n1, n2⟩ := n.dw _ hd
    rw [upd_ne n1]
    exact h
  · by_cases z2 : c = a
    · rw [z2, upd_same] at h; cases h
    · rwa [upd_ne z2] at h
  · rw [upd_ne (ne_of_none h ra)]
    exact sb c o h
theorem DrOk.draw {K : PySem.W.Frag} {dr : Dr} {a b : Addr} {R H H' : Hp} {ns ns' : List Int} {c c' : Int} {st : List (Option Val)} (dk : DrOk K dr ⟨some (ns, c), st⟩ R H) (hd : dr.dw = some (a, b)) (h1 : H' a = some (.lst [.ref b, .int c'])) (h2 : H' b = some (.lst (ns'.map V.int))) (hk : ∀ x, x ≠ a → x ≠ b → H' x = H x) (hab : a ≠ b) (ra : R a = none) (rb : R b = none) : DrOk K dr ⟨some (ns', c'), st⟩ R H' where
  dw := by
    show DwOk dr.dw (some (ns', c')) R H'
    rw [hd]
    exact ⟨h1, h2, hab, ra, rb⟩
  len := dk.len
  inj := dk.inj
  sep := dk.sep
  cel := fun i x q => by
    obtain ⟨d, o, c1, c2, c3, c4⟩ := dk.cel i x q
    obtain ⟨n1, n2⟩ := dk.sep i x _ q hd
    exact ⟨d, o, c1, c2, by rw [hk x n1 n2]; exact c3, c4⟩
  ded := dk.ded
theorem set_getD {ns : List Int} {j : Nat} (h : j < ns.length) : ns.set j (ns.getD j 0) = ns := by
  apply List.ext_getElem?
  intro i
  rw [List.getElem?_set]
  split
  · rename_i e
    subst e
    rw [List.getD_eq_getElem?_getD, List.getElem?_eq_getElem h]
    simp [h]
  · rfl
theorem shaped_ints (ns : List Int) : SeqAt.shaped (.list (ns.map PyData.int)) = true := by
  have h1 : ∀ ns : List Int, PyData.canLayAll0 (ns.map PyData.int) = true := fun ns => by
    induction ns with
    | nil => rfl
    | cons n ns ih => simp [PyData.canLayAll0, PyData.canLay0, ih]
  have h2 : ∀ ns : List Int, PyData.depthAll (ns.map PyData.int) = 0 := fun ns => by
    induction ns with
    | nil => rfl
    | cons n ns ih => simp [PyData.depthAll, PyData.depth, ih]
  simp [SeqAt.shaped, PyData.canLay0, PyData.depth, h1, h2]
theorem small_mixed (m : Int) (h : 0 ≤ m) (h2 : m < 4294967291) : CPow m 5 := ⟨by decide, by decide, by omega⟩
theorem map_getD {ns : List Int} {j : Nat} (h : j < ns.length) : (ns.map V.int)[j]? = some (V.int (ns.getD j 0)) := by
  rw [List.getElem?_map, List.getElem?_eq_getElem h, List.getD_eq_getElem?_getD, List.getElem?_eq_getElem h]
  rfl
section
variable {P : Program} {w : World} {K : PySem.W.Frag} {mg : Str → Option Value} {base : Heap} {f : Addr} {fd : FuncData} {pa : Arguments} {bd : List Stmt} {sc : Scope} {q : Str}
theorem draw_ok {p1 p2 p3 p4 p5 p6 p7 p8 p9 p10 p11 p12 p13 p14 p15 p16 p17 p18 p19 p20 p21 p22 p23 p24 p25 p26 p27 p28 p29 p30 p31 p32 p33 p34 p35 p36 p37 p38 p39 p40 p41 p42 p43 p44 p45 p46 p47 p48 p49 p50 p51 p52 p53 p54 p55 p56 p57 p58 p59 p60 p61 p62 p63 p64 p65 p66 p67 p68 p69 p70 p71 p72 p73 p74 p75 : Pos} {k1 k2 k3 k4 k5 k6 k7 k8 k9 k10 k11 k12 k13 k14 k15 : Nat} (F : FunD K "_law_draw" q pa bd sc [] [] f fd) (S : FnScope ["draws", "limit", "numbers", "at", "cell", "mixed"] ["draws", "limit"] sc)
    (l2 : sc.names.lookup ("numbers" : Str) = some .local) (l3 : sc.names.lookup ("at" : Str) = some .local) (l4 : sc.names.lookup ("cell" : Str) = some .local) (l5 : sc.names.lookup ("mixed" : Str) = some .local) (hl : sc.names.lookup ("len" : Str) = some .globalImplicit)
    (hb : bd = drawB p1 p2 p3 p4 p5 p6 p7 p8 p9 p10 p11 p12 p13 p14 p15 p16 p17 p18 p19 p20 p21 p22 p23 p24 p25 p26 p27 p28 p29 p30 p31 p32 p33 p34 p35 p36 p37 p38 p39 p40 p41 p42 p43 p44 p45 p46 p47 p48 p49 p50 p51 p52 p53 p54 p55 p56 p57 p58 p59 p60 p61 p62 p63 p64 p65 p66 p67 p68 p69 p70 p71 p72 p73 p74 p75 k1 k2 k3 k4 k5 k6 k7 k8 k9 k10 k11 k12 k13 k14 k15) (mL : mg "len" = none) : FnOk P w K mg base L2.CX0 1 f fd ["draws", "limit"] (spOf K 2 pDraw) := by
  have v0 : Vis sc "draws" := vis_par' S (x := "draws") (by decide)
  have v1 : Vis sc "limit" := vis_par' S (x := "limit") (by decide)
  refine F.ok S (fun vs H Q E h => by obtain ⟨_, _, _, _, _, _, _, h, _⟩ := h; exact h) fun cdv A outer s0 H vs Q E hr h => ?_
  subst hb
  have D : ∀ {X : Cx} {i : Nat} {j : Int} {p1 p2 p3 : Pos} {k : Nat}, X.N[i]? = some ("draws" : Str) → Vis X.env.scope "draws" → PE X (.Subscript (.Name "draws" p1) (.Constant (.int j) k p2) p3) (tOp (rIx X.K) (tVar i) (tC (.int j))) := fun hN hv => pe_ix ix_seq (pe_var hN hv) pe_int fun _ _ => rfl
  apply Exists.intro
  apply And.intro
  · apply PSs.nox
    exact pss_cons (ps_set (i := 2) S.nd rfl (Or.inl l2) (D (i := 0) (j := 0) rfl v0))
      (pss_cons (ps_asg (pe_op op_add (D (i := 0) (j := 1) rfl v0) pe_int) (pg_sub (pe_var (i := 0) rfl v0) pe_int set_list))
      (pss_cons (ps_set (i := 3) S.nd rfl (Or.inl l3) (pe_op op_mod (D (i := 0) (j := 1) rfl v0) (pe_callB call_len hl mL boot_len (pa_cons (pe_var (i := 2) rfl (Or.inl l2)) pa_nil))))
      (pss_cons (ps_set (i := 4) S.nd rfl (Or.inl l4) (pe_ix ix_seq (pe_var (i := 2) rfl (Or.inl l2)) (pe_var (i := 3) rfl (Or.inl l3)) fun _ _ => rfl))
      (pss_cons (ps_if (pt_cmpR op_ge (pe_var (i := 4) rfl (Or.inl l4)) pe_int rfl)
        (pss_cons (ps_asg (pe_op op_fdiv (pe_var (i := 4) rfl (Or.inl l4)) (pe_var (i := 1) rfl v1)) (pg_sub (pe_var (i := 2) rfl (Or.inl l2)) (pe_var (i := 3) rfl (Or.inl l3)) set_list))
          (pss_one (ps_ret (pe_op op_mod (pe_var (i := 4) rfl (Or.inl l4)) (pe_var (i := 1) rfl v1))))) pss_nil)
      (pss_cons (ps_set (i := 5) S.nd rfl (Or.inl l5) (pe_op op_mod (pe_op op_add (pe_var (i := 4) rfl (Or.inl l4)) (pe_op op_mul pe_int (D (i := 0) (j := 1) rfl v0))) pe_int))
      (pss_cons (ps_set (i := 5) S.nd rfl (Or.inl l5) (pe_op op_mod (pe_op op_pow (pe_var (i := 5) rfl (Or.inl l5)) pe_int) pe_int))
      (pss_one (ps_ret (pe_op op_mod (pe_op op_fdiv (pe_op op_mod (pe_op op_add (pe_op op_mul (pe_op op_fdiv (pe_var (i := 5) rfl (Or.inl l5)) pe_int) pe_int) (pe_var (i := 5) rfl (Or.inl l5))) pe_int) pe_int) (pe_var (i := 1) rfl v1))))))))))
  obtain ⟨ds, s, dr, R, sb, dk, rp, hl2, bh⟩ := h
  unfold pDraw at bh
  split at bh
  case h_2 => exact bh.elim
  rename_i limit ns c st
  split at bh
  case isFalse => exact bh.elim
  rename_i hc
  obtain ⟨c1, c2, c3, c4, c5⟩ := hc
  cases rp with
  | cons r1 rr =>
  cases rr with
  | cons r2 r0 =>
  cases r0
  cases r2
  cases r1 with
  | drw hd =>
  rename_i a b
  have dk0 := dk
  have dw := dk.dw
  rw [hd] at dw
  obtain ⟨ha, hbb, hab, ra, rb⟩ := dw
  have sa : ∀ {H' : Hp} {x : Addr} {xs : List V}, H' x = some (.lst xs) → SqL K H' x xs := fun e => .inl (.inl e)
  -- the heap behind draws[1] = ..
  let H1 := upd H a (.lst [.ref b, .int (c + 1)])
  have h1a : H1 a = some (.lst [.ref b, .int (c + 1)]) := upd_same
  have h1b : H1 b = some (.lst (ns.map V.int)) := by show upd H a _ b = _; rw [upd_ne (fun e => hab e.symm)]; exact hbb
  let j := ((c + 1) % (ns.length : Int)).toNat
  have hj0 : 0 ≤ (c + 1) % (ns.length : Int) := Int.emod_nonneg _ (by omega)
  have hj1 : (c + 1) % (ns.length : Int) < (ns.length : Int) := Int.emod_lt_of_pos _ (by omega)
  have hj : (c + 1) % (ns.length : Int) = (j : Int) := (Int.toNat_of_nonneg hj0).symm
  have hjl : j < ns.length := by omega
  refine ⟨_, rfl, Or.inl ⟨a, _, 0, .ref b, rfl, rfl, sa ha, rfl, ?_⟩⟩
  refine ⟨_, rfl, Or.inl ⟨a, _, 1, .int c, rfl, rfl, sa ha, rfl, c, 1, rfl, rfl, ?_⟩⟩
  refine ⟨_, rfl, a, _, 1, 1, rfl, rfl, ha, rfl, ?_⟩
  refine ⟨_, rfl, Or.inl ⟨a, _, 1, .int (c + 1), rfl, rfl, sa h1a, rfl, ?_⟩⟩
  refine ⟨_, rfl, .ref b, (ns.map V.int).length, rfl, .inl ⟨_, sa h1b, rfl⟩, c + 1, ((ns.map V.int).length : Nat), rfl, rfl, by rw [List.length_map]; omega, ?_⟩
  rw [List.length_map]
  refine ⟨_, rfl, _, rfl, Or.inl ⟨b, _, (c + 1) % (ns.length : Int), .int (ns.getD j 0), rfl, rfl, sa h1b, atI_nat hj (map_getD hjl), ?_⟩⟩
  refine ⟨_, rfl, ns.getD j 0, 1000000000000000000, rfl, rfl, _, rfl, ?_⟩
  have gg : ns.getD (((c + 1) % (ns.length : Int)).toNat) 0 = ns.getD j 0 := rfl
  simp only [drawOf] at bh
  rw [gg] at bh
  have hset : ns.set j (ns.getD j 0) = ns := set_getD hjl
  generalize ns.getD j 0 = cell at bh hset ⊢
  show if (decide ((1000000000000000000 : Int) ≤ cell)) = true then _ else _
  by_cases big : cell ≥ 1000000000000000000
  · rw [if_pos big] at bh
    rw [if_pos (decide_eq_true big)]
    refine ⟨_, rfl, _, rfl, cell, limit, rfl, rfl, ⟨c1, by omega⟩, _, rfl, _, rfl, b, _, (c + 1) % (ns.length : Int), j, rfl, rfl, h1b, ixN_nat hj (by rw [List.length_map]; exact hjl), ?_⟩
    refine ⟨_, rfl, _, rfl, cell, limit, rfl, rfl, c1, ?_⟩
    have gr := grow_dr (K := K) (xs := [.ref b, .int (c + 1)]) (ys := (ns.map V.int).set j (.int (cell / limit))) ha hbb ra rb sb hd
    refine bh _ _ _ gr.1 gr.2 (dk0.draw hd ?_ ?_ (fun x n1 n2 => by rw [upd_ne n2, upd_ne n1]) hab ra rb) _ (.int _)
    · rw [upd_ne hab, upd_same]
    · rw [upd_same, List.map_set]
  · rw [if_neg big] at bh
    rw [if_neg (by simpa using big)]
    refine ⟨_, rfl, ⟨_, rfl, Or.inl ⟨a, _, 1, .int (c + 1), rfl, rfl, sa h1a, rfl, 104729, c + 1, rfl, rfl, Or.inl ⟨by decide, by decide⟩, cell, 104729 * (c + 1), rfl, rfl, _, _, rfl, rfl, (show (0 : Int) < 4294967291 by decide), ?_⟩⟩⟩
    refine ⟨_, rfl, (cell + 104729 * (c + 1)) % 4294967291, 5, rfl, rfl, small_mixed _ (Int.emod_nonneg _ (by decide)) (Int.emod_lt_of_pos _ (by decide)), _, _, rfl, rfl, (show (0 : Int) < 4294967279 by decide), ?_⟩
    refine ⟨_, rfl, _, _, rfl, rfl, ⟨by decide, by decide⟩, _, _, rfl, rfl, Or.inr ⟨by decide, by decide⟩, _, rfl, _, _, rfl, rfl, _, _, rfl, rfl, (show (0 : Int) < 4294967231 by decide), _, _, rfl, rfl, ⟨by decide, by decide⟩, _, rfl, _, limit, rfl, rfl, c1, ?_⟩
    have gr := grow_dr1 (K := K) (b := b) (xs := [.ref b, .int (c + 1)]) ha ra sb hd
    refine bh _ _ _ gr.1 gr.2 (dk0.draw hd h1a ?_ (fun x n1 n2 => by rw [upd_ne n1]) hab ra rb) _ (.int _)
    show H1 b = some (.lst ((ns.set j cell).map V.int))
    rw [hset]
    exact h1b
theorem start_ok {p1 p2 p3 p4 p5 p6 p7 p8 p9 p10 p11 p12 : Pos} {k1 k2 : Nat} (F : FunD K "_law_start" q pa bd sc [] [] f fd) (S : FnScope ["script"] ["script"] sc) (hl : sc.names.lookup ("list" : Str) = some .globalImplicit)
    (hb : bd = startB p1 p2 p3 p4 p5 p6 p7 p8 p9 p10 p11 p12 k1 k2) (mL : mg "list" = none) : FnOk P w K mg base L2.CX0 1 f fd ["script"] (spOf K 1 pStart) := by
  have v0 : Vis sc "script" := vis_par' S (x := "script") (by decide)
  refine F.ok S (fun vs H Q E h => by obtain ⟨_, _, _, _, _, _, _, h, _⟩ := h; exact h) fun cdv A outer s0 H vs Q E hr h => ?_
  subst hb
  have hu : (A.deeper (envOfC q sc s0.heap.objs.size f cdv)).units + 64 < cLine := hr.units
  apply Exists.intro
  apply And.intro
  · apply PSs.nox
    exact pss_one (ps_ret (pe_lst (pa_cons (pe_ifExp (pt_cmpR (op_neD hu) (pe_var (i := 0) rfl v0) (pe_lst pa_nil) rfl) (pe_callTy call_list_of hl mL (bi_boot .list) (pa_cons (pe_var (i := 0) rfl v0) pa_nil)) (pe_lst (pa_cons pe_int pa_nil))) (pa_cons pe_int pa_nil))))
  obtain ⟨ds, s, dr, R, sb, dk, rp, hl2, bh⟩ := h
  unfold pStart at bh
  split at bh
  case h_2 => exact bh.elim
  rename_i ns st
  cases rp with
  | cons r1 rr =>
  cases rr
  cases r1 with
  | scr hs =>
  rename_i a
  have drn : dr.dw = none := by
    have dw := dk.dw
    cases e : dr.dw with
    | none => rfl
    | some p => rw [e] at dw; exact dw.elim
  have fin : ∀ (H0 : Hp) (p b q : Addr) (ms : List Int), H p = none → H0 = upd (upd H p (.lst [])) b (.lst (ms.map V.int)) → (upd H p (.lst [])) b = none → H0 q = none → (if ns = [] then [0] else ns) = ms → Q (.ref q) (upd H0 q (.lst [.ref b, .int 0])) := by
    intro H0 p b q ms hp e0 hb hq em
    subst e0
    have rp : ∀ {x : Addr}, H x = none → R x = none := fun {x} h => by
      cases e : R x with
      | none => rfl
      | some u => rw [sb x u e] at h; cases h
    have hqb : q ≠ b := fun e => by subst e; rw [upd_same] at hq; cases hq
    have hqp : q ≠ p := fun e => by
      subst e
      by_cases z : q = b
      · exact hqb z
      · rw [upd_ne z, upd_same] at hq; cases hq
    have hbp : b ≠ p := fun e => by subst e; rw [upd_same] at hb; cases hb
    have hHq : H q = none := by rwa [upd_ne hqb, upd_ne hqp] at hq
    have hHb : H b = none := by rwa [upd_ne hbp] at hb
    have big : ∀ c o, H c = some o → (upd (upd (upd H p (.lst [])) b (.lst (ms.map V.int))) q (.lst [.ref b, .int 0])) c = some o := fun c o h => by
      rw [upd_ne (ne_of_none h hHq), upd_ne (ne_of_none h hHb), upd_ne (ne_of_none h hp)]
      exact h
    have nq : ∀ {x : Addr} (i : Nat), dr.cs[i]? = some (some x) → x ≠ q ∧ x ≠ b := fun {x} i e => by
      obtain ⟨d, o, _, _, c3, _⟩ := dk.cel i x e
      exact ⟨ne_of_none c3 hHq, ne_of_none c3 hHb⟩
    have dl : DrLe dr ⟨some (q, b), dr.cs⟩ := ⟨fun p e => (by rw [drn] at e; cases e), Nat.le_refl _, fun _ _ _ e => e⟩
    refine bh ⟨some (q, b), dr.cs⟩ R _ ⟨Sub.refl R, fun c o h n => (by rw [h] at n; cases n), fun c o h _ => big c o h, fun c h => ?_, dl, fun c n m => ?_⟩ (fun c o h => big c o (sb c o h)) ⟨⟨upd_same, ?_, hqb, rp hHq, rp hHb⟩, dk.len, dk.inj, fun i x p' e1 e2 => ?_, fun i x e => ?_, dk.ded⟩ _ (.drw rfl)
    · cases e : H c with
      | none => rfl
      | some o => rw [big c o e] at h; cases h
    · by_cases z1 : c = q
      · rw [z1]; exact hHq
      · by_cases z2 : c = b
        · rw [z2]; exact hHb
        · exact absurd ⟨fun p' e => (by cases e; exact ⟨z1, z2⟩), n.cs⟩ m
    · rw [upd_ne hqb.symm, upd_same, em]
    · cases e2
      exact nq i e1
    · obtain ⟨d, o, c1, c2, c3, c4⟩ := dk.cel i x e
      exact ⟨d, o, c1, c2, big x o c3, c4.mono dl (Sub.refl _)⟩
  have dpi : ∀ (H' : Hp) (ns : List Int), DpAll K H' (ns.map V.int) (ns.map PyData.int) := fun H' ns => by
    induction ns with
    | nil => exact .nil
    | cons n ns ih => exact .cons (.int n) ih
  refine ⟨_, rfl, by decide, fun p hp => ?_⟩
  have hs' : SqL K (upd H p (.lst [])) a (ns.map V.int) := SqL.sub (fun c o h => by rw [upd_ne (ne_of_none (sb c o h) hp)]; exact sb c o h) hs
  refine ⟨.list (ns.map PyData.int), .list [], .lst hs' (dpi _ ns), .lst (.inl (.inl upd_same)) .nil, shaped_ints ns, by decide, _, rfl, ?_⟩
  cases ns with
  | nil =>
    refine ⟨by decide, fun b hb => ⟨(show 2 ≤ sizeLine by decide), fun q hq => ?_⟩⟩
    exact fin _ p b q [0] hp rfl hb hq rfl
  | cons n ns =>
    refine ⟨_, rfl, a, _, rfl, .inl hs', fun b hb => ⟨(show 2 ≤ sizeLine by decide), fun q hq => ?_⟩⟩
    exact fin _ p b q (n :: ns) hp rfl hb hq rfl
end
end BG

/-! BG.SoundH: from the head's facts to the law. -/
namespace BG
open PySem PySem.Spec PyProof.Rows L2
def dOf (d : DefI) : He.DefD := ⟨(d.x, none), d.x, d.x, defArgs d.st, defBody d.st, defScope d.st, [], []⟩
def dPr (x : Str) (st : Stmt) : He.DefD := ⟨(x, none), x, x, defArgs st, defBody st, defScope st, [], []⟩
def faC : Str × Val → He.Fa
  | (x, .int i) => .int x i
  | (x, .str cs) => .str x ⟨cs.toArray⟩
  | (x, _) => .free x
def okC : Val → Bool
  | .int _ => true
  | .str cs => cs.all (fun c => decide (c < 1114112)) && decide (cs.length ≤ lim)
  | _ => false
/-- what is printed for a law -/
structure LawD where
  ds : List DefI
  sStart : Stmt
  sDraw : Stmt
  nStart : Nat
  nDraw : Nat
  free : List Str
  cons : List (Str × Val)
  excs : List Nat
def LawD.fn (L : LawD) : List He.DefD := L.ds.map dOf ++ [dPr "_law_start" L.sStart, dPr "_law_draw" L.sDraw]
def LawD.fa (L : LawD) : List He.Fa := L.ds.map (fun d => .glo d.x) ++ ([.glo "_law_start", .glo "_law_draw"] ++ (L.free.map .free ++ (L.cons.map faC ++ L.excs.map fun c => .glo (xname c))))
def LawD.S (L : LawD) : Stat := ⟨L.ds.map (fun d => (d.x, d.f, d.ps.length)) ++ ([("_law_start", L.nStart, 1), ("_law_draw", L.nDraw, 2)] : List (Str × Nat × Nat)), L.free, L.cons, L.excs⟩
def BindOk (x : Str) (st : Stmt) (ps : List Str) : Prop := ∀ (kV doc pm : Value) (an : Option Addr) (cdv ct : Value) (us : List Value), us.length = ps.length → bindArgs (PySem.W.fnOf x x (defArgs st) (defBody st) (defScope st) .none kV doc pm an cdv ct) ⟨us, []⟩ = pure (ps.zip us)
structure DataOk (tb : Nat → Option Fn) (S : Stat) (d : DefI) : Prop where
  tb : tb d.f = some (.code d.ps.length d.N.length d.b)
  ok : defOk S d = true
  bi : BindOk d.x d.st d.ps
structure LawOk (tb : Nat → Option Fn) (L : LawD) : Prop where
  ds : ∀ d ∈ L.ds, DataOk tb L.S d
  start : ∀ (P : Program) (w : World) (K : PySem.W.Frag) (mg : Str → Option Value) (base : Heap) (f : Addr) (fd : FuncData), FunD K "_law_start" "_law_start" (defArgs L.sStart) (defBody L.sStart) (defScope L.sStart) [] [] f fd → mg "list" = none → FnOk P w K mg base L2.CX0 1 f fd ["script"] (spOf K 1 pStart)
  draw : ∀ (P : Program) (w : World) (K : PySem.W.Frag) (mg : Str → Option Value) (base : Heap) (f : Addr) (fd : FuncData), FunD K "_law_draw" "_law_draw" (defArgs L.sDraw) (defBody L.sDraw) (defScope L.sDraw) [] [] f fd → mg "len" = none → FnOk P w K mg base L2.CX0 1 f fd ["draws", "limit"] (spOf K 2 pDraw)
  bS : BindOk "_law_start" L.sStart ["script"]
  bD : BindOk "_law_draw" L.sDraw ["draws", "limit"]
  tS : tb L.nStart = some (.prim pStart)
  tD : tb L.nDraw = some (.prim pDraw)
  fl : ("list" : Str) ∈ L.free
  fe : ("len" : Str) ∈ L.free
  co : ∀ p ∈ L.cons, okC p.2 = true
/-- what the head asks of the classes of exceptions -/
def xFact (L : List Nat) (K : PySem.W.Frag) : Bool := L.all fun c =>
  PySem.W.excIn K (xcA K c) He.veBase "ValueError.__new__" && PySem.W.keepIn K (.ref (xcA K c)) && decide (PySem.W.subIn K (.ref (xcA K c)) (.type "BaseException") = some true) && decide (PySem.W.typeIn K (.ref (xcA K c)) = some (.type "type")) &&
  decide (PySem.W.exmOne K (.ref (xcA K c)) (.ref (xcA K 7)) = some true) &&
  (decide (PySem.W.findIn K (.ref (xcA K c)) "__getattribute__" = some (some (.builtin "BaseException.__getattribute__"))) && decide (PySem.W.findIn K (.ref (xcA K c)) "__getattr__" = some none) && PySem.W.hasDictIn K (xcA K c) &&
    decide (PySem.W.findIn K (.ref (xcA K c)) "__class__" = some (some (.builtin "object.__class__"))) && decide (PySem.W.specialIn K (.builtin "object.__class__") "__get__" = some (some (.builtin "getset_descriptor.__get__"))) &&
    decide (PySem.W.takesIn K (.builtin "object.__class__") = some true) && decide (PySem.W.mroIn K (xcA K c) (.type "object") = some true)) &&
  (L.all fun c' => decide (PySem.W.kitOne K (.ref (xcA K c)) (.ref (xcA K c')) = some (subX c c'))) && decide (PySem.W.kitOne K (.ref (xcA K c)) (.type "ValueError") = some true)
theorem xFact_ok {L : List Nat} {K : PySem.W.Frag} {mg : Str → Option Value} (h : xFact L K = true) (g : ∀ c ∈ L, mg (xname c) = some (.ref (xcA K c))) : ∀ c ∈ L, XOk K mg L c := fun c hc => by
  have q := List.all_eq_true.mp h c hc
  simp only [Bool.and_eq_true, decide_eq_true_eq, List.all_eq_true] at q
  obtain ⟨⟨⟨⟨⟨⟨⟨q1, q2⟩, q3⟩, q4⟩, q5⟩, ⟨⟨⟨⟨⟨⟨r1, r2⟩, r3⟩, r4⟩, r5⟩, r6⟩, r7⟩⟩, q7⟩, q8⟩ := q
  exact ⟨g c hc, q1, q2, q3, q4, q5, ⟨r1, r2, q3, r3, r4, r5, r6, r7⟩, q7, q8⟩
/-- a def that lets nothing out -/
theorem FnOk.quiet {P : Program} {w : World} {K : PySem.W.Frag} {mg : Str → Option Value} {base : Heap} {k : Nat} {f : Addr} {fd : FuncData} {ps : List Str} {sp : Sp} (F : FnOk P w K mg base (L2.CX P w) k f fd ps sp) : FnOk P w K mg base L2.CX0 k f fd ps (fun vs H Q _ => sp vs H Q fun _ _ _ => False) :=
  ⟨fun vs H Q E h => F.len _ _ _ _ h, fun A outer s H args us vs Q E hr e0 b r h => codeAny_mono (F.run A outer s H args us vs Q _ hr e0 b r h) fun res s' q => by
    cases res with
    | ok fl => cases fl <;> exact q
    | error e =>
      obtain ⟨_, _, _, _, _, _, _, _, _, _, _, _, z⟩ := q
      exact z.elim⟩
theorem FnOk.loud {P : Program} {w : World} {K : PySem.W.Frag} {mg : Str → Option Value} {base : Heap} {k : Nat} {f : Addr} {fd : FuncData} {ps : List Str} {sp : Sp} (F : FnOk P w K mg base L2.CX0 k f fd ps sp) : FnOk P w K mg base (L2.CX P w) k f fd ps sp :=
  ⟨F.len, fun A outer s H args us vs Q E hr e0 b r h => codeAny_mono (F.run A outer s H args us vs Q E hr e0 b r h) fun res s' q => by
    cases res with
    | ok fl => cases fl <;> exact q
    | error e => exact q.elim⟩
theorem law_facts {tb : Nat → Option Fn} {L : LawD} (O : LawOk tb L) {P : Program} {w : World} {K : PySem.W.Frag} {h : Heap} {mg : Str → Option Value} {f : Addr} (X : K.In h) (G : h.Ns mainGlobals mg) (hfa : mg ("law" : Str) = some (.ref f)) (c : He.SaysX L.fa L.fn [] [] (xFact L.excs) w h K)
    {d : DefI} (hd : d ∈ L.ds) (hlx : d.x = "law") (hps : d.ps = ([("script" : Str)] : List Str)) (n : Nat) :
    ∃ fd : FuncData, (∀ (s : Shared) (v : Value), BindsTo s fd ⟨[v], []⟩ [("script", v)]) ∧ ∀ base : Heap, K.In base → base.Ns mainGlobals mg → FnOk P w K mg base (L2.CX P w) n f fd ["script"] (spOf K 1 (run tb n d.f)) := by
  have cx := c.more
  have c := c.t.d
  have glo : ∀ x : Str, He.Fa.glo x ∈ L.fa → mg x = some (.ref (He.ga K x)) := fun x hx => He.glo_ok X G (c.facts hx)
  have gd : ∀ d ∈ L.ds, mg d.x = some (.ref (He.ga K d.x)) := fun d hd => glo _ (List.mem_append_left _ (List.mem_map.mpr ⟨d, hd, rfl⟩))
  have gS : mg "_law_start" = some (.ref (He.ga K "_law_start")) := glo _ (List.mem_append_right _ (List.mem_append_left _ List.mem_cons_self))
  have gD : mg "_law_draw" = some (.ref (He.ga K "_law_draw")) := glo _ (List.mem_append_right _ (List.mem_append_left _ (List.mem_cons_of_mem _ List.mem_cons_self)))
  have hf : ∀ x ∈ L.free, mg x = none := fun x hx => He.free_ok X G (c.facts (f := .free x) (List.mem_append_right _ (List.mem_append_right _ (List.mem_append_left _ (List.mem_map.mpr ⟨x, hx, rfl⟩)))))
  have hc : ∀ p ∈ L.cons, ∃ u v, mg p.1 = some u ∧ RelV v u ∧ ∀ dr R, Rp K dr R v p.2 := fun p hp => by
    have e := c.facts (f := faC p) (List.mem_append_right _ (List.mem_append_right _ (List.mem_append_right _ (List.mem_append_left _ (List.mem_map.mpr ⟨p, hp, rfl⟩)))))
    have o := O.co p hp
    obtain ⟨x, v⟩ := p
    cases v with
    | int i =>
      obtain ⟨t, q⟩ := He.int_ok X G e
      exact ⟨_, .int i, q, ⟨_, rfl⟩, fun _ _ => .int i⟩
    | str cs =>
      obtain ⟨t, q⟩ := He.str_ok X G e
      simp only [okC, Bool.and_eq_true, decide_eq_true_eq] at o
      exact ⟨_, .str ⟨cs.toArray⟩, q, ⟨_, rfl⟩, fun _ _ => .str cs o.1 o.2⟩
    | _ => cases o
  have hx : ∀ c ∈ L.excs, XOk K mg L.excs c := xFact_ok cx fun e he => glo _ (List.mem_append_right _ (List.mem_append_right _ (List.mem_append_right _ (List.mem_append_right _ (List.mem_map.mpr ⟨e, he, rfl⟩)))))
  have FD : ∀ d ∈ L.ds, ∃ fd, FunD K d.x d.x (defArgs d.st) (defBody d.st) (defScope d.st) [] [] (He.ga K d.x) fd := fun d hd => c.defs (d := dOf d) (List.mem_append_left _ (List.mem_map.mpr ⟨d, hd, rfl⟩))
  obtain ⟨fdS, FS⟩ := c.defs (d := dPr "_law_start" L.sStart) (List.mem_append_right _ List.mem_cons_self)
  obtain ⟨fdD, FDr⟩ := c.defs (d := dPr "_law_draw" L.sDraw) (List.mem_append_right _ (List.mem_cons_of_mem _ List.mem_cons_self))
  have main : ∀ base : Heap, ∀ n, Known P w K mg base L.S (run tb n) n := fun base => all_ok (fun p hp => by
    rcases List.mem_append.mp hp with hp | hp
    · obtain ⟨d, hd, rfl⟩ := List.mem_map.mp hp
      have o := O.ds d hd
      obtain ⟨fd, F⟩ := FD d hd
      exact .inl ⟨d, rfl, o.tb, o.ok, d.x, _, fd, F, gd d hd, F.bindsN o.bi⟩
    · rcases List.mem_cons.mp hp with rfl | hp
      · exact .inr ⟨pStart, _, fdS, ["script"], O.tS, rfl, FnOk.loud (O.start P w K mg base _ fdS FS (hf _ O.fl)), gS, FS.kp, FS.bindsN O.bS⟩
      · rcases List.mem_cons.mp hp with rfl | hp
        · exact .inr ⟨pDraw, _, fdD, ["draws", "limit"], O.tD, rfl, FnOk.loud (O.draw P w K mg base _ fdD FDr (hf _ O.fe)), gD, FDr.kp, FDr.bindsN O.bD⟩
        · cases hp) hf hc hx
  obtain ⟨fd, F⟩ := FD d hd
  have e : f = He.ga K d.x := by
    have z := gd d hd
    rw [hlx, hfa] at z
    injection z with z
    injection z with z
    rw [hlx]
    exact z
  subst e
  have o := O.ds d hd
  refine ⟨fd, fun s v => ?_, fun base _ _ => ?_⟩
  · have b := FunD.bindsA F o.bi s [v] (by rw [hps]; rfl)
    rw [hps] at b
    exact b
  · have ps1 : d.ps.length = 1 := by rw [hps]; rfl
    cases n with
    | zero =>
      have bad : ∀ vs H Q E, ¬ spOf K 1 (run tb 0 d.f) vs H Q E := fun vs H Q E ⟨ds, s, dr, R, _, _, _, _, bh⟩ => bh
      exact ⟨fun vs H Q E h => (bad _ _ _ _ h).elim, fun A outer s H args us vs Q E _ _ _ _ h => (bad _ _ _ _ h).elim⟩
    | succ n =>
      have e : run tb (n + 1) d.f = fun xs s => runBody (run tb n) d.ps.length d.N.length d.b xs s := by
        funext xs s
        unfold run
        rw [o.tb]
      rw [e]
      have := code_ok F o.ok (main base n)
      rw [hps] at this
      simpa [hps] using this
theorem law_sp {tb : Nat → Option Fn} {K : PySem.W.Frag} {n f : Nat} (math : ∀ ns : List Int, ns.length ≤ 63 → ∃ s', run tb n f [.scr ns] ⟨none, []⟩ = .ok (.bl true) s') (H : Hp) (a : Addr) (ns : List Int) (hl : ns.length ≤ 63) (hS : SqL K H a (ns.map V.int)) (E : XK) :
    spOf K 1 (run tb n f) [.ref a] H (fun v _ => v = .bl true) E := by
  obtain ⟨s', e⟩ := math ns hl
  refine ⟨[.scr ns], ⟨none, []⟩, ⟨none, []⟩, H, Sub.refl H, ⟨trivial, rfl, fun i j a q => (by simp at q), fun i a p q => (by simp at q), fun i a q => (by simp at q), fun i q => (by simp at q)⟩, .cons (.scr hS) .nil, rfl, ?_⟩
  rw [e]
  exact fun dr' R' H' g sb dk v rv => by cases rv; rfl
end BG

/-! BG.Prog: core defs, printed by gen.py -/
namespace BG
def FUEL : Nat := 1000000
abbrev n_is_int : Nat := 191
abbrev n_check_number : Nat := 144
abbrev n_is_numbers : Nat := 193
abbrev n_is_cell : Nat := 187
abbrev n_top_of : Nat := 308
abbrev n_cell_start : Nat := 134
abbrev n_cell_guess : Nat := 133
abbrev n_cell_told : Nat := 136
abbrev n_history_start : Nat := 184
abbrev n_newer : Nat := 264
abbrev n_history_told : Nat := 185
abbrev n_place_of : Nat := 278
abbrev n_crossed : Nat := 165
abbrev n_start_state : Nat := 298
abbrev n_cell_at : Nat := 132
abbrev n_guess_of : Nat := 177
abbrev n_stepped : Nat := 300
abbrev n_after_row : Nat := 118
abbrev n_guesses_of : Nat := 179
abbrev n_wrong_of : Nat := 319
abbrev n_is_history : Nat := 189
abbrev n_is_predictor : Nat := 195
abbrev n_check_size : Nat := 157
abbrev n_check_predictor : Nat := 147
abbrev n_is_row : Nat := 198
abbrev n_check_row : Nat := 155
abbrev n_check_guessing : Nat := 142
abbrev n_guesses : Nat := 178
abbrev n_wrong : Nat := 315
abbrev n_next_guesses : Nat := 265
abbrev n_history_after : Nat := 181
abbrev n__law_start : Nat := 101
abbrev n__law_draw : Nat := 23
abbrev n__law_row : Nat := 87
abbrev n__law_error : Nat := 25
abbrev n_is_statement : Nat := 201
abbrev n_is_pattern : Nat := 194
abbrev n_is_body : Nat := 186
abbrev n_is_program : Nat := 196
abbrev n_check_program : Nat := 148
abbrev n_code_of : Nat := 161
abbrev n_steps_of : Nat := 301
abbrev n_program_row : Nat := 285
abbrev n_branches_of : Nat := 131
abbrev n_count_statements : Nat := 163
abbrev n_renamed : Nat := 288
abbrev n_renamed_body : Nat := 289
abbrev n_program_net : Nat := 284
abbrev n_all_of : Nat := 119
abbrev n_layouts : Nat := 255
abbrev n_check_parts : Nat := 146
abbrev n_layout_table : Nat := 254
abbrev n_best_layouts : Nat := 124
abbrev n_normal : Nat := 266
abbrev n_sharing_cost : Nat := 297
abbrev n_is_same_layout : Nat := 200
abbrev n_body_text : Nat := 130
abbrev n_format_program : Nat := 171
abbrev n__law_one_k31 : Nat := 66
abbrev n__law_two_k31 : Nat := 110
abbrev n__law_three : Nat := 104
abbrev n__law_asked_k31 : Nat := 8
abbrev n__law_layouts_k31 : Nat := 42
abbrev n__law_sizes : Nat := 98
abbrev n_law_k31 : Nat := 235
def c_is_int : Sx := .seq (.ret (.and (.isinst (.var 0) .tInt) (.and (.not (.isinst (.var 0) .tBool)) (.chain .le .le (.var 1) (.var 0) (.var 2))))) (.nil)
def c_check_number : Sx := .seq (.ite (.not (.call n_is_int (.cons (.var 0) (.cons (.var 1) (.cons (.var 2) .nil))))) (.seq (.raise 4) (.nil)) (.nil)) (.nil)
def c_is_numbers : Sx := .seq (.ret (.and (.isinst (.var 0) .tTuple) (.and (.cmp .eq (.bi .len (.cons (.var 0) .nil)) (.var 1)) (.bi .all (.cons (.comp (.name 4) (.cons (.var 0) .nil) .no (.call n_is_int (.cons (.var 4) (.cons (.var 2) (.cons (.var 3) .nil))))) .nil))))) (.nil)
def c_is_cell : Sx := .seq (.ite (.or (.not (.isinst (.var 0) .tTuple)) (.or (.cmp .lt (.bi .len (.cons (.var 0) .nil)) (.cst (.int 2))) (.not (.isinst (.idx (.var 0) (.cst (.int 0))) .tStr)))) (.seq (.ret (.cst (.bl false))) (.nil)) (.nil)) (.seq (.asg 1 (.idx (.var 0) (.cst (.int 0)))) (.seq (.ite (.cmp .eq (.var 1) (.cst (.str [97, 108, 119, 97, 121, 115]))) (.seq (.ret (.and (.cmp .eq (.bi .len (.cons (.var 0) .nil)) (.cst (.int 2))) (.call n_is_int (.cons (.idx (.var 0) (.cst (.int 1))) (.cons (.cst (.int 0)) (.cons (.cst (.int 1)) .nil)))))) (.nil)) (.nil)) (.seq (.ite (.cmp .eq (.var 1) (.cst (.str [99, 111, 117, 110, 116]))) (.seq (.ret (.and (.cmp .eq (.bi .len (.cons (.var 0) .nil)) (.cst (.int 3))) (.and (.call n_is_int (.cons (.idx (.var 0) (.cst (.int 1))) (.cons (.cst (.int 1)) (.cons (.cst (.int 3)) .nil)))) (.call n_is_int (.cons (.idx (.var 0) (.cst (.int 2))) (.cons (.cst (.int 0)) (.cons (.bin .sub (.call n_top_of (.cons (.var 0) .nil)) (.cst (.int 1))) .nil))))))) (.nil)) (.nil)) (.seq (.ite (.cmp .eq (.var 1) (.cst (.str [102, 108, 105, 112]))) (.seq (.ret (.and (.cmp .eq (.bi .len (.cons (.var 0) .nil)) (.cst (.int 3))) (.and (.call n_is_int (.cons (.idx (.var 0) (.cst (.int 1))) (.cons (.cst (.int 1)) (.cons (.cst (.int 3)) .nil)))) (.call n_is_int (.cons (.idx (.var 0) (.cst (.int 2))) (.cons (.cst (.int 0)) (.cons (.cst (.int 1)) .nil))))))) (.nil)) (.nil)) (.seq (.ret (.and (.cmp .eq (.var 1) (.cst (.str [114, 117, 110, 115]))) (.and (.cmp .eq (.bi .len (.cons (.var 0) .nil)) (.cst (.int 2))) (.call n_is_int (.cons (.idx (.var 0) (.cst (.int 1))) (.cons (.cst (.int 1)) (.cons (.cst (.int 3)) .nil))))))) (.nil))))))
def c_top_of : Sx := .seq (.ret (.idx (.list (.cons (.cst (.int 2)) (.cons (.cst (.int 4)) (.cons (.cst (.int 8)) .nil)))) (.bin .sub (.idx (.var 0) (.cst (.int 1))) (.cst (.int 1))))) (.nil)
def c_cell_start : Sx := .seq (.ite (.cmp .eq (.idx (.var 0) (.cst (.int 0))) (.cst (.str [99, 111, 117, 110, 116]))) (.seq (.ret (.idx (.var 0) (.cst (.int 2)))) (.nil)) (.nil)) (.seq (.ite (.cmp .eq (.idx (.var 0) (.cst (.int 0))) (.cst (.str [102, 108, 105, 112]))) (.seq (.ret (.tup (.cons (.idx (.var 0) (.cst (.int 2))) (.cons (.cst (.int 0)) .nil)))) (.nil)) (.nil)) (.seq (.ret (.ite (.cmp .eq (.idx (.var 0) (.cst (.int 0))) (.cst (.str [114, 117, 110, 115]))) (.tup (.cons (.cst (.int 0)) (.cons (.neg (.cst (.int 1))) .nil))) (.cst (.int 0)))) (.nil)))
def c_cell_guess : Sx := .seq (.ite (.cmp .eq (.idx (.var 0) (.cst (.int 0))) (.cst (.str [97, 108, 119, 97, 121, 115]))) (.seq (.ret (.idx (.var 0) (.cst (.int 1)))) (.nil)) (.nil)) (.seq (.ite (.cmp .eq (.idx (.var 0) (.cst (.int 0))) (.cst (.str [99, 111, 117, 110, 116]))) (.seq (.ret (.ite (.cmp .ge (.bin .mul (.cst (.int 2)) (.var 1)) (.call n_top_of (.cons (.var 0) .nil))) (.cst (.int 1)) (.cst (.int 0)))) (.nil)) (.nil)) (.seq (.ite (.cmp .eq (.idx (.var 0) (.cst (.int 0))) (.cst (.str [102, 108, 105, 112]))) (.seq (.ret (.idx (.var 1) (.cst (.int 0)))) (.nil)) (.nil)) (.seq (.ret (.ite (.cmp .eq (.idx (.var 1) (.cst (.int 0))) (.idx (.var 1) (.cst (.int 1)))) (.cst (.int 0)) (.cst (.int 1)))) (.nil))))
def c_cell_told : Sx := .seq (.ite (.cmp .eq (.idx (.var 0) (.cst (.int 0))) (.cst (.str [97, 108, 119, 97, 121, 115]))) (.seq (.ret (.var 1)) (.nil)) (.nil)) (.seq (.ite (.cmp .eq (.idx (.var 0) (.cst (.int 0))) (.cst (.str [99, 111, 117, 110, 116]))) (.seq (.ret (.ite (.cmp .eq (.var 2) (.cst (.int 1))) (.bi .min2 (.cons (.bin .add (.var 1) (.cst (.int 1))) (.cons (.bin .sub (.call n_top_of (.cons (.var 0) .nil)) (.cst (.int 1))) .nil))) (.bi .max2 (.cons (.bin .sub (.var 1) (.cst (.int 1))) (.cons (.cst (.int 0)) .nil))))) (.nil)) (.nil)) (.seq (.ite (.cmp .eq (.idx (.var 0) (.cst (.int 0))) (.cst (.str [102, 108, 105, 112]))) (.seq (.ite (.cmp .eq (.var 2) (.idx (.var 1) (.cst (.int 0)))) (.seq (.ret (.tup (.cons (.var 2) (.cons (.cst (.int 0)) .nil)))) (.nil)) (.nil)) (.seq (.ret (.ite (.cmp .eq (.bin .add (.idx (.var 1) (.cst (.int 1))) (.cst (.int 1))) (.idx (.var 0) (.cst (.int 1)))) (.tup (.cons (.var 2) (.cons (.cst (.int 0)) .nil))) (.tup (.cons (.idx (.var 1) (.cst (.int 0))) (.cons (.bin .add (.idx (.var 1) (.cst (.int 1))) (.cst (.int 1))) .nil))))) (.nil))) (.nil)) (.seq (.ret (.ite (.cmp .eq (.var 2) (.cst (.int 1))) (.tup (.cons (.bi .min2 (.cons (.bin .add (.idx (.var 1) (.cst (.int 0))) (.cst (.int 1))) (.cons (.idx (.var 0) (.cst (.int 1))) .nil))) (.cons (.idx (.var 1) (.cst (.int 1))) .nil))) (.tup (.cons (.cst (.int 0)) (.cons (.idx (.var 1) (.cst (.int 0))) .nil))))) (.nil))))
def c_history_start : Sx := .seq (.ret (.ite (.cmp .eq (.idx (.var 0) (.cst (.int 0))) (.cst (.str [111, 119, 110]))) (.bin .mul (.tup (.cons (.cst (.int 0)) .nil)) (.var 1)) (.cst (.int 0)))) (.nil)
def c_newer : Sx := .seq (.ret (.bin .mod (.bin .add (.bin .mul (.cst (.int 2)) (.var 0)) (.var 2)) (.idx (.list (.cons (.cst (.int 2)) (.cons (.cst (.int 4)) .nil))) (.bin .sub (.var 1) (.cst (.int 1)))))) (.nil)
def c_history_told : Sx := .seq (.ite (.cmp .eq (.idx (.var 0) (.cst (.int 0))) (.cst (.str [110, 111, 110, 101]))) (.seq (.ret (.var 1)) (.nil)) (.nil)) (.seq (.ite (.cmp .eq (.idx (.var 0) (.cst (.int 0))) (.cst (.str [111, 119, 110]))) (.seq (.ret (.bin .add (.bin .add (.slice (.var 1) .no (.cons (.var 2) .nil)) (.tup (.cons (.call n_newer (.cons (.idx (.var 1) (.var 2)) (.cons (.idx (.var 0) (.cst (.int 1))) (.cons (.var 3) .nil)))) .nil))) (.slice (.var 1) (.cons (.bin .add (.var 2) (.cst (.int 1))) .nil) .no))) (.nil)) (.nil)) (.seq (.ret (.call n_newer (.cons (.var 1) (.cons (.idx (.var 0) (.cst (.int 1))) (.cons (.var 3) .nil))))) (.nil)))
def c_place_of : Sx := .seq (.par (.cons (.name 3) (.cons (.name 4) .nil)) [] (.cons (.idx (.var 0) (.cst (.int 1))) (.cons (.idx (.idx (.var 0) (.cst (.int 2))) (.var 2)) .nil))) (.seq (.ite (.cmp .eq (.idx (.var 3) (.cst (.int 0))) (.cst (.str [110, 111, 110, 101]))) (.seq (.ret (.tup (.cons (.cst (.int 0)) (.cons (.var 4) .nil)))) (.nil)) (.nil)) (.seq (.ite (.cmp .eq (.idx (.var 3) (.cst (.int 0))) (.cst (.str [111, 119, 110]))) (.seq (.ret (.tup (.cons (.idx (.var 1) (.var 2)) (.cons (.var 4) .nil)))) (.nil)) (.nil)) (.seq (.ite (.cmp .eq (.idx (.var 3) (.cst (.int 0))) (.cst (.str [97, 108, 108]))) (.seq (.ret (.tup (.cons (.var 1) (.cons (.var 4) .nil)))) (.nil)) (.nil)) (.seq (.ret (.tup (.cons (.bin .mod (.call n_crossed (.cons (.var 1) (.cons (.var 4) .nil))) (.idx (.list (.cons (.cst (.int 2)) (.cons (.cst (.int 4)) .nil))) (.bin .sub (.idx (.var 3) (.cst (.int 1))) (.cst (.int 1))))) (.cons (.cst (.int 0)) .nil)))) (.nil)))))
def c_crossed : Sx := .seq (.ret (.idx (.idx (.list (.cons (.list (.cons (.cst (.int 0)) (.cons (.cst (.int 1)) (.cons (.cst (.int 2)) (.cons (.cst (.int 3)) .nil))))) (.cons (.list (.cons (.cst (.int 1)) (.cons (.cst (.int 0)) (.cons (.cst (.int 3)) (.cons (.cst (.int 2)) .nil))))) (.cons (.list (.cons (.cst (.int 2)) (.cons (.cst (.int 3)) (.cons (.cst (.int 0)) (.cons (.cst (.int 1)) .nil))))) (.cons (.list (.cons (.cst (.int 3)) (.cons (.cst (.int 2)) (.cons (.cst (.int 1)) (.cons (.cst (.int 0)) .nil))))) .nil))))) (.var 0)) (.var 1))) (.nil)
def c_start_state : Sx := .seq (.ret (.tup (.cons (.call n_history_start (.cons (.idx (.var 0) (.cst (.int 1))) (.cons (.bi .len (.cons (.idx (.var 0) (.cst (.int 2))) .nil)) .nil))) (.cons (.tup .nil) .nil)))) (.nil)
def c_cell_at : Sx := .seq (.forS (.tup (.cons (.name 3) (.cons (.name 4) .nil))) (.cons (.idx (.var 1) (.cst (.int 1))) .nil) (.seq (.ite (.cmp .eq (.var 3) (.var 2)) (.seq (.ret (.var 4)) (.nil)) (.nil)) (.nil))) (.seq (.ret (.call n_cell_start (.cons (.idx (.var 0) (.cst (.int 0))) .nil))) (.nil))
def c_guess_of : Sx := .seq (.ret (.call n_cell_guess (.cons (.idx (.var 0) (.cst (.int 0))) (.cons (.call n_cell_at (.cons (.var 0) (.cons (.var 1) (.cons (.call n_place_of (.cons (.var 0) (.cons (.idx (.var 1) (.cst (.int 0))) (.cons (.var 2) .nil)))) .nil)))) .nil)))) (.nil)
def c_stepped : Sx := .seq (.asg 4 (.call n_place_of (.cons (.var 0) (.cons (.idx (.var 1) (.cst (.int 0))) (.cons (.var 2) .nil))))) (.seq (.asg 5 (.call n_cell_told (.cons (.idx (.var 0) (.cst (.int 0))) (.cons (.call n_cell_at (.cons (.var 0) (.cons (.var 1) (.cons (.var 4) .nil)))) (.cons (.var 3) .nil))))) (.seq (.own 6 (.comp (.name 7) (.cons (.idx (.var 1) (.cst (.int 1))) .nil) (.cmp .ne (.idx (.var 7) (.cst (.int 0))) (.var 4)) (.var 7))) (.seq (.ite (.cmp .ne (.var 5) (.call n_cell_start (.cons (.idx (.var 0) (.cst (.int 0))) .nil))) (.seq (.append 6 (.tup (.cons (.var 4) (.cons (.var 5) .nil)))) (.nil)) (.nil)) (.seq (.ret (.tup (.cons (.call n_history_told (.cons (.idx (.var 0) (.cst (.int 1))) (.cons (.idx (.var 1) (.cst (.int 0))) (.cons (.var 2) (.cons (.var 3) .nil))))) (.cons (.bi .tuple (.cons (.bi .sorted (.cons (.var 6) .nil)) .nil)) .nil)))) (.nil)))))
def c_after_row : Sx := .seq (.forS (.tup (.cons (.name 3) (.cons (.name 4) .nil))) (.cons (.var 2) .nil) (.seq (.asg 1 (.call n_stepped (.cons (.var 0) (.cons (.var 1) (.cons (.var 3) (.cons (.var 4) .nil)))))) (.nil))) (.seq (.ret (.var 1)) (.nil))
def c_guesses_of : Sx := .seq (.par (.cons (.name 2) (.cons (.name 3) .nil)) [3] (.cons (.call n_start_state (.cons (.var 0) .nil)) (.cons (.list .nil) .nil))) (.seq (.forS (.tup (.cons (.name 4) (.cons (.name 5) .nil))) (.cons (.var 1) .nil) (.seq (.append 3 (.call n_guess_of (.cons (.var 0) (.cons (.var 2) (.cons (.var 4) .nil))))) (.seq (.asg 2 (.call n_stepped (.cons (.var 0) (.cons (.var 2) (.cons (.var 4) (.cons (.var 5) .nil)))))) (.nil)))) (.seq (.freeze 3) (.seq (.ret (.var 3)) (.nil))))
def c_wrong_of : Sx := .seq (.ret (.bi .len (.cons (.comp (.tup (.cons (.name 2) (.cons (.name 3) .nil))) (.zip (.call n_guesses_of (.cons (.var 0) (.cons (.var 1) .nil))) (.var 1)) (.cmp .ne (.var 2) (.idx (.var 3) (.cst (.int 1)))) (.var 2)) .nil))) (.nil)
def c_is_history : Sx := .seq (.ite (.or (.not (.isinst (.var 0) .tTuple)) (.or (.cmp .eq (.bi .len (.cons (.var 0) .nil)) (.cst (.int 0))) (.not (.isinst (.idx (.var 0) (.cst (.int 0))) .tStr)))) (.seq (.ret (.cst (.bl false))) (.nil)) (.nil)) (.seq (.ite (.cmp .eq (.idx (.var 0) (.cst (.int 0))) (.cst (.str [110, 111, 110, 101]))) (.seq (.ret (.cmp .eq (.bi .len (.cons (.var 0) .nil)) (.cst (.int 1)))) (.nil)) (.nil)) (.seq (.ret (.and (.cmp .isIn (.idx (.var 0) (.cst (.int 0))) (.tup (.cons (.cst (.str [97, 108, 108])) (.cons (.cst (.str [111, 119, 110])) (.cons (.cst (.str [109, 105, 120, 101, 100])) .nil))))) (.and (.cmp .eq (.bi .len (.cons (.var 0) .nil)) (.cst (.int 2))) (.call n_is_int (.cons (.idx (.var 0) (.cst (.int 1))) (.cons (.cst (.int 1)) (.cons (.cst (.int 2)) .nil))))))) (.nil)))
def c_is_predictor : Sx := .seq (.ite (.or (.not (.call n_is_int (.cons (.var 1) (.cons (.cst (.int 1)) (.cons (.glb [77, 79, 83, 84, 95, 66, 82, 65, 78, 67, 72, 69, 83] (.int 4)) .nil))))) (.or (.not (.isinst (.var 0) .tTuple)) (.cmp .ne (.bi .len (.cons (.var 0) .nil)) (.cst (.int 3))))) (.seq (.ret (.cst (.bl false))) (.nil)) (.nil)) (.seq (.ret (.and (.call n_is_cell (.cons (.idx (.var 0) (.cst (.int 0))) .nil)) (.and (.call n_is_history (.cons (.idx (.var 0) (.cst (.int 1))) .nil)) (.call n_is_numbers (.cons (.idx (.var 0) (.cst (.int 2))) (.cons (.var 1) (.cons (.cst (.int 0)) (.cons (.cst (.int 3)) .nil)))))))) (.nil))
def c_check_size : Sx := .seq (.expr (.call n_check_number (.cons (.var 0) (.cons (.cst (.int 1)) (.cons (.glb [77, 79, 83, 84, 95, 66, 82, 65, 78, 67, 72, 69, 83] (.int 4)) .nil))))) (.nil)
def c_check_predictor : Sx := .seq (.ite (.not (.call n_is_predictor (.cons (.var 0) (.cons (.var 1) .nil)))) (.seq (.raise 0) (.nil)) (.nil)) (.nil)
def c_is_row : Sx := .seq (.ite (.or (.not (.call n_is_int (.cons (.var 1) (.cons (.cst (.int 1)) (.cons (.cst (.int 4)) .nil))))) (.or (.not (.isinst (.var 0) .tList)) (.cmp .gt (.bi .len (.cons (.var 0) .nil)) (.glb [77, 79, 83, 84, 95, 82, 79, 87] (.int 400))))) (.seq (.ret (.cst (.bl false))) (.nil)) (.nil)) (.seq (.forS (.name 2) (.cons (.var 0) .nil) (.seq (.ite (.or (.not (.isinst (.var 2) .tTuple)) (.or (.cmp .ne (.bi .len (.cons (.var 2) .nil)) (.cst (.int 2))) (.or (.not (.call n_is_int (.cons (.idx (.var 2) (.cst (.int 0))) (.cons (.cst (.int 0)) (.cons (.bin .sub (.var 1) (.cst (.int 1))) .nil))))) (.not (.call n_is_int (.cons (.idx (.var 2) (.cst (.int 1))) (.cons (.cst (.int 0)) (.cons (.cst (.int 1)) .nil)))))))) (.seq (.ret (.cst (.bl false))) (.nil)) (.nil)) (.nil))) (.seq (.ret (.cst (.bl true))) (.nil)))
def c_check_row : Sx := .seq (.ite (.not (.call n_is_row (.cons (.var 0) (.cons (.var 1) .nil)))) (.seq (.raise 1) (.nil)) (.nil)) (.nil)
def c_check_guessing : Sx := .seq (.expr (.call n_check_size (.cons (.var 2) .nil))) (.seq (.expr (.call n_check_predictor (.cons (.var 0) (.cons (.var 2) .nil)))) (.seq (.expr (.call n_check_row (.cons (.var 1) (.cons (.var 2) .nil)))) (.nil)))
def c_guesses : Sx := .seq (.expr (.call n_check_guessing (.cons (.var 0) (.cons (.var 1) (.cons (.var 2) .nil))))) (.seq (.ret (.call n_guesses_of (.cons (.var 0) (.cons (.var 1) .nil)))) (.nil))
def c_wrong : Sx := .seq (.expr (.call n_check_guessing (.cons (.var 0) (.cons (.var 1) (.cons (.var 2) .nil))))) (.seq (.ret (.call n_wrong_of (.cons (.var 0) (.cons (.var 1) .nil)))) (.nil))
def c_next_guesses : Sx := .seq (.expr (.call n_check_guessing (.cons (.var 0) (.cons (.var 1) (.cons (.var 2) .nil))))) (.seq (.asg 3 (.call n_after_row (.cons (.var 0) (.cons (.call n_start_state (.cons (.var 0) .nil)) (.cons (.var 1) .nil))))) (.seq (.ret (.comp (.name 4) (.cons (.range1 (.var 2)) .nil) .no (.call n_guess_of (.cons (.var 0) (.cons (.var 3) (.cons (.var 4) .nil)))))) (.nil)))
def c_history_after : Sx := .seq (.expr (.call n_check_guessing (.cons (.var 0) (.cons (.var 1) (.cons (.var 2) .nil))))) (.seq (.ret (.idx (.call n_after_row (.cons (.var 0) (.cons (.call n_start_state (.cons (.var 0) .nil)) (.cons (.var 1) .nil)))) (.cst (.int 0)))) (.nil))
def c__law_row : Sx := .seq (.asg 3 (.call n__law_draw (.cons (.var 0) (.cons (.bin .add (.var 2) (.cst (.int 1))) .nil)))) (.seq (.asg 4 (.comp (.name 6) (.cons (.range1 (.bin .add (.cst (.int 1)) (.call n__law_draw (.cons (.var 0) (.cons (.cst (.int 6)) .nil))))) .nil) .no (.tup (.cons (.call n__law_draw (.cons (.var 0) (.cons (.var 1) .nil))) (.cons (.call n__law_draw (.cons (.var 0) (.cons (.cst (.int 2)) .nil))) .nil))))) (.seq (.ite (.cmp .eq (.call n__law_draw (.cons (.var 0) (.cons (.cst (.int 2)) .nil))) (.cst (.int 0))) (.seq (.ret (.comp (.name 6) (.cons (.range1 (.var 3)) .nil) .no (.idx (.var 4) (.bin .mod (.var 6) (.bi .len (.cons (.var 4) .nil)))))) (.nil)) (.nil)) (.seq (.asg 5 (.bin .add (.cst (.int 1)) (.call n__law_draw (.cons (.var 0) (.cons (.cst (.int 5)) .nil))))) (.seq (.ret (.comp (.name 6) (.cons (.range1 (.var 3)) .nil) .no (.tup (.cons (.call n__law_draw (.cons (.var 0) (.cons (.var 1) .nil))) (.cons (.ite (.cmp .gt (.call n__law_draw (.cons (.var 0) (.cons (.bin .add (.var 5) (.cst (.int 1))) .nil))) (.cst (.int 0))) (.cst (.int 1)) (.cst (.int 0))) .nil))))) (.nil)))))
def c__law_error : Sx := .seq (.own 1 (.list (.cons (.isexc (.var 0) 0) (.cons (.isexc (.var 0) 1) (.cons (.isexc (.var 0) 2) .nil))))) (.seq (.own 1 (.bin .add (.var 1) (.list (.cons (.isexc (.var 0) 3) (.cons (.isexc (.var 0) 4) (.cons (.isexc (.var 0) 5) .nil)))))) (.seq (.append 1 (.isexc (.var 0) 6)) (.seq (.ite (.or (.cmp .ne (.meth .count (.var 1) (.cst (.bl true))) (.cst (.int 1))) (.or (.not (.isexc (.var 0) 7)) (.not (.isexc (.var 0) 8)))) (.seq (.ret (.cst (.str [111, 100, 100]))) (.nil)) (.nil)) (.seq (.ret (.idx (.list (.cons (.cst (.str [112, 114, 101, 100, 105, 99, 116, 111, 114])) (.cons (.cst (.str [114, 111, 119])) (.cons (.cst (.str [110, 101, 116])) (.cons (.cst (.str [112, 114, 111, 103, 114, 97, 109])) (.cons (.cst (.str [110, 117, 109, 98, 101, 114])) (.cons (.cst (.str [116, 101, 120, 116])) (.cons (.cst (.str [110, 111, 110, 101])) .nil)))))))) (.meth .index (.var 1) (.cst (.bl true))))) (.nil)))))
def c_is_statement : Sx := .seq (.ite (.or (.not (.isinst (.var 0) .tTuple)) (.or (.cmp .lt (.bi .len (.cons (.var 0) .nil)) (.cst (.int 3))) (.not (.isinst (.idx (.var 0) (.cst (.int 0))) .tStr)))) (.seq (.ret (.cst (.bl false))) (.nil)) (.nil)) (.seq (.ite (.not (.call n_is_int (.cons (.idx (.var 0) (.cst (.int 1))) (.cons (.cst (.int 0)) (.cons (.bin .sub (.var 1) (.cst (.int 1))) .nil))))) (.seq (.ret (.cst (.bl false))) (.nil)) (.nil)) (.seq (.ite (.cmp .eq (.idx (.var 0) (.cst (.int 0))) (.cst (.str [97, 110, 121]))) (.seq (.ret (.and (.cmp .eq (.bi .len (.cons (.var 0) .nil)) (.cst (.int 3))) (.call n_is_body (.cons (.idx (.var 0) (.cst (.int 2))) (.cons (.var 1) (.cons (.var 2) .nil)))))) (.nil)) (.nil)) (.seq (.ite (.or (.cmp .ne (.bi .len (.cons (.var 0) .nil)) (.cst (.int 4))) (.not (.call n_is_body (.cons (.idx (.var 0) (.cst (.int 3))) (.cons (.var 1) (.cons (.var 2) .nil)))))) (.seq (.ret (.cst (.bl false))) (.nil)) (.nil)) (.seq (.ite (.cmp .eq (.idx (.var 0) (.cst (.int 0))) (.cst (.str [108, 111, 111, 112]))) (.seq (.ret (.call n_is_int (.cons (.idx (.var 0) (.cst (.int 2))) (.cons (.cst (.int 1)) (.cons (.cst (.int 9)) .nil))))) (.nil)) (.nil)) (.seq (.ret (.and (.cmp .eq (.idx (.var 0) (.cst (.int 0))) (.cst (.str [116, 101, 115, 116]))) (.call n_is_pattern (.cons (.idx (.var 0) (.cst (.int 2))) .nil)))) (.nil))))))
def c_is_pattern : Sx := .seq (.ret (.and (.isinst (.var 0) .tTuple) (.and (.chain .le .le (.cst (.int 1)) (.bi .len (.cons (.var 0) .nil)) (.cst (.int 6))) (.bi .all (.cons (.comp (.name 1) (.cons (.var 0) .nil) .no (.call n_is_int (.cons (.var 1) (.cons (.cst (.int 0)) (.cons (.cst (.int 1)) .nil))))) .nil))))) (.nil)
def c_is_body : Sx := .seq (.ite (.or (.cmp .eq (.var 2) (.cst (.int 4))) (.or (.not (.isinst (.var 0) .tList)) (.cmp .gt (.bi .len (.cons (.var 0) .nil)) (.cst (.int 5))))) (.seq (.ret (.cst (.bl false))) (.nil)) (.nil)) (.seq (.ret (.bi .all (.cons (.comp (.name 3) (.cons (.var 0) .nil) .no (.call n_is_statement (.cons (.var 3) (.cons (.var 1) (.cons (.bin .add (.var 2) (.cst (.int 1))) .nil))))) .nil))) (.nil))
def c_is_program : Sx := .seq (.ret (.and (.call n_is_int (.cons (.var 1) (.cons (.cst (.int 1)) (.cons (.cst (.int 4)) .nil)))) (.and (.call n_is_body (.cons (.var 0) (.cons (.var 1) (.cons (.cst (.int 0)) .nil)))) (.cmp .ne (.var 0) (.list .nil))))) (.nil)
def c_check_program : Sx := .seq (.ite (.not (.call n_is_program (.cons (.var 0) (.cons (.var 1) .nil)))) (.seq (.raise 3) (.nil)) (.nil)) (.nil)
def c_code_of : Sx := .seq (.own 2 (.list .nil)) (.seq (.forS (.name 3) (.cons (.var 0) .nil) (.seq (.asg 4 (.bin .add (.var 1) (.bi .len (.cons (.var 2) .nil)))) (.seq (.ite (.cmp .eq (.idx (.var 3) (.cst (.int 0))) (.cst (.str [108, 111, 111, 112]))) (.seq (.asg 5 (.call n_code_of (.cons (.idx (.var 3) (.cst (.int 3))) (.cons (.var 4) .nil)))) (.seq (.ext 2 (.bin .add (.var 5) (.list (.cons (.tup (.cons (.cst (.str [108, 111, 111, 112])) (.cons (.idx (.var 3) (.cst (.int 1))) (.cons (.idx (.var 3) (.cst (.int 2))) (.cons (.var 4) (.cons (.bin .add (.bin .add (.var 4) (.bi .len (.cons (.var 5) .nil))) (.cst (.int 1))) .nil)))))) .nil)))) (.nil))) (.seq (.asg 5 (.call n_code_of (.cons (.idx (.var 3) (.neg (.cst (.int 1)))) (.cons (.bin .add (.var 4) (.cst (.int 1))) .nil)))) (.seq (.asg 6 (.ite (.cmp .eq (.idx (.var 3) (.cst (.int 0))) (.cst (.str [116, 101, 115, 116]))) (.idx (.var 3) (.cst (.int 2))) (.cst .non))) (.seq (.ext 2 (.bin .add (.list (.cons (.tup (.cons (.idx (.var 3) (.cst (.int 0))) (.cons (.idx (.var 3) (.cst (.int 1))) (.cons (.var 6) (.cons (.bin .add (.var 4) (.cst (.int 1))) (.cons (.bin .add (.bin .add (.var 4) (.cst (.int 1))) (.bi .len (.cons (.var 5) .nil))) .nil)))))) .nil)) (.var 5))) (.nil))))) (.nil)))) (.seq (.freeze 2) (.seq (.ret (.var 2)) (.nil))))
def c_steps_of : Sx := .seq (.asgT (.tup (.cons (.name 3) (.cons (.name 4) .nil))) (.var 1)) (.seq (.asgT (.tup (.cons (.name 5) (.cons (.name 6) (.cons (.name 7) (.cons (.name 8) (.cons (.name 9) .nil)))))) (.idx (.var 0) (.var 3))) (.seq (.ite (.cmp .eq (.var 5) (.cst (.str [97, 110, 121]))) (.seq (.ret (.list (.cons (.tup (.cons (.var 6) (.cons (.cst (.int 0)) (.cons (.tup (.cons (.var 9) (.cons (.var 4) .nil))) .nil)))) (.cons (.tup (.cons (.var 6) (.cons (.cst (.int 1)) (.cons (.tup (.cons (.var 8) (.cons (.var 4) .nil))) .nil)))) .nil)))) (.nil)) (.nil)) (.seq (.asg 2 (.idx (.var 4) (.var 3))) (.seq (.ite (.cmp .eq (.var 5) (.cst (.str [108, 111, 111, 112]))) (.seq (.asg 10 (.ite (.cmp .lt (.bin .add (.var 2) (.cst (.int 1))) (.var 7)) (.cst (.int 1)) (.cst (.int 0)))) (.seq (.asg 11 (.ite (.cmp .eq (.var 10) (.cst (.int 1))) (.bin .add (.var 2) (.cst (.int 1))) (.cst (.int 0)))) (.nil))) (.seq (.par (.cons (.name 10) (.cons (.name 11) .nil)) [] (.cons (.idx (.var 7) (.var 2)) (.cons (.bin .mod (.bin .add (.var 2) (.cst (.int 1))) (.bi .len (.cons (.var 7) .nil))) .nil))) (.nil))) (.seq (.ret (.list (.cons (.tup (.cons (.var 6) (.cons (.var 10) (.cons (.tup (.cons (.ite (.cmp .eq (.var 10) (.cst (.int 1))) (.var 8) (.var 9)) (.cons (.bin .add (.bin .add (.slice (.var 4) .no (.cons (.var 3) .nil)) (.tup (.cons (.var 11) .nil))) (.slice (.var 4) (.cons (.bin .add (.var 3) (.cst (.int 1))) .nil) .no)) .nil))) .nil)))) .nil))) (.nil))))))
def c_program_row : Sx := .seq (.expr (.call n_check_size (.cons (.var 1) .nil))) (.seq (.expr (.call n_check_program (.cons (.var 0) (.cons (.var 1) .nil)))) (.seq (.asg 2 (.call n_code_of (.cons (.var 0) (.cons (.cst (.int 0)) .nil)))) (.seq (.ite (.bi .any (.cons (.comp (.name 7) (.cons (.var 2) .nil) .no (.cmp .eq (.idx (.var 7) (.cst (.int 0))) (.cst (.str [97, 110, 121])))) .nil)) (.seq (.raise 6) (.nil)) (.nil)) (.seq (.par (.cons (.name 3) (.cons (.name 4) .nil)) [4] (.cons (.tup (.cons (.cst (.int 0)) (.cons (.bin .mul (.tup (.cons (.cst (.int 0)) .nil)) (.bi .len (.cons (.var 2) .nil))) .nil))) (.cons (.list .nil) .nil))) (.seq (.whileS FUEL (.cmp .lt (.idx (.var 3) (.cst (.int 0))) (.bi .len (.cons (.var 2) .nil))) (.seq (.ite (.cmp .eq (.bi .len (.cons (.var 4) .nil)) (.glb [77, 79, 83, 84, 95, 82, 79, 87] (.int 400))) (.seq (.raise 6) (.nil)) (.nil)) (.seq (.asgT (.tup (.cons (.name 5) (.cons (.name 6) (.cons (.name 3) .nil)))) (.idx (.call n_steps_of (.cons (.var 2) (.cons (.var 3) .nil))) (.cst (.int 0)))) (.seq (.append 4 (.tup (.cons (.var 5) (.cons (.var 6) .nil)))) (.nil))))) (.seq (.freeze 4) (.seq (.ret (.var 4)) (.nil))))))))
def c_branches_of : Sx := .seq (.expr (.call n_check_size (.cons (.var 1) .nil))) (.seq (.expr (.call n_check_program (.cons (.var 0) (.cons (.var 1) .nil)))) (.seq (.ret (.bi .sortedSet (.cons (.comp (.name 2) (.cons (.call n_code_of (.cons (.var 0) (.cons (.cst (.int 0)) .nil))) .nil) .no (.idx (.var 2) (.cst (.int 1)))) .nil))) (.nil)))
def c_count_statements : Sx := .seq (.expr (.call n_check_size (.cons (.var 1) .nil))) (.seq (.expr (.call n_check_program (.cons (.var 0) (.cons (.var 1) .nil)))) (.seq (.asg 2 (.comp (.name 3) (.cons (.call n_code_of (.cons (.var 0) (.cons (.cst (.int 0)) .nil))) .nil) .no (.idx (.var 3) (.cst (.int 0))))) (.seq (.ret (.tup (.cons (.meth .count (.var 2) (.cst (.str [108, 111, 111, 112]))) (.cons (.meth .count (.var 2) (.cst (.str [116, 101, 115, 116]))) (.cons (.meth .count (.var 2) (.cst (.str [97, 110, 121]))) .nil))))) (.nil))))
def c_renamed : Sx := .seq (.expr (.call n_check_size (.cons (.var 1) .nil))) (.seq (.expr (.call n_check_program (.cons (.var 0) (.cons (.var 1) .nil)))) (.seq (.ite (.or (.not (.isinst (.var 2) .tTuple)) (.or (.cmp .ne (.bi .len (.cons (.var 2) .nil)) (.var 1)) (.not (.bi .all (.cons (.comp (.name 3) (.cons (.var 2) .nil) .no (.call n_is_int (.cons (.var 3) (.cons (.cst (.int 0)) (.cons (.bin .sub (.var 1) (.cst (.int 1))) .nil))))) .nil))))) (.seq (.raise 3) (.nil)) (.nil)) (.seq (.ret (.call n_renamed_body (.cons (.var 0) (.cons (.var 2) .nil)))) (.nil))))
def c_renamed_body : Sx := .seq (.own 2 (.list .nil)) (.seq (.forS (.name 3) (.cons (.var 0) .nil) (.seq (.append 2 (.bin .add (.bin .add (.tup (.cons (.idx (.var 3) (.cst (.int 0))) (.cons (.idx (.var 1) (.idx (.var 3) (.cst (.int 1)))) .nil))) (.slice (.var 3) (.cons (.cst (.int 2)) .nil) (.cons (.neg (.cst (.int 1))) .nil))) (.tup (.cons (.call n_renamed_body (.cons (.idx (.var 3) (.neg (.cst (.int 1)))) (.cons (.var 1) .nil))) .nil)))) (.nil))) (.seq (.freeze 2) (.seq (.ret (.var 2)) (.nil))))
def c_program_net : Sx := .seq (.expr (.call n_check_size (.cons (.var 1) .nil))) (.seq (.expr (.call n_check_program (.cons (.var 0) (.cons (.var 1) .nil)))) (.seq (.asg 2 (.call n_code_of (.cons (.var 0) (.cons (.cst (.int 0)) .nil)))) (.seq (.par (.cons (.name 3) (.cons (.name 4) .nil)) [3, 4] (.cons (.list (.cons (.tup (.cons (.cst (.int 0)) (.cons (.bin .mul (.tup (.cons (.cst (.int 0)) .nil)) (.bi .len (.cons (.var 2) .nil))) .nil))) .nil)) (.cons (.list .nil) .nil))) (.seq (.whileS FUEL (.cmp .lt (.bi .len (.cons (.var 4) .nil)) (.bi .len (.cons (.var 3) .nil))) (.seq (.own 5 (.list .nil)) (.seq (.forS (.tup (.cons (.name 6) (.cons (.name 7) (.cons (.name 8) .nil)))) (.cons (.call n_steps_of (.cons (.var 2) (.cons (.idx (.var 3) (.bi .len (.cons (.var 4) .nil))) .nil))) .nil) (.seq (.asg 9 (.ite (.cmp .lt (.idx (.var 8) (.cst (.int 0))) (.bi .len (.cons (.var 2) .nil))) (.var 8) (.tup (.cons (.cst (.int 0)) (.cons (.idx (.var 8) (.cst (.int 1))) .nil))))) (.seq (.ite (.cmp .notIn (.var 9) (.var 3)) (.seq (.ite (.cmp .eq (.bi .len (.cons (.var 3) .nil)) (.glb [77, 79, 83, 84, 95, 78, 69, 84] (.int 60))) (.seq (.raise 6) (.nil)) (.nil)) (.seq (.append 3 (.var 9)) (.nil))) (.nil)) (.seq (.append 5 (.tup (.cons (.var 6) (.cons (.var 7) (.cons (.meth .index (.var 3) (.var 9)) .nil))))) (.nil))))) (.seq (.freeze 5) (.seq (.append 4 (.var 5)) (.nil)))))) (.seq (.freeze 4) (.seq (.ret (.var 4)) (.nil)))))))
def c_all_of : Sx := .seq (.asg 2 (.list (.cons (.tup .nil) .nil))) (.seq (.forS (.name 3) (.cons (.range1 (.var 0)) .nil) (.seq (.own 4 (.list .nil)) (.seq (.forS (.name 5) (.cons (.var 2) .nil) (.seq (.asg 6 (.ite (.cmp .ne (.var 5) (.tup .nil)) (.bin .add (.bi .max1 (.cons (.var 5) .nil)) (.cst (.int 1))) (.cst (.int 0)))) (.seq (.ext 4 (.comp (.name 7) (.cons (.range1 (.bin .add (.bi .min2 (.cons (.var 6) (.cons (.bin .sub (.var 1) (.cst (.int 1))) .nil))) (.cst (.int 1)))) .nil) .no (.bin .add (.var 5) (.tup (.cons (.var 7) .nil))))) (.nil)))) (.seq (.freeze 4) (.seq (.asg 2 (.var 4)) (.nil)))))) (.seq (.ret (.var 2)) (.nil)))
def c_layouts : Sx := .seq (.expr (.call n_check_size (.cons (.var 0) .nil))) (.seq (.expr (.call n_check_number (.cons (.var 1) (.cons (.cst (.int 1)) (.cons (.cst (.int 4)) .nil))))) (.seq (.ret (.call n_all_of (.cons (.var 0) (.cons (.var 1) .nil)))) (.nil)))
def c_check_parts : Sx := .seq (.expr (.call n_check_size (.cons (.var 3) .nil))) (.seq (.ite (.or (.not (.call n_is_cell (.cons (.var 0) .nil))) (.not (.call n_is_history (.cons (.var 1) .nil)))) (.seq (.raise 0) (.nil)) (.nil)) (.seq (.expr (.call n_check_row (.cons (.var 2) (.cons (.var 3) .nil)))) (.nil)))
def c_layout_table : Sx := .seq (.expr (.call n_check_parts (.cons (.var 0) (.cons (.var 1) (.cons (.var 2) (.cons (.var 3) .nil)))))) (.seq (.expr (.call n_check_number (.cons (.var 4) (.cons (.cst (.int 1)) (.cons (.cst (.int 4)) .nil))))) (.seq (.ret (.comp (.name 5) (.cons (.call n_all_of (.cons (.var 3) (.cons (.var 4) .nil))) .nil) .no (.tup (.cons (.var 5) (.cons (.call n_wrong_of (.cons (.tup (.cons (.var 0) (.cons (.var 1) (.cons (.var 5) .nil)))) (.cons (.var 2) .nil))) .nil))))) (.nil)))
def c_best_layouts : Sx := .seq (.asg 5 (.call n_layout_table (.cons (.var 0) (.cons (.var 1) (.cons (.var 2) (.cons (.var 3) (.cons (.var 4) .nil))))))) (.seq (.asg 6 (.bi .min1 (.cons (.comp (.tup (.cons (.name 7) (.cons (.name 8) .nil))) (.cons (.var 5) .nil) .no (.var 8)) .nil))) (.seq (.ret (.tup (.cons (.var 6) (.cons (.comp (.tup (.cons (.name 7) (.cons (.name 8) .nil))) (.cons (.var 5) .nil) (.cmp .eq (.var 8) (.var 6)) (.var 7)) .nil)))) (.nil)))
def c_normal : Sx := .seq (.own 1 (.list .nil)) (.seq (.forS (.name 2) (.cons (.var 0) .nil) (.seq (.ite (.cmp .notIn (.var 2) (.var 1)) (.seq (.append 1 (.var 2)) (.nil)) (.nil)) (.nil))) (.seq (.ret (.bi .tuple (.cons (.comp (.name 2) (.cons (.var 0) .nil) .no (.meth .index (.var 1) (.var 2))) .nil))) (.nil)))
def c_sharing_cost : Sx := .seq (.expr (.call n_check_parts (.cons (.var 0) (.cons (.var 1) (.cons (.var 2) (.cons (.var 3) .nil)))))) (.seq (.expr (.call n_check_number (.cons (.var 4) (.cons (.cst (.int 0)) (.cons (.bin .sub (.var 3) (.cst (.int 1))) .nil))))) (.seq (.expr (.call n_check_number (.cons (.var 5) (.cons (.cst (.int 0)) (.cons (.bin .sub (.var 3) (.cst (.int 1))) .nil))))) (.seq (.ite (.cmp .eq (.var 4) (.var 5)) (.seq (.ret (.cst (.int 0))) (.nil)) (.nil)) (.seq (.par (.cons (.name 7) (.cons (.name 8) .nil)) [] (.cons (.bi .min2 (.cons (.var 4) (.cons (.var 5) .nil))) (.cons (.bi .max2 (.cons (.var 4) (.cons (.var 5) .nil))) .nil))) (.seq (.asg 6 (.call n_normal (.cons (.comp (.name 9) (.cons (.range1 (.var 3)) .nil) .no (.ite (.cmp .eq (.var 9) (.var 8)) (.var 7) (.var 9))) .nil))) (.seq (.ret (.bin .sub (.call n_wrong_of (.cons (.tup (.cons (.var 0) (.cons (.var 1) (.cons (.var 6) .nil)))) (.cons (.var 2) .nil))) (.call n_wrong_of (.cons (.tup (.cons (.var 0) (.cons (.var 1) (.cons (.bi .tuple (.cons (.range1 (.var 3)) .nil)) .nil)))) (.cons (.var 2) .nil))))) (.nil)))))))
def c_is_same_layout : Sx := .seq (.expr (.call n_check_size (.cons (.var 2) .nil))) (.seq (.forS (.name 3) (.cons (.tup (.cons (.var 0) (.cons (.var 1) .nil))) .nil) (.seq (.ite (.or (.not (.isinst (.var 3) .tTuple)) (.cmp .ne (.bi .len (.cons (.var 3) .nil)) (.var 2))) (.seq (.raise 0) (.nil)) (.nil)) (.seq (.forS (.name 4) (.cons (.var 3) .nil) (.seq (.expr (.call n_check_number (.cons (.var 4) (.cons (.cst (.int 0)) (.cons (.cst (.int 3)) .nil))))) (.nil))) (.nil)))) (.seq (.ret (.cmp .eq (.call n_normal (.cons (.var 0) .nil)) (.call n_normal (.cons (.var 1) .nil)))) (.nil)))
def c_body_text : Sx := .seq (.own 1 (.list .nil)) (.seq (.forS (.name 2) (.cons (.var 0) .nil) (.seq (.asg 3 (.ite (.cmp .eq (.idx (.var 2) (.cst (.int 0))) (.cst (.str [108, 111, 111, 112]))) (.list (.cons (.bi .str (.cons (.idx (.var 2) (.cst (.int 2))) .nil)) .nil)) (.list .nil))) (.seq (.ite (.cmp .eq (.idx (.var 2) (.cst (.int 0))) (.cst (.str [116, 101, 115, 116]))) (.seq (.asg 3 (.list (.cons (.meth .join (.cst (.str [])) (.comp (.name 4) (.cons (.idx (.var 2) (.cst (.int 2))) .nil) .no (.bi .str (.cons (.var 4) .nil)))) .nil))) (.nil)) (.nil)) (.seq (.ext 1 (.bin .add (.bin .add (.bin .add (.bin .add (.list (.cons (.idx (.var 2) (.cst (.int 0))) (.cons (.bi .str (.cons (.idx (.var 2) (.cst (.int 1))) .nil)) .nil))) (.var 3)) (.list (.cons (.cst (.str [91])) .nil))) (.call n_body_text (.cons (.idx (.var 2) (.neg (.cst (.int 1)))) .nil))) (.list (.cons (.cst (.str [93])) .nil)))) (.nil))))) (.seq (.freeze 1) (.seq (.ret (.var 1)) (.nil))))
def c_format_program : Sx := .seq (.expr (.call n_check_size (.cons (.var 1) .nil))) (.seq (.expr (.call n_check_program (.cons (.var 0) (.cons (.var 1) .nil)))) (.seq (.ret (.meth .join (.cst (.str [32])) (.call n_body_text (.cons (.var 0) .nil)))) (.nil)))
def c__law_one_k31 : Sx := .seq (.ite (.cmp .eq (.var 0) (.cst (.int 0))) (.seq (.ret (.call n_program_row (.cons (.var 1) (.cons (.var 2) .nil)))) (.nil)) (.nil)) (.seq (.ite (.cmp .eq (.var 0) (.cst (.int 1))) (.seq (.ret (.call n_program_net (.cons (.var 1) (.cons (.var 2) .nil)))) (.nil)) (.nil)) (.seq (.ite (.cmp .eq (.var 0) (.cst (.int 2))) (.seq (.ret (.call n_branches_of (.cons (.var 1) (.cons (.var 2) .nil)))) (.nil)) (.nil)) (.seq (.ite (.cmp .eq (.var 0) (.cst (.int 3))) (.seq (.ret (.call n_count_statements (.cons (.var 1) (.cons (.var 2) .nil)))) (.nil)) (.nil)) (.seq (.ret (.ite (.cmp .eq (.var 0) (.cst (.int 4))) (.call n_renamed (.cons (.var 1) (.cons (.var 2) (.cons (.cst .non) .nil)))) (.call n_format_program (.cons (.var 1) (.cons (.var 2) .nil))))) (.nil)))))
def c__law_two_k31 : Sx := .seq (.ite (.cmp .eq (.var 0) (.cst (.int 0))) (.seq (.ret (.call n_layout_table (.cons (.var 1) (.cons (.var 2) (.cons (.var 3) (.cons (.var 4) (.cons (.cst .non) .nil))))))) (.nil)) (.nil)) (.seq (.ite (.cmp .eq (.var 0) (.cst (.int 1))) (.seq (.ret (.call n_best_layouts (.cons (.var 1) (.cons (.var 2) (.cons (.var 3) (.cons (.var 4) (.cons (.cst .non) .nil))))))) (.nil)) (.nil)) (.seq (.ret (.call n_sharing_cost (.cons (.var 1) (.cons (.var 2) (.cons (.var 3) (.cons (.var 4) (.cons (.cst .non) (.cons (.cst .non) .nil)))))))) (.nil)))
def c__law_three : Sx := .seq (.ite (.cmp .eq (.var 0) (.cst (.int 0))) (.seq (.ret (.call n_layouts (.cons (.var 3) (.cons (.var 1) .nil)))) (.nil)) (.nil)) (.seq (.ite (.cmp .eq (.var 0) (.cst (.int 1))) (.seq (.ret (.call n_layout_table (.cons (.tup (.cons (.cst (.str [97, 108, 119, 97, 121, 115])) (.cons (.cst (.int 1)) .nil))) (.cons (.tup (.cons (.cst (.str [110, 111, 110, 101])) .nil)) (.cons (.list .nil) (.cons (.var 3) (.cons (.var 1) .nil))))))) (.nil)) (.nil)) (.seq (.ite (.cmp .eq (.var 0) (.cst (.int 2))) (.seq (.ret (.call n_best_layouts (.cons (.tup (.cons (.cst (.str [97, 108, 119, 97, 121, 115])) (.cons (.cst (.int 1)) .nil))) (.cons (.tup (.cons (.cst (.str [110, 111, 110, 101])) .nil)) (.cons (.list .nil) (.cons (.var 3) (.cons (.var 1) .nil))))))) (.nil)) (.nil)) (.seq (.ite (.cmp .eq (.var 0) (.cst (.int 3))) (.seq (.ret (.call n_sharing_cost (.cons (.tup (.cons (.cst (.str [97, 108, 119, 97, 121, 115])) (.cons (.cst (.int 1)) .nil))) (.cons (.tup (.cons (.cst (.str [110, 111, 110, 101])) .nil)) (.cons (.list .nil) (.cons (.var 3) (.cons (.var 1) (.cons (.var 2) .nil)))))))) (.nil)) (.nil)) (.seq (.ret (.ite (.cmp .eq (.var 0) (.cst (.int 4))) (.call n_is_same_layout (.cons (.var 1) (.cons (.var 2) (.cons (.var 3) .nil)))) (.call n_renamed (.cons (.list (.cons (.tup (.cons (.cst (.str [97, 110, 121])) (.cons (.cst (.int 0)) (.cons (.list .nil) .nil)))) .nil)) (.cons (.var 3) (.cons (.var 1) .nil)))))) (.nil)))))
def c__law_asked_k31 : Sx := .seq (.asg 6 (.cst .non)) (.seq (.tryS (.seq (.ite (.cmp .eq (.var 0) (.cst (.int 1))) (.seq (.expr (.call n__law_one_k31 (.cons (.var 1) (.cons (.var 2) (.cons (.var 5) .nil))))) (.nil)) (.seq (.ite (.cmp .eq (.var 0) (.cst (.int 2))) (.seq (.expr (.call n__law_two_k31 (.cons (.var 1) (.cons (.var 2) (.cons (.var 3) (.cons (.var 4) (.cons (.var 5) .nil))))))) (.nil)) (.seq (.expr (.call n__law_three (.cons (.var 1) (.cons (.var 2) (.cons (.var 3) (.cons (.var 5) .nil)))))) (.nil))) (.nil))) (.nil)) 6 7) (.seq (.ret (.ite (.cmp .isN (.var 6) (.cst .non)) (.cst (.str [100, 111, 110, 101])) (.call n__law_error (.cons (.var 6) .nil)))) (.nil)))
def c__law_layouts_k31 : Sx := .seq (.forS (.name 0) (.cons (.list (.cons (.cst .non) (.cons (.cst (.int 0)) (.cons (.cst (.int 5)) (.cons (.cst (.bl true)) (.cons (.cst (.str [49])) .nil)))))) .nil) (.seq (.ite (.cmp .ne (.comp (.name 2) (.cons (.range1 (.cst (.int 3))) .nil) .no (.call n__law_asked_k31 (.cons (.cst (.int 3)) (.cons (.var 2) (.cons (.var 0) (.cons (.cst (.int 0)) (.cons (.cst (.int 0)) (.cons (.cst (.int 2)) .nil)))))))) (.bin .mul (.list (.cons (.cst (.str [110, 117, 109, 98, 101, 114])) .nil)) (.cst (.int 3)))) (.seq (.ret (.cst (.bl false))) (.nil)) (.nil)) (.nil))) (.seq (.forS (.name 0) (.cons (.list (.cons (.cst .non) (.cons (.cst (.int 2)) (.cons (.bin .sub (.cst (.int 0)) (.cst (.int 1))) (.cons (.cst (.bl true)) (.cons (.cst (.str [48])) .nil)))))) .nil) (.seq (.ite (.cmp .ne (.list (.cons (.call n__law_asked_k31 (.cons (.cst (.int 3)) (.cons (.cst (.int 3)) (.cons (.var 0) (.cons (.cst (.int 0)) (.cons (.cst (.int 0)) (.cons (.cst (.int 2)) .nil))))))) (.cons (.call n__law_asked_k31 (.cons (.cst (.int 3)) (.cons (.cst (.int 3)) (.cons (.cst (.int 0)) (.cons (.var 0) (.cons (.cst (.int 0)) (.cons (.cst (.int 2)) .nil))))))) (.cons (.call n__law_asked_k31 (.cons (.cst (.int 3)) (.cons (.cst (.int 3)) (.cons (.var 0) (.cons (.cst .non) (.cons (.cst (.int 0)) (.cons (.cst (.int 2)) .nil))))))) .nil)))) (.bin .mul (.list (.cons (.cst (.str [110, 117, 109, 98, 101, 114])) .nil)) (.cst (.int 3)))) (.seq (.ret (.cst (.bl false))) (.nil)) (.nil)) (.nil))) (.seq (.forS (.name 0) (.cons (.list (.cons (.cst .non) (.cons (.cst (.int 5)) (.cons (.list (.cons (.cst (.int 0)) (.cons (.cst (.int 1)) .nil))) (.cons (.tup (.cons (.cst (.int 0)) .nil)) (.cons (.tup (.cons (.cst (.int 0)) (.cons (.cst (.int 1)) (.cons (.cst (.int 2)) .nil)))) .nil)))))) .nil) (.seq (.ite (.cmp .ne (.list (.cons (.call n__law_asked_k31 (.cons (.cst (.int 3)) (.cons (.cst (.int 4)) (.cons (.var 0) (.cons (.cst .non) (.cons (.cst (.int 0)) (.cons (.cst (.int 2)) .nil))))))) (.cons (.call n__law_asked_k31 (.cons (.cst (.int 3)) (.cons (.cst (.int 4)) (.cons (.tup (.cons (.cst (.int 0)) (.cons (.cst (.int 1)) .nil))) (.cons (.var 0) (.cons (.cst (.int 0)) (.cons (.cst (.int 2)) .nil))))))) .nil))) (.bin .mul (.list (.cons (.cst (.str [112, 114, 101, 100, 105, 99, 116, 111, 114])) .nil)) (.cst (.int 2)))) (.seq (.ret (.cst (.bl false))) (.nil)) (.nil)) (.nil))) (.seq (.forS (.name 0) (.cons (.list (.cons (.tup (.cons (.cst (.int 0)) (.cons (.cst (.int 4)) .nil))) (.cons (.tup (.cons (.bin .sub (.cst (.int 0)) (.cst (.int 1))) (.cons (.cst (.int 0)) .nil))) (.cons (.tup (.cons (.cst .non) (.cons (.cst (.int 0)) .nil))) (.cons (.tup (.cons (.cst (.int 0)) (.cons (.cst (.bl true)) .nil))) .nil))))) .nil) (.seq (.ite (.cmp .ne (.list (.cons (.call n__law_asked_k31 (.cons (.cst (.int 3)) (.cons (.cst (.int 4)) (.cons (.var 0) (.cons (.cst .non) (.cons (.cst (.int 0)) (.cons (.cst (.int 2)) .nil))))))) (.cons (.call n__law_asked_k31 (.cons (.cst (.int 3)) (.cons (.cst (.int 4)) (.cons (.tup (.cons (.cst (.int 0)) (.cons (.cst (.int 1)) .nil))) (.cons (.var 0) (.cons (.cst (.int 0)) (.cons (.cst (.int 2)) .nil))))))) .nil))) (.bin .mul (.list (.cons (.cst (.str [110, 117, 109, 98, 101, 114])) .nil)) (.cst (.int 2)))) (.seq (.ret (.cst (.bl false))) (.nil)) (.nil)) (.nil))) (.seq (.forS (.name 0) (.cons (.list (.cons (.cst .non) (.cons (.list (.cons (.cst (.int 0)) (.cons (.cst (.int 1)) .nil))) (.cons (.tup (.cons (.cst (.int 0)) .nil)) (.cons (.tup (.cons (.cst (.int 0)) (.cons (.cst (.int 2)) .nil))) (.cons (.tup (.cons (.cst (.int 0)) (.cons (.cst (.bl true)) .nil))) (.cons (.tup (.cons (.bin .sub (.cst (.int 0)) (.cst (.int 1))) (.cons (.cst (.int 0)) .nil))) (.cons (.tup (.cons (.cst (.str [48])) (.cons (.cst (.int 1)) .nil))) .nil)))))))) .nil) (.seq (.ite (.cmp .ne (.call n__law_asked_k31 (.cons (.cst (.int 3)) (.cons (.cst (.int 5)) (.cons (.var 0) (.cons (.cst (.int 0)) (.cons (.cst (.int 0)) (.cons (.cst (.int 2)) .nil))))))) (.cst (.str [112, 114, 111, 103, 114, 97, 109]))) (.seq (.ret (.cst (.bl false))) (.nil)) (.nil)) (.nil))) (.seq (.ite (.or (.cmp .notN (.call n_is_program (.cons (.bin .mul (.list (.cons (.tup (.cons (.cst (.str [97, 110, 121])) (.cons (.cst (.int 0)) (.cons (.list .nil) .nil)))) .nil)) (.cst (.int 5))) (.cons (.cst (.int 2)) .nil))) (.cst (.bl true))) (.cmp .notN (.call n_is_program (.cons (.list (.cons (.tup (.cons (.cst (.str [97, 110, 121])) (.cons (.cst (.int 0)) (.cons (.bin .mul (.list (.cons (.tup (.cons (.cst (.str [97, 110, 121])) (.cons (.cst (.int 1)) (.cons (.list .nil) .nil)))) .nil)) (.cst (.int 5))) .nil)))) .nil)) (.cons (.cst (.int 2)) .nil))) (.cst (.bl true)))) (.seq (.ret (.cst (.bl false))) (.nil)) (.nil)) (.seq (.asg 1 (.bin .add (.comp (.name 2) (.cons (.range1 (.cst (.int 3))) .nil) .no (.call n__law_asked_k31 (.cons (.cst (.int 3)) (.cons (.var 2) (.cons (.cst (.int 4)) (.cons (.cst (.int 0)) (.cons (.cst (.int 0)) (.cons (.cst (.int 2)) .nil)))))))) (.list (.cons (.call n__law_asked_k31 (.cons (.cst (.int 3)) (.cons (.cst (.int 3)) (.cons (.cst (.int 1)) (.cons (.cst (.int 0)) (.cons (.cst (.int 0)) (.cons (.cst (.int 2)) .nil))))))) (.cons (.call n__law_asked_k31 (.cons (.cst (.int 3)) (.cons (.cst (.int 4)) (.cons (.tup (.cons (.cst (.int 3)) (.cons (.cst (.int 0)) .nil))) (.cons (.tup (.cons (.cst (.int 1)) (.cons (.cst (.int 1)) .nil))) (.cons (.cst (.int 0)) (.cons (.cst (.int 2)) .nil))))))) .nil))))) (.seq (.ret (.and (.cmp .eq (.var 1) (.bin .mul (.list (.cons (.cst (.str [100, 111, 110, 101])) .nil)) (.cst (.int 5)))) (.cmp .eq (.call n__law_asked_k31 (.cons (.cst (.int 3)) (.cons (.cst (.int 5)) (.cons (.tup (.cons (.cst (.int 1)) (.cons (.cst (.int 1)) .nil))) (.cons (.cst (.int 0)) (.cons (.cst (.int 0)) (.cons (.cst (.int 2)) .nil))))))) (.cst (.str [100, 111, 110, 101]))))) (.nil))))))))
def c__law_sizes : Sx := .seq (.forS (.name 0) (.cons (.list (.cons (.cst .non) (.cons (.cst (.int 0)) (.cons (.cst (.int 5)) (.cons (.cst (.bl true)) (.cons (.cst (.str [50])) .nil)))))) .nil) (.seq (.ite (.cmp .ne (.bin .add (.comp (.name 3) (.cons (.range1 (.cst (.int 6))) .nil) .no (.call n__law_asked_k31 (.cons (.cst (.int 1)) (.cons (.var 3) (.cons (.cst .non) (.cons (.cst (.int 0)) (.cons (.cst (.int 0)) (.cons (.var 0) .nil)))))))) (.comp (.name 3) (.cons (.range1 (.cst (.int 3))) .nil) .no (.call n__law_asked_k31 (.cons (.cst (.int 2)) (.cons (.var 3) (.cons (.cst .non) (.cons (.cst .non) (.cons (.cst .non) (.cons (.var 0) .nil))))))))) (.bin .mul (.list (.cons (.cst (.str [110, 117, 109, 98, 101, 114])) .nil)) (.cst (.int 9)))) (.seq (.ret (.cst (.bl false))) (.nil)) (.nil)) (.seq (.ite (.or (.cmp .ne (.comp (.name 3) (.cons (.range1 (.cst (.int 6))) .nil) .no (.call n__law_asked_k31 (.cons (.cst (.int 3)) (.cons (.var 3) (.cons (.cst .non) (.cons (.cst .non) (.cons (.cst (.int 0)) (.cons (.var 0) .nil)))))))) (.bin .mul (.list (.cons (.cst (.str [110, 117, 109, 98, 101, 114])) .nil)) (.cst (.int 6)))) (.cmp .notN (.call n_is_program (.cons (.list (.cons (.tup (.cons (.cst (.str [97, 110, 121])) (.cons (.cst (.int 0)) (.cons (.list .nil) .nil)))) .nil)) (.cons (.var 0) .nil))) (.cst (.bl false)))) (.seq (.ret (.cst (.bl false))) (.nil)) (.nil)) (.nil)))) (.seq (.forS (.tup (.cons (.name 1) (.cons (.name 2) .nil))) (.cons (.list (.cons (.tup (.cons (.cst .non) (.cons (.tup (.cons (.cst (.str [110, 111, 110, 101])) .nil)) .nil))) (.cons (.tup (.cons (.tup (.cons (.cst (.str [99, 111, 117, 110, 116])) (.cons (.cst (.int 1)) (.cons (.cst (.int 2)) .nil)))) (.cons (.tup (.cons (.cst (.str [110, 111, 110, 101])) .nil)) .nil))) (.cons (.tup (.cons (.tup (.cons (.cst (.str [97, 108, 119, 97, 121, 115])) (.cons (.cst (.int 1)) .nil))) (.cons (.cst .non) .nil))) (.cons (.tup (.cons (.tup (.cons (.cst (.str [97, 108, 119, 97, 121, 115])) (.cons (.cst (.int 1)) .nil))) (.cons (.tup (.cons (.cst (.str [97, 108, 108])) (.cons (.cst (.int 3)) .nil))) .nil))) .nil))))) .nil) (.seq (.ite (.cmp .ne (.comp (.name 3) (.cons (.range1 (.cst (.int 3))) .nil) .no (.call n__law_asked_k31 (.cons (.cst (.int 2)) (.cons (.var 3) (.cons (.var 1) (.cons (.var 2) (.cons (.cst .non) (.cons (.cst (.int 2)) .nil)))))))) (.bin .mul (.list (.cons (.cst (.str [112, 114, 101, 100, 105, 99, 116, 111, 114])) .nil)) (.cst (.int 3)))) (.seq (.ret (.cst (.bl false))) (.nil)) (.nil)) (.nil))) (.seq (.ite (.cmp .ne (.comp (.name 3) (.cons (.range1 (.cst (.int 3))) .nil) .no (.call n__law_asked_k31 (.cons (.cst (.int 2)) (.cons (.var 3) (.cons (.tup (.cons (.cst (.str [97, 108, 119, 97, 121, 115])) (.cons (.cst (.int 1)) .nil))) (.cons (.tup (.cons (.cst (.str [110, 111, 110, 101])) .nil)) (.cons (.list (.cons (.tup (.cons (.cst (.int 2)) (.cons (.cst (.int 0)) .nil))) .nil)) (.cons (.cst (.int 2)) .nil)))))))) (.bin .mul (.list (.cons (.cst (.str [114, 111, 119])) .nil)) (.cst (.int 3)))) (.seq (.ret (.cst (.bl false))) (.nil)) (.nil)) (.seq (.ret (.and (.cmp .eq (.comp (.name 3) (.cons (.range1 (.cst (.int 3))) .nil) .no (.call n__law_asked_k31 (.cons (.cst (.int 2)) (.cons (.var 3) (.cons (.tup (.cons (.cst (.str [97, 108, 119, 97, 121, 115])) (.cons (.cst (.int 1)) .nil))) (.cons (.tup (.cons (.cst (.str [110, 111, 110, 101])) .nil)) (.cons (.list .nil) (.cons (.cst (.int 2)) .nil)))))))) (.bin .mul (.list (.cons (.cst (.str [110, 117, 109, 98, 101, 114])) .nil)) (.cst (.int 3)))) (.call n__law_layouts_k31 .nil))) (.nil))))
def c_law_k31 : Sx := .seq (.asg 1 (.call n__law_start (.cons (.var 0) .nil))) (.seq (.asg 2 (.list (.cons (.cst .non) (.cons (.cst (.int 5)) (.cons (.tup .nil) (.cons (.list .nil) (.cons (.list (.cons (.tup .nil) .nil)) (.cons (.list (.cons (.tup (.cons (.cst (.str [97, 110, 121])) (.cons (.cst (.int 0)) .nil))) .nil)) (.cons (.list (.cons (.tup (.cons (.cst (.str [97, 110, 121])) (.cons (.cst (.int 2)) (.cons (.list .nil) .nil)))) .nil)) (.cons (.list (.cons (.tup (.cons (.cst (.str [97, 110, 121])) (.cons (.cst (.bl true)) (.cons (.list .nil) .nil)))) .nil)) (.cons (.list (.cons (.tup (.cons (.cst (.str [97, 110, 121])) (.cons (.cst (.int 0)) (.cons (.cst .non) .nil)))) .nil)) (.cons (.list (.cons (.tup (.cons (.cst (.str [97, 110, 121])) (.cons (.cst (.int 0)) (.cons (.list .nil) (.cons (.list .nil) .nil))))) .nil)) (.cons (.list (.cons (.list (.cons (.cst (.str [97, 110, 121])) (.cons (.cst (.int 0)) (.cons (.list .nil) .nil)))) .nil)) .nil))))))))))))) (.seq (.asg 2 (.bin .add (.var 2) (.list (.cons (.list (.cons (.tup (.cons (.cst (.str [108, 111, 111, 112])) (.cons (.cst (.int 0)) (.cons (.cst (.int 0)) (.cons (.list .nil) .nil))))) .nil)) (.cons (.list (.cons (.tup (.cons (.cst (.str [108, 111, 111, 112])) (.cons (.cst (.int 0)) (.cons (.cst (.int 10)) (.cons (.list .nil) .nil))))) .nil)) (.cons (.list (.cons (.tup (.cons (.cst (.str [108, 111, 111, 112])) (.cons (.cst (.int 0)) (.cons (.list .nil) .nil)))) .nil)) (.cons (.list (.cons (.tup (.cons (.cst (.str [108, 111, 111, 112])) (.cons (.cst (.int 0)) (.cons (.cst (.bl true)) (.cons (.list .nil) .nil))))) .nil)) (.cons (.list (.cons (.tup (.cons (.cst (.str [116, 101, 115, 116])) (.cons (.cst (.int 0)) (.cons (.tup .nil) (.cons (.list .nil) .nil))))) .nil)) .nil)))))))) (.seq (.asg 2 (.bin .add (.var 2) (.list (.cons (.list (.cons (.tup (.cons (.cst (.str [116, 101, 115, 116])) (.cons (.cst (.int 0)) (.cons (.tup (.cons (.cst (.int 2)) .nil)) (.cons (.list .nil) .nil))))) .nil)) (.cons (.list (.cons (.tup (.cons (.cst (.str [116, 101, 115, 116])) (.cons (.cst (.int 0)) (.cons (.list (.cons (.cst (.int 1)) .nil)) (.cons (.list .nil) .nil))))) .nil)) (.cons (.list (.cons (.tup (.cons (.cst (.str [116, 101, 115, 116])) (.cons (.cst (.int 0)) (.cons (.bin .mul (.tup (.cons (.cst (.int 1)) .nil)) (.cst (.int 7))) (.cons (.list .nil) .nil))))) .nil)) (.cons (.list (.cons (.tup (.cons (.cst (.str [116, 101, 115, 116])) (.cons (.cst (.int 0)) (.cons (.tup (.cons (.cst (.bl true)) .nil)) (.cons (.list .nil) .nil))))) .nil)) (.cons (.list (.cons (.tup (.cons (.cst (.str [103, 111])) (.cons (.cst (.int 0)) (.cons (.cst (.int 1)) (.cons (.list .nil) .nil))))) .nil)) .nil)))))))) (.seq (.asg 2 (.bin .add (.var 2) (.list (.cons (.bin .mul (.list (.cons (.tup (.cons (.cst (.str [97, 110, 121])) (.cons (.cst (.int 0)) (.cons (.list .nil) .nil)))) .nil)) (.cst (.int 6))) (.cons (.list (.cons (.tup (.cons (.cst (.str [97, 110, 121])) (.cons (.cst (.int 0)) (.cons (.list (.cons (.tup (.cons (.cst (.str [97, 110, 121])) (.cons (.cst (.int 0)) (.cons (.list (.cons (.tup (.cons (.cst (.str [97, 110, 121])) (.cons (.cst (.int 0)) (.cons (.list (.cons (.tup (.cons (.cst (.str [97, 110, 121])) (.cons (.cst (.int 0)) (.cons (.list .nil) .nil)))) .nil)) .nil)))) .nil)) .nil)))) .nil)) .nil)))) .nil)) (.cons (.list (.cons (.tup (.cons (.cst (.str [97, 110, 121])) (.cons (.cst (.int 0)) (.cons (.list (.cons (.tup (.cons (.cst (.str [97, 110, 121])) (.cons (.cst (.int 2)) (.cons (.list .nil) .nil)))) .nil)) .nil)))) .nil)) (.cons (.tup (.cons (.tup (.cons (.cst (.str [97, 110, 121])) (.cons (.cst (.int 0)) (.cons (.list .nil) .nil)))) .nil)) .nil))))))) (.seq (.forS (.name 3) (.cons (.var 2) .nil) (.seq (.ite (.or (.cmp .notN (.call n_is_program (.cons (.var 3) (.cons (.cst (.int 2)) .nil))) (.cst (.bl false))) (.cmp .ne (.comp (.name 6) (.cons (.range1 (.cst (.int 6))) .nil) .no (.call n__law_asked_k31 (.cons (.cst (.int 1)) (.cons (.var 6) (.cons (.var 3) (.cons (.cst (.int 0)) (.cons (.cst (.int 0)) (.cons (.cst (.int 2)) .nil)))))))) (.bin .mul (.list (.cons (.cst (.str [112, 114, 111, 103, 114, 97, 109])) .nil)) (.cst (.int 6))))) (.seq (.ret (.cst (.bl false))) (.nil)) (.nil)) (.nil))) (.seq (.asg 4 (.list (.cons (.tup (.cons (.cst (.str [116, 101, 115, 116])) (.cons (.cst (.int 1)) (.cons (.tup (.cons (.cst (.int 1)) (.cons (.cst (.int 0)) (.cons (.cst (.int 1)) (.cons (.cst (.int 0)) (.cons (.cst (.int 1)) (.cons (.cst (.int 1)) .nil))))))) (.cons (.list .nil) .nil))))) (.cons (.tup (.cons (.cst (.str [108, 111, 111, 112])) (.cons (.cst (.int 0)) (.cons (.bin .add (.cst (.int 1)) (.call n__law_draw (.cons (.var 1) (.cons (.cst (.int 9)) .nil)))) (.cons (.list (.cons (.tup (.cons (.cst (.str [97, 110, 121])) (.cons (.cst (.int 0)) (.cons (.list (.cons (.tup (.cons (.cst (.str [97, 110, 121])) (.cons (.cst (.int 1)) (.cons (.list .nil) .nil)))) .nil)) .nil)))) .nil)) .nil))))) .nil)))) (.seq (.asg 5 (.comp (.name 6) (.cons (.range1 (.cst (.int 6))) .nil) .no (.call n__law_asked_k31 (.cons (.cst (.int 1)) (.cons (.var 6) (.cons (.var 4) (.cons (.cst (.int 0)) (.cons (.cst (.int 0)) (.cons (.cst (.int 2)) .nil))))))))) (.seq (.ite (.or (.cmp .notN (.call n_is_program (.cons (.var 4) (.cons (.cst (.int 2)) .nil))) (.cst (.bl true))) (.cmp .ne (.bin .add (.slice (.var 5) .no (.cons (.cst (.int 1)) .nil)) (.slice (.var 5) (.cons (.cst (.int 2)) .nil) .no)) (.list (.cons (.cst (.str [110, 111, 110, 101])) (.cons (.cst (.str [100, 111, 110, 101])) (.cons (.cst (.str [100, 111, 110, 101])) (.cons (.cst (.str [112, 114, 111, 103, 114, 97, 109])) (.cons (.cst (.str [100, 111, 110, 101])) .nil)))))))) (.seq (.ret (.cst (.bl false))) (.nil)) (.nil)) (.seq (.ite (.cmp .ne (.idx (.var 5) (.cst (.int 1))) (.ite (.cmp .le (.bin .mul (.bin .mul (.idx (.idx (.var 4) (.cst (.int 1))) (.cst (.int 2))) (.cst (.int 3))) (.cst (.int 6))) (.cst (.int 60))) (.cst (.str [100, 111, 110, 101])) (.idx (.var 5) (.cst (.int 1))))) (.seq (.ret (.cst (.bl false))) (.nil)) (.nil)) (.seq (.ret (.call n__law_sizes .nil)) (.nil)))))))))))
def tb : Nat → Option Fn
  | 8 => some (.code 6 8 c__law_asked_k31)
  | 23 => some (.prim pDraw)
  | 25 => some (.code 1 2 c__law_error)
  | 42 => some (.code 0 3 c__law_layouts_k31)
  | 66 => some (.code 3 3 c__law_one_k31)
  | 87 => some (.code 3 7 c__law_row)
  | 98 => some (.code 0 4 c__law_sizes)
  | 101 => some (.prim pStart)
  | 104 => some (.code 4 4 c__law_three)
  | 110 => some (.code 5 5 c__law_two_k31)
  | 118 => some (.code 3 5 c_after_row)
  | 119 => some (.code 2 8 c_all_of)
  | 124 => some (.code 5 9 c_best_layouts)
  | 130 => some (.code 1 5 c_body_text)
  | 131 => some (.code 2 3 c_branches_of)
  | 132 => some (.code 3 5 c_cell_at)
  | 133 => some (.code 2 2 c_cell_guess)
  | 134 => some (.code 1 1 c_cell_start)
  | 136 => some (.code 3 3 c_cell_told)
  | 142 => some (.code 3 3 c_check_guessing)
  | 144 => some (.code 3 3 c_check_number)
  | 146 => some (.code 4 4 c_check_parts)
  | 147 => some (.code 2 2 c_check_predictor)
  | 148 => some (.code 2 2 c_check_program)
  | 155 => some (.code 2 2 c_check_row)
  | 157 => some (.code 1 1 c_check_size)
  | 161 => some (.code 2 7 c_code_of)
  | 163 => some (.code 2 4 c_count_statements)
  | 165 => some (.code 2 2 c_crossed)
  | 171 => some (.code 2 2 c_format_program)
  | 177 => some (.code 3 3 c_guess_of)
  | 178 => some (.code 3 3 c_guesses)
  | 179 => some (.code 2 6 c_guesses_of)
  | 181 => some (.code 3 3 c_history_after)
  | 184 => some (.code 2 2 c_history_start)
  | 185 => some (.code 4 4 c_history_told)
  | 186 => some (.code 3 4 c_is_body)
  | 187 => some (.code 1 2 c_is_cell)
  | 189 => some (.code 1 1 c_is_history)
  | 191 => some (.code 3 3 c_is_int)
  | 193 => some (.code 4 5 c_is_numbers)
  | 194 => some (.code 1 2 c_is_pattern)
  | 195 => some (.code 2 2 c_is_predictor)
  | 196 => some (.code 2 2 c_is_program)
  | 198 => some (.code 2 3 c_is_row)
  | 200 => some (.code 3 5 c_is_same_layout)
  | 201 => some (.code 3 3 c_is_statement)
  | 235 => some (.code 1 7 c_law_k31)
  | 254 => some (.code 5 6 c_layout_table)
  | 255 => some (.code 2 2 c_layouts)
  | 264 => some (.code 3 3 c_newer)
  | 265 => some (.code 3 5 c_next_guesses)
  | 266 => some (.code 1 3 c_normal)
  | 278 => some (.code 3 5 c_place_of)
  | 284 => some (.code 2 10 c_program_net)
  | 285 => some (.code 2 8 c_program_row)
  | 288 => some (.code 3 4 c_renamed)
  | 289 => some (.code 2 4 c_renamed_body)
  | 297 => some (.code 6 10 c_sharing_cost)
  | 298 => some (.code 1 1 c_start_state)
  | 300 => some (.code 4 8 c_stepped)
  | 301 => some (.code 2 12 c_steps_of)
  | 308 => some (.code 1 1 c_top_of)
  | 315 => some (.code 3 3 c_wrong)
  | 319 => some (.code 2 4 c_wrong_of)
  | _ => none
end BG

namespace BGLaw
open BG PySem L2
def top (i : Nat) : PySem.Stmt := PySem.Challenge.pw_branchguesses_k31_program_errors.main.body.getD i (.Pass ⟨0, 0, 0, 0⟩)
def d_is_int : DefI := ⟨"is_int", n_is_int, top 9, ["value", "low", "high"], ["value", "low", "high"], c_is_int⟩
def d_check_number : DefI := ⟨"check_number", n_check_number, top 10, ["value", "low", "high"], ["value", "low", "high"], c_check_number⟩
def d_is_cell : DefI := ⟨"is_cell", n_is_cell, top 12, ["value", "kind"], ["value"], c_is_cell⟩
def d_top_of : DefI := ⟨"top_of", n_top_of, top 13, ["cell"], ["cell"], c_top_of⟩
def d_cell_start : DefI := ⟨"cell_start", n_cell_start, top 14, ["cell"], ["cell"], c_cell_start⟩
def d_cell_guess : DefI := ⟨"cell_guess", n_cell_guess, top 15, ["cell", "state"], ["cell", "state"], c_cell_guess⟩
def d_cell_told : DefI := ⟨"cell_told", n_cell_told, top 16, ["cell", "state", "way"], ["cell", "state", "way"], c_cell_told⟩
def d_history_start : DefI := ⟨"history_start", n_history_start, top 18, ["history", "size"], ["history", "size"], c_history_start⟩
def d_newer : DefI := ⟨"newer", n_newer, top 19, ["value", "bits", "way"], ["value", "bits", "way"], c_newer⟩
def d_history_told : DefI := ⟨"history_told", n_history_told, top 20, ["history", "state", "branch", "way"], ["history", "state", "branch", "way"], c_history_told⟩
def d_place_of : DefI := ⟨"place_of", n_place_of, top 21, ["predictor", "state", "branch", "history", "entry"], ["predictor", "state", "branch"], c_place_of⟩
def d_crossed : DefI := ⟨"crossed", n_crossed, top 22, ["one", "other"], ["one", "other"], c_crossed⟩
def d_start_state : DefI := ⟨"start_state", n_start_state, top 24, ["predictor"], ["predictor"], c_start_state⟩
def d_cell_at : DefI := ⟨"cell_at", n_cell_at, top 25, ["predictor", "state", "place", "where", "own"], ["predictor", "state", "place"], c_cell_at⟩
def d_guess_of : DefI := ⟨"guess_of", n_guess_of, top 26, ["predictor", "state", "branch"], ["predictor", "state", "branch"], c_guess_of⟩
def d_stepped : DefI := ⟨"stepped", n_stepped, top 27, ["predictor", "state", "branch", "way", "place", "own", "cells", "one"], ["predictor", "state", "branch", "way"], c_stepped⟩
def d_guesses_of : DefI := ⟨"guesses_of", n_guesses_of, top 28, ["predictor", "row", "state", "found", "branch", "way"], ["predictor", "row"], c_guesses_of⟩
def d_wrong_of : DefI := ⟨"wrong_of", n_wrong_of, top 29, ["predictor", "row", "guess", "one"], ["predictor", "row"], c_wrong_of⟩
def d_is_history : DefI := ⟨"is_history", n_is_history, top 32, ["value"], ["value"], c_is_history⟩
def d_check_size : DefI := ⟨"check_size", n_check_size, top 33, ["size"], ["size"], c_check_size⟩
def d_is_row : DefI := ⟨"is_row", n_is_row, top 36, ["value", "size", "one"], ["value", "size"], c_is_row⟩
def d_check_row : DefI := ⟨"check_row", n_check_row, top 37, ["value", "size"], ["value", "size"], c_check_row⟩
def d_all_of : DefI := ⟨"all_of", n_all_of, top 39, ["size", "entries", "found", "branch", "longer", "one", "top", "entry"], ["size", "entries"], c_all_of⟩
def d_layouts : DefI := ⟨"layouts", n_layouts, top 40, ["size", "entries"], ["size", "entries"], c_layouts⟩
def d_check_parts : DefI := ⟨"check_parts", n_check_parts, top 41, ["cell", "history", "row", "size"], ["cell", "history", "row", "size"], c_check_parts⟩
def d_layout_table : DefI := ⟨"layout_table", n_layout_table, top 42, ["cell", "history", "row", "size", "entries", "one"], ["cell", "history", "row", "size", "entries"], c_layout_table⟩
def d_best_layouts : DefI := ⟨"best_layouts", n_best_layouts, top 43, ["cell", "history", "row", "size", "entries", "table", "least", "one", "missed"], ["cell", "history", "row", "size", "entries"], c_best_layouts⟩
def d_normal : DefI := ⟨"normal", n_normal, top 44, ["layout", "seen", "entry"], ["layout"], c_normal⟩
def d_sharing_cost : DefI := ⟨"sharing_cost", n_sharing_cost, top 45, ["cell", "history", "row", "size", "one", "other", "shared", "low", "high", "branch"], ["cell", "history", "row", "size", "one", "other"], c_sharing_cost⟩
def d_is_same_layout : DefI := ⟨"is_same_layout", n_is_same_layout, top 46, ["one", "other", "size", "layout", "entry"], ["one", "other", "size"], c_is_same_layout⟩
def d_is_statement : DefI := ⟨"is_statement", n_is_statement, top 49, ["value", "size", "depth"], ["value", "size", "depth"], c_is_statement⟩
def d_is_pattern : DefI := ⟨"is_pattern", n_is_pattern, top 50, ["value", "one"], ["value"], c_is_pattern⟩
def d_is_body : DefI := ⟨"is_body", n_is_body, top 51, ["value", "size", "depth", "one"], ["value", "size", "depth"], c_is_body⟩
def d_is_program : DefI := ⟨"is_program", n_is_program, top 52, ["value", "size"], ["value", "size"], c_is_program⟩
def d_check_program : DefI := ⟨"check_program", n_check_program, top 53, ["value", "size"], ["value", "size"], c_check_program⟩
def d_code_of : DefI := ⟨"code_of", n_code_of, top 54, ["body", "first", "found", "one", "here", "inner", "data"], ["body", "first"], c_code_of⟩
def d_steps_of : DefI := ⟨"steps_of", n_steps_of, top 55, ["code", "state", "own", "place", "numbers", "kind", "branch", "data", "yes", "no", "way", "number"], ["code", "state"], c_steps_of⟩
def d_program_row : DefI := ⟨"program_row", n_program_row, top 56, ["program", "size", "code", "state", "found", "branch", "way", "one"], ["program", "size"], c_program_row⟩
def d_program_net : DefI := ⟨"program_net", n_program_net, top 57, ["program", "size", "code", "nodes", "net", "edges", "branch", "way", "after", "fresh"], ["program", "size"], c_program_net⟩
def d_branches_of : DefI := ⟨"branches_of", n_branches_of, top 58, ["program", "size", "one"], ["program", "size"], c_branches_of⟩
def d_count_statements : DefI := ⟨"count_statements", n_count_statements, top 59, ["program", "size", "kinds", "one"], ["program", "size"], c_count_statements⟩
def d_renamed : DefI := ⟨"renamed", n_renamed, top 60, ["program", "size", "names", "one"], ["program", "size", "names"], c_renamed⟩
def d_renamed_body : DefI := ⟨"renamed_body", n_renamed_body, top 61, ["body", "names", "found", "one"], ["body", "names"], c_renamed_body⟩
def d_body_text : DefI := ⟨"body_text", n_body_text, top 63, ["body", "found", "one", "middle", "way"], ["body"], c_body_text⟩
def d_format_program : DefI := ⟨"format_program", n_format_program, top 64, ["program", "size"], ["program", "size"], c_format_program⟩
def d__law_error : DefI := ⟨"_law_error", n__law_error, top 68, ["caught", "kinds"], ["caught"], c__law_error⟩
def d__law_one_k31 : DefI := ⟨"_law_one", n__law_one_k31, top 69, ["which", "program", "size"], ["which", "program", "size"], c__law_one_k31⟩
def d__law_two_k31 : DefI := ⟨"_law_two", n__law_two_k31, top 70, ["which", "cell", "history", "row", "size"], ["which", "cell", "history", "row", "size"], c__law_two_k31⟩
def d__law_three : DefI := ⟨"_law_three", n__law_three, top 71, ["which", "one", "two", "size"], ["which", "one", "two", "size"], c__law_three⟩
def d__law_asked_k31 : DefI := ⟨"_law_asked", n__law_asked_k31, top 72, ["group", "which", "one", "two", "three", "size", "caught", "e"], ["group", "which", "one", "two", "three", "size"], c__law_asked_k31⟩
def d__law_layouts_k31 : DefI := ⟨"_law_layouts", n__law_layouts_k31, top 73, ["bad", "told", "k"], [], c__law_layouts_k31⟩
def d__law_sizes : DefI := ⟨"_law_sizes", n__law_sizes, top 74, ["bad", "cell", "history", "k"], [], c__law_sizes⟩
def d_law_k31 : DefI := ⟨"law", n_law_k31, top 75, ["script", "draws", "odd", "bad", "good", "told", "k"], ["script"], c_law_k31⟩
def ds : List DefI := (([d_is_int, d_check_number, d_is_cell, d_top_of, d_cell_start, d_cell_guess, d_cell_told, d_history_start, d_newer, d_history_told, d_place_of, d_crossed, d_start_state, d_cell_at, d_guess_of, d_stepped, d_guesses_of, d_wrong_of, d_is_history, d_check_size] : List (DefI)) ++ (([d_is_row, d_check_row, d_all_of, d_layouts, d_check_parts, d_layout_table, d_best_layouts, d_normal, d_sharing_cost, d_is_same_layout, d_is_statement, d_is_pattern, d_is_body, d_is_program, d_check_program, d_code_of, d_steps_of, d_program_row, d_program_net, d_branches_of] : List (DefI)) ++ ([d_count_statements, d_renamed, d_renamed_body, d_body_text, d_format_program, d__law_error, d__law_one_k31, d__law_two_k31, d__law_three, d__law_asked_k31, d__law_layouts_k31, d__law_sizes, d_law_k31] : List (DefI))))
def frees : List PySem.Str := (["ValueError", "all", "any", "bool", "int", "isinstance", "len", "list", "max", "min", "range", "set", "sorted", "str", "tuple", "zip"] : List (PySem.Str))
def conss : List (PySem.Str × Val) := ([("MOST_BRANCHES", (.int 4)), ("MOST_ROW", (.int 400)), ("MOST_NET", (.int 60))] : List (PySem.Str × Val))
def L : LawD := ⟨ds, top 66, top 67, n__law_start, n__law_draw, frees, conss, [0, 1, 2, 3, 4, 5, 6, 7]⟩
theorem k_is_int : DataOk tb L.S d_is_int := ⟨rfl, by decide +kernel, fun _ _ _ _ _ _ us hl => match us, hl with | [_, _, _], _ => rfl⟩
theorem k_check_number : DataOk tb L.S d_check_number := ⟨rfl, by decide +kernel, fun _ _ _ _ _ _ us hl => match us, hl with | [_, _, _], _ => rfl⟩
theorem k_is_cell : DataOk tb L.S d_is_cell := ⟨rfl, by decide +kernel, fun _ _ _ _ _ _ us hl => match us, hl with | [_], _ => rfl⟩
theorem k_top_of : DataOk tb L.S d_top_of := ⟨rfl, by decide +kernel, fun _ _ _ _ _ _ us hl => match us, hl with | [_], _ => rfl⟩
theorem k_cell_start : DataOk tb L.S d_cell_start := ⟨rfl, by decide +kernel, fun _ _ _ _ _ _ us hl => match us, hl with | [_], _ => rfl⟩
theorem k_cell_guess : DataOk tb L.S d_cell_guess := ⟨rfl, by decide +kernel, fun _ _ _ _ _ _ us hl => match us, hl with | [_, _], _ => rfl⟩
theorem k_cell_told : DataOk tb L.S d_cell_told := ⟨rfl, by decide +kernel, fun _ _ _ _ _ _ us hl => match us, hl with | [_, _, _], _ => rfl⟩
theorem k_history_start : DataOk tb L.S d_history_start := ⟨rfl, by decide +kernel, fun _ _ _ _ _ _ us hl => match us, hl with | [_, _], _ => rfl⟩
theorem k_newer : DataOk tb L.S d_newer := ⟨rfl, by decide +kernel, fun _ _ _ _ _ _ us hl => match us, hl with | [_, _, _], _ => rfl⟩
theorem k_history_told : DataOk tb L.S d_history_told := ⟨rfl, by decide +kernel, fun _ _ _ _ _ _ us hl => match us, hl with | [_, _, _, _], _ => rfl⟩
theorem k_place_of : DataOk tb L.S d_place_of := ⟨rfl, by decide +kernel, fun _ _ _ _ _ _ us hl => match us, hl with | [_, _, _], _ => rfl⟩
theorem k_crossed : DataOk tb L.S d_crossed := ⟨rfl, by decide +kernel, fun _ _ _ _ _ _ us hl => match us, hl with | [_, _], _ => rfl⟩
theorem k_start_state : DataOk tb L.S d_start_state := ⟨rfl, by decide +kernel, fun _ _ _ _ _ _ us hl => match us, hl with | [_], _ => rfl⟩
theorem k_cell_at : DataOk tb L.S d_cell_at := ⟨rfl, by decide +kernel, fun _ _ _ _ _ _ us hl => match us, hl with | [_, _, _], _ => rfl⟩
theorem k_guess_of : DataOk tb L.S d_guess_of := ⟨rfl, by decide +kernel, fun _ _ _ _ _ _ us hl => match us, hl with | [_, _, _], _ => rfl⟩
theorem k_stepped : DataOk tb L.S d_stepped := ⟨rfl, by decide +kernel, fun _ _ _ _ _ _ us hl => match us, hl with | [_, _, _, _], _ => rfl⟩
theorem k_guesses_of : DataOk tb L.S d_guesses_of := ⟨rfl, by decide +kernel, fun _ _ _ _ _ _ us hl => match us, hl with | [_, _], _ => rfl⟩
theorem k_wrong_of : DataOk tb L.S d_wrong_of := ⟨rfl, by decide +kernel, fun _ _ _ _ _ _ us hl => match us, hl with | [_, _], _ => rfl⟩
theorem k_is_history : DataOk tb L.S d_is_history := ⟨rfl, by decide +kernel, fun _ _ _ _ _ _ us hl => match us, hl with | [_], _ => rfl⟩
theorem k_check_size : DataOk tb L.S d_check_size := ⟨rfl, by decide +kernel, fun _ _ _ _ _ _ us hl => match us, hl with | [_], _ => rfl⟩
theorem k_is_row : DataOk tb L.S d_is_row := ⟨rfl, by decide +kernel, fun _ _ _ _ _ _ us hl => match us, hl with | [_, _], _ => rfl⟩
theorem k_check_row : DataOk tb L.S d_check_row := ⟨rfl, by decide +kernel, fun _ _ _ _ _ _ us hl => match us, hl with | [_, _], _ => rfl⟩
theorem k_all_of : DataOk tb L.S d_all_of := ⟨rfl, by decide +kernel, fun _ _ _ _ _ _ us hl => match us, hl with | [_, _], _ => rfl⟩
theorem k_layouts : DataOk tb L.S d_layouts := ⟨rfl, by decide +kernel, fun _ _ _ _ _ _ us hl => match us, hl with | [_, _], _ => rfl⟩
theorem k_check_parts : DataOk tb L.S d_check_parts := ⟨rfl, by decide +kernel, fun _ _ _ _ _ _ us hl => match us, hl with | [_, _, _, _], _ => rfl⟩
theorem k_layout_table : DataOk tb L.S d_layout_table := ⟨rfl, by decide +kernel, fun _ _ _ _ _ _ us hl => match us, hl with | [_, _, _, _, _], _ => rfl⟩
theorem k_best_layouts : DataOk tb L.S d_best_layouts := ⟨rfl, by decide +kernel, fun _ _ _ _ _ _ us hl => match us, hl with | [_, _, _, _, _], _ => rfl⟩
theorem k_normal : DataOk tb L.S d_normal := ⟨rfl, by decide +kernel, fun _ _ _ _ _ _ us hl => match us, hl with | [_], _ => rfl⟩
theorem k_sharing_cost : DataOk tb L.S d_sharing_cost := ⟨rfl, by decide +kernel, fun _ _ _ _ _ _ us hl => match us, hl with | [_, _, _, _, _, _], _ => rfl⟩
theorem k_is_same_layout : DataOk tb L.S d_is_same_layout := ⟨rfl, by decide +kernel, fun _ _ _ _ _ _ us hl => match us, hl with | [_, _, _], _ => rfl⟩
theorem k_is_statement : DataOk tb L.S d_is_statement := ⟨rfl, by decide +kernel, fun _ _ _ _ _ _ us hl => match us, hl with | [_, _, _], _ => rfl⟩
theorem k_is_pattern : DataOk tb L.S d_is_pattern := ⟨rfl, by decide +kernel, fun _ _ _ _ _ _ us hl => match us, hl with | [_], _ => rfl⟩
theorem k_is_body : DataOk tb L.S d_is_body := ⟨rfl, by decide +kernel, fun _ _ _ _ _ _ us hl => match us, hl with | [_, _, _], _ => rfl⟩
theorem k_is_program : DataOk tb L.S d_is_program := ⟨rfl, by decide +kernel, fun _ _ _ _ _ _ us hl => match us, hl with | [_, _], _ => rfl⟩
theorem k_check_program : DataOk tb L.S d_check_program := ⟨rfl, by decide +kernel, fun _ _ _ _ _ _ us hl => match us, hl with | [_, _], _ => rfl⟩
theorem k_code_of : DataOk tb L.S d_code_of := ⟨rfl, by decide +kernel, fun _ _ _ _ _ _ us hl => match us, hl with | [_, _], _ => rfl⟩
theorem k_steps_of : DataOk tb L.S d_steps_of := ⟨rfl, by decide +kernel, fun _ _ _ _ _ _ us hl => match us, hl with | [_, _], _ => rfl⟩
theorem k_program_row : DataOk tb L.S d_program_row := ⟨rfl, by decide +kernel, fun _ _ _ _ _ _ us hl => match us, hl with | [_, _], _ => rfl⟩
theorem k_program_net : DataOk tb L.S d_program_net := ⟨rfl, by decide +kernel, fun _ _ _ _ _ _ us hl => match us, hl with | [_, _], _ => rfl⟩
theorem k_branches_of : DataOk tb L.S d_branches_of := ⟨rfl, by decide +kernel, fun _ _ _ _ _ _ us hl => match us, hl with | [_, _], _ => rfl⟩
theorem k_count_statements : DataOk tb L.S d_count_statements := ⟨rfl, by decide +kernel, fun _ _ _ _ _ _ us hl => match us, hl with | [_, _], _ => rfl⟩
theorem k_renamed : DataOk tb L.S d_renamed := ⟨rfl, by decide +kernel, fun _ _ _ _ _ _ us hl => match us, hl with | [_, _, _], _ => rfl⟩
theorem k_renamed_body : DataOk tb L.S d_renamed_body := ⟨rfl, by decide +kernel, fun _ _ _ _ _ _ us hl => match us, hl with | [_, _], _ => rfl⟩
theorem k_body_text : DataOk tb L.S d_body_text := ⟨rfl, by decide +kernel, fun _ _ _ _ _ _ us hl => match us, hl with | [_], _ => rfl⟩
theorem k_format_program : DataOk tb L.S d_format_program := ⟨rfl, by decide +kernel, fun _ _ _ _ _ _ us hl => match us, hl with | [_, _], _ => rfl⟩
theorem k__law_error : DataOk tb L.S d__law_error := ⟨rfl, by decide +kernel, fun _ _ _ _ _ _ us hl => match us, hl with | [_], _ => rfl⟩
theorem k__law_one_k31 : DataOk tb L.S d__law_one_k31 := ⟨rfl, by decide +kernel, fun _ _ _ _ _ _ us hl => match us, hl with | [_, _, _], _ => rfl⟩
theorem k__law_two_k31 : DataOk tb L.S d__law_two_k31 := ⟨rfl, by decide +kernel, fun _ _ _ _ _ _ us hl => match us, hl with | [_, _, _, _, _], _ => rfl⟩
theorem k__law_three : DataOk tb L.S d__law_three := ⟨rfl, by decide +kernel, fun _ _ _ _ _ _ us hl => match us, hl with | [_, _, _, _], _ => rfl⟩
theorem k__law_asked_k31 : DataOk tb L.S d__law_asked_k31 := ⟨rfl, by decide +kernel, fun _ _ _ _ _ _ us hl => match us, hl with | [_, _, _, _, _, _], _ => rfl⟩
theorem k__law_layouts_k31 : DataOk tb L.S d__law_layouts_k31 := ⟨rfl, by decide +kernel, fun _ _ _ _ _ _ us hl => match us, hl with | [], _ => rfl⟩
theorem k__law_sizes : DataOk tb L.S d__law_sizes := ⟨rfl, by decide +kernel, fun _ _ _ _ _ _ us hl => match us, hl with | [], _ => rfl⟩
theorem k_law_k31 : DataOk tb L.S d_law_k31 := ⟨rfl, by decide +kernel, fun _ _ _ _ _ _ us hl => match us, hl with | [_], _ => rfl⟩
theorem ok : LawOk tb L where
  ds := (List.forall_mem_append.mpr ⟨(List.forall_mem_cons.mpr ⟨k_is_int, (List.forall_mem_cons.mpr ⟨k_check_number, (List.forall_mem_cons.mpr ⟨k_is_cell, (List.forall_mem_cons.mpr ⟨k_top_of, (List.forall_mem_cons.mpr ⟨k_cell_start, (List.forall_mem_cons.mpr ⟨k_cell_guess, (List.forall_mem_cons.mpr ⟨k_cell_told, (List.forall_mem_cons.mpr ⟨k_history_start, (List.forall_mem_cons.mpr ⟨k_newer, (List.forall_mem_cons.mpr ⟨k_history_told, (List.forall_mem_cons.mpr ⟨k_place_of, (List.forall_mem_cons.mpr ⟨k_crossed, (List.forall_mem_cons.mpr ⟨k_start_state, (List.forall_mem_cons.mpr ⟨k_cell_at, (List.forall_mem_cons.mpr ⟨k_guess_of, (List.forall_mem_cons.mpr ⟨k_stepped, (List.forall_mem_cons.mpr ⟨k_guesses_of, (List.forall_mem_cons.mpr ⟨k_wrong_of, (List.forall_mem_cons.mpr ⟨k_is_history, (List.forall_mem_cons.mpr ⟨k_check_size, (fun _ h => nomatch h)⟩)⟩)⟩)⟩)⟩)⟩)⟩)⟩)⟩)⟩)⟩)⟩)⟩)⟩)⟩)⟩)⟩)⟩)⟩)⟩), (List.forall_mem_append.mpr ⟨(List.forall_mem_cons.mpr ⟨k_is_row, (List.forall_mem_cons.mpr ⟨k_check_row, (List.forall_mem_cons.mpr ⟨k_all_of, (List.forall_mem_cons.mpr ⟨k_layouts, (List.forall_mem_cons.mpr ⟨k_check_parts, (List.forall_mem_cons.mpr ⟨k_layout_table, (List.forall_mem_cons.mpr ⟨k_best_layouts, (List.forall_mem_cons.mpr ⟨k_normal, (List.forall_mem_cons.mpr ⟨k_sharing_cost, (List.forall_mem_cons.mpr ⟨k_is_same_layout, (List.forall_mem_cons.mpr ⟨k_is_statement, (List.forall_mem_cons.mpr ⟨k_is_pattern, (List.forall_mem_cons.mpr ⟨k_is_body, (List.forall_mem_cons.mpr ⟨k_is_program, (List.forall_mem_cons.mpr ⟨k_check_program, (List.forall_mem_cons.mpr ⟨k_code_of, (List.forall_mem_cons.mpr ⟨k_steps_of, (List.forall_mem_cons.mpr ⟨k_program_row, (List.forall_mem_cons.mpr ⟨k_program_net, (List.forall_mem_cons.mpr ⟨k_branches_of, (fun _ h => nomatch h)⟩)⟩)⟩)⟩)⟩)⟩)⟩)⟩)⟩)⟩)⟩)⟩)⟩)⟩)⟩)⟩)⟩)⟩)⟩)⟩), (List.forall_mem_cons.mpr ⟨k_count_statements, (List.forall_mem_cons.mpr ⟨k_renamed, (List.forall_mem_cons.mpr ⟨k_renamed_body, (List.forall_mem_cons.mpr ⟨k_body_text, (List.forall_mem_cons.mpr ⟨k_format_program, (List.forall_mem_cons.mpr ⟨k__law_error, (List.forall_mem_cons.mpr ⟨k__law_one_k31, (List.forall_mem_cons.mpr ⟨k__law_two_k31, (List.forall_mem_cons.mpr ⟨k__law_three, (List.forall_mem_cons.mpr ⟨k__law_asked_k31, (List.forall_mem_cons.mpr ⟨k__law_layouts_k31, (List.forall_mem_cons.mpr ⟨k__law_sizes, (List.forall_mem_cons.mpr ⟨k_law_k31, (fun _ h => nomatch h)⟩)⟩)⟩)⟩)⟩)⟩)⟩)⟩)⟩)⟩)⟩)⟩)⟩)⟩)⟩)
  start := fun P w K mg base f fd F m => start_ok F ⟨rfl, rfl, rfl, by decide +kernel, rfl, by decide +kernel, by decide +kernel⟩ rfl rfl m
  draw := fun P w K mg base f fd F m => draw_ok F ⟨rfl, rfl, rfl, by decide +kernel, rfl, by decide +kernel, by decide +kernel⟩ rfl rfl rfl rfl rfl rfl m
  bS := fun _ _ _ _ _ _ us hl => match us, hl with | [_], _ => rfl
  bD := fun _ _ _ _ _ _ us hl => match us, hl with | [_, _], _ => rfl
  tS := rfl
  tD := rfl
  fl := by decide +kernel
  fe := by decide +kernel
  co := by decide +kernel
abbrev R : PySem.W.OpenRow := PySem.W.OpenLaw.row PySem.Challenge.rw_branchguesses_k31_program_errors
abbrev hk : PySem.W.Hook := He.hookX 4 L.fa L.fn [] [] (xFact L.excs)
def loose : List PySem.Str := ((["GuessError", "BadPredictor", "BadRow", "BadNet", "BadProgram", "BadNumber", "BadText", "NotFound", "is_int", "check_number", "is_cell", "top_of", "cell_start", "cell_guess", "cell_told", "history_start", "newer", "history_told", "place_of", "crossed"] : List (PySem.Str)) ++ ((["start_state", "cell_at", "guess_of", "stepped", "guesses_of", "wrong_of", "MOST_BRANCHES", "is_history", "check_size", "MOST_ROW", "is_row", "check_row", "all_of", "layouts", "check_parts", "layout_table", "best_layouts", "normal", "sharing_cost", "is_same_layout"] : List (PySem.Str)) ++ ((["MOST_NET", "is_statement", "is_pattern", "is_body", "is_program", "check_program", "code_of", "steps_of", "program_row", "program_net", "branches_of", "count_statements", "renamed", "renamed_body", "body_text", "format_program", "_law_start", "_law_draw", "_law_error", "_law_one"] : List (PySem.Str)) ++ (["_law_two", "_law_three", "_law_asked", "_law_layouts", "_law_sizes"] : List (PySem.Str)))))
def ob (s : PySem.W.SharedT) : He.AlX := He.obsX 4 L.fa L.fn [] [] (xFact L.excs) (HandSHeadRun.getT s)
theorem ob_eq (s : PySem.W.SharedT) : ob s = hk.obs s.abs := He.obsX_eq (HandSHeadRun.getT_eq s)
theorem rune (w : PySem.World) : HandSHeadRun.RunEq R (PySem.W.view R.prog [75]) hk ob 7600 loose w := by
  intro os
  kernel_rfl
end BGLaw
/-! BG.M0: the evaluator's equations for simp, with the order of work kept (no work behind a bind before its head is done). -/
namespace BG
theorem run_code {n f np ns : Nat} {b : Sx} {xs : List Val} {s : DSt} (h : tb f = some (.code np ns b)) : run tb (n + 1) f xs s = runBody (run tb n) np ns b xs s := by
  simp only [run, h]
theorem run_prim {n f : Nat} {p : List Val → DSt → Out Val} {xs : List Val} {s : DSt} (h : tb f = some (.prim p)) : run tb (n + 1) f xs s = p xs s := by
  simp only [run, h]
def OutS.then (x : OutS) (f : Env → DSt → OutS) : OutS :=
  match x with
  | .next e s => f e s
  | x => x
@[simp] theorem then_next {e : Env} {s : DSt} {f : Env → DSt → OutS} : (OutS.next e s).then f = f e s := rfl
@[simp] theorem then_ret {v : Val} {s : DSt} {f : Env → DSt → OutS} : (OutS.ret v s).then f = .ret v s := rfl
@[simp] theorem then_brk {e : Env} {s : DSt} {f : Env → DSt → OutS} : (OutS.brk e s).then f = .brk e s := rfl
@[simp] theorem then_cont {e : Env} {s : DSt} {f : Env → DSt → OutS} : (OutS.cont e s).then f = .cont e s := rfl
@[simp] theorem then_exc {c : Nat} {e : Env} {s : DSt} {f : Env → DSt → OutS} : (OutS.exc c e s).then f = .exc c e s := rfl
@[simp] theorem then_bad {f : Env → DSt → OutS} : (OutS.bad).then f = .bad := rfl
def getV (o : Option (Option Val)) (s : DSt) : Out Val :=
  match o with
  | some (some v) => .ok v s
  | _ => .bad
@[simp] theorem getV_some {v : Val} {s : DSt} : getV (some (some v)) s = .ok v s := rfl
def endV (o : OutS) : Out Val :=
  match o with
  | .next _ s => .ok .non s
  | .ret v s => .ok v s
  | .exc c _ s => .exc c s
  | _ => .bad
@[simp] theorem endV_next {e : Env} {s : DSt} : endV (.next e s) = .ok .non s := rfl
@[simp] theorem endV_exc {c : Nat} {e : Env} {s : DSt} : endV (.exc c e s) = .exc c s := rfl
@[simp] theorem endV_ret {v : Val} {s : DSt} : endV (.ret v s) = .ok v s := rfl
section
variable (cf : Nat → List Val → DSt → Out Val) (a b c r lo hi src cond elt : Ex) (e : Env) (i : Nat) (k : BinK) (q q' : CmpK) (kb : BiK) (km : MeK) (ty : TyK) (t : Tg) (sa sb : Sx)
def kTwoN {α : Type} (op : Val → Val → DSt → Out α) : Val → DSt → Out α := fun x s => (ev cf b e s).noexc.bind (op x)
def kTwo {α : Type} (op : Val → Val → DSt → Out α) : Val → DSt → Out α := fun x s => (ev cf b e s).bind (op x)
def opBin : Val → Val → DSt → Out Val := fun x y s => lift (vbin k x y) s
def opCmp : Val → Val → DSt → Out Val := fun x y s => lift ((vcmp q x y).map .bl) s
def opIdx : Val → Val → DSt → Out Val := fun x y s => lift (vidx x y) s
def opMe : Val → Val → DSt → Out Val := fun x y s => lift (vmeth km x y) s
def opNeg : Val → DSt → Out Val := fun x s => match x with
  | .int i => .ok (.int (-i)) s
  | _ => .bad
def opNot : Val → DSt → Out Val := fun x s => match x with
  | .bl b => .ok (.bl (!b)) s
  | _ => .bad
def kSel : Val → DSt → Out Val := fun x s => match x with
  | .bl true => ev cf a e s
  | .bl false => ev cf b e s
  | _ => .bad
def kAnd : Val → DSt → Out Val := fun x s => match x with
  | .bl true => ev cf b e s
  | .bl false => .ok (.bl false) s
  | _ => .bad
def kOr : Val → DSt → Out Val := fun x s => match x with
  | .bl false => ev cf b e s
  | .bl true => .ok (.bl true) s
  | _ => .bad
def chC (y : Val) (o : Option Bool) : DSt → Out Val := fun s => match o with
  | some true => (ev cf c e s).bind (opCmp q' y)
  | some false => .ok (.bl false) s
  | none => .bad
def chB (x y : Val) : DSt → Out Val := fun s => chC cf c e q' y (vcmp q x y) s
def chA : Val → DSt → Out Val := fun x s => (ev cf b e s).bind (chB cf c e q q' x)
def mkT : List Val → DSt → Out Val := fun xs s => .ok (.tup xs) s
def mkL : List Val → DSt → Out Val := fun xs s => .ok (.lst xs) s
def slC (x : Val) (l h : Option Int) : DSt → Out Val := fun s => lift (vslice x l h) s
def slB (x : Val) (l : Option Int) : DSt → Out Val := fun s => (evo cf hi e s).bind (slC x l)
def slA : Val → DSt → Out Val := fun x s => (evo cf lo e s).bind (slB cf hi e x)
def opBi : List Val → DSt → Out Val := fun xs s => lift (vbi kb xs) s
def opIs : Val → DSt → Out Val := fun x s => lift ((isty ty x).map .bl) s
def mkS : Val → DSt → Out (Option Val) := fun y s => .ok (some y) s
def kIf : Val → DSt → Out (Option Val) := fun x s => match x with
  | .bl true => (ev cf elt e s).bind mkS
  | .bl false => .ok none s
  | _ => .bad
def oneC (s : DSt) : Out (Option Val) :=
  match cond with
  | .no => (ev cf elt e s).bind mkS
  | _ => (ev cf cond e s).bind (kIf cf elt e)
def kComp : List Val → DSt → Out Val := fun xs s => (compL (oneC cf cond elt) t (wipeE e (slots t)) xs s).noexc.bind mkL
def rg1 : Val → DSt → Out Val := fun x s => match x with
  | .int n => if n ≤ lim ∧ -1000000 ≤ n then .ok (.lst (rangeL 0 n.toNat)) s else .bad
  | _ => .bad
def rg2 : Val → Val → DSt → Out Val := fun x y s => match x, y with
  | .int m, .int n => if n ≤ lim ∧ -1000000 ≤ n ∧ m ≤ lim ∧ 0 ≤ m then .ok (.lst (rangeL m (n - m).toNat)) s else .bad
  | _, _ => .bad
def kCons2 (x : Val) : List Val → DSt → Out (List Val) := fun xs s => .ok (x :: xs) s
def kCons : Val → DSt → Out (List Val) := fun x s => (evs cf r e s).bind (kCons2 x)
def opOpt : Val → DSt → Out (Option Int) := fun x s => lift (asOpt x) s
def seqV : Val → DSt → Out (List Val) := fun x s => match x with
  | .lst xs => .ok xs s
  | .tup xs => .ok xs s
  | _ => .bad
def enE : Val → DSt → Out (List Val) := fun x s => match x with
  | .lst xs => .ok (enumV xs) s
  | _ => .bad
def ziE : Val → Val → DSt → Out (List Val) := fun x y s => match x, y with
  | .lst xs, .lst ys => .ok (zipV xs ys) s
  | _, _ => .bad
def sSet : Val → DSt → OutS := fun x s => nextIf (setE e i x) s
def sTg : Val → DSt → OutS := fun x s => nextIf (bindT t x e) s
def sPar : List Val → DSt → OutS := fun xs s => nextIf (bindTs t xs e) s
def sAug (x : Int) : Val → DSt → OutS := fun y s => match y with
  | .int y => nextIf ((augI k x y).bind fun z => setE e i (.int z)) s
  | _ => .bad
def augS (o : Option (Option Val)) (y : Out Val) : OutS :=
  match o with
  | some (some (.int x)) => y.thenS e (sAug e i k x)
  | _ => .bad
def sExt (xs : List Val) : Val → DSt → OutS := fun y s => match y with
  | .lst ys => if xs.length + ys.length ≤ lim then nextIf (setE e i (.lst (xs ++ ys))) s else .bad
  | _ => .bad
def extS (o : Option (Option Val)) (y : Out Val) : OutS :=
  match o with
  | some (some (.lst xs)) => y.thenS e (sExt e i xs)
  | _ => .bad
def appS (o : Option (Option Val)) (y : Val) (s : DSt) : OutS :=
  match o with
  | some (some (.lst xs)) => if xs.length < lim then nextIf (setE e i (.lst (xs ++ [y]))) s else .bad
  | _ => .bad
def sApp : Val → DSt → OutS := fun y s => appS e i e[i]? y s
def setS (o : Option (Option Val)) (j y : Val) (s : DSt) : OutS :=
  match o, j with
  | some (some (.lst xs)), .int j => match place j xs.length with
    | some k => nextIf (setE e i (.lst (xs.set k y))) s
    | none => .bad
  | some (some (.dcn ks vs)), q => if dOk ks q = true ∧ vs.length < lim then nextIf (setE e i (.dcn (dputK ks q) (dputV ks vs q y))) s else .bad
  | _, _ => .bad
def sSt2 (y : Val) : Val → DSt → OutS := fun j s => setS e i e[i]? j y s
def sSt1 : Val → DSt → OutS := fun y s => (ev cf b e s).noexc.thenS e (sSt2 e i y)
def sNx : Val → DSt → OutS := fun _ s => .next e s
def sSel : Val → DSt → OutS := fun x s => match x with
  | .bl true => exec cf sa e s
  | .bl false => exec cf sb e s
  | _ => .bad
def sFor : List Val → DSt → OutS := fun xs s => forL t (exec cf sa) xs e s
def sRet : Val → DSt → OutS := fun x s => .ret x s
end
def opDg (v q z : Val) (s : DSt) : Out Val := lift (vget v q z) s
def kDg2 (cf : Nat → List Val → DSt → Out Val) (x : Ex) (e : Env) (v q : Val) (s : DSt) : Out Val := (ev cf x e s).noexc.bind (opDg v q)
def kDg (cf : Nat → List Val → DSt → Out Val) (k x : Ex) (e : Env) (v : Val) (s : DSt) : Out Val := (ev cf k e s).noexc.bind (kDg2 cf x e v)
def sDu3 (e : Env) (i : Nat) (d y q : Val) (s : DSt) : OutS := nextIf ((vput d q y).bind fun z => setE e i z) s
def sDu2 (cf : Nat → List Val → DSt → Out Val) (e : Env) (i : Nat) (k : Ex) (d y : Val) (s : DSt) : OutS := (ev cf k (e.set i none) s).noexc.thenS (e.set i none) (sDu3 e i d y)
def sDu (cf : Nat → List Val → DSt → Out Val) (e : Env) (i : Nat) (k v : Ex) (d : Val) (s : DSt) : OutS := if copyOk d = true ∧ i < e.length then (ev cf v (e.set i none) s).noexc.thenS (e.set i none) (sDu2 cf e i k d) else .bad
section
variable {cf : Nat → List Val → DSt → Out Val} {a b c r lo hi src cond elt : Ex} {e : Env} {s : DSt} {v v2 : Val} {i n f : Nat} {x : List Nat} {xs ys : List Val} {k : BinK} {q q' : CmpK} {kb : BiK} {km : MeK} {ty : TyK} {t : Tg} {sa sb : Sx}
theorem x_body {np ns : Nat} {xs : List Val} (h : xs.length = np) : runBody cf np ns sa xs s = endV (exec cf sa (xs.map some ++ List.replicate (ns - np) none) s) := by
  unfold runBody; rw [if_pos h]; rfl
theorem x_var : ev cf (.var i) e s = getV e[i]? s := by simp only [ev]; rfl
theorem x_cst : ev cf (.cst v) e s = .ok v s := by simp only [ev]
theorem x_glb : ev cf (.glb x v) e s = .ok v s := by simp only [ev]
theorem x_bin : ev cf (.bin k a b) e s = (ev cf a e s).bind (kTwo cf b e (opBin k)) := by simp only [ev]; rfl
theorem x_neg : ev cf (.neg a) e s = (ev cf a e s).bind opNeg := by simp only [ev]; rfl
theorem x_not : ev cf (.not a) e s = (ev cf a e s).bind opNot := by simp only [ev]; rfl
theorem x_and : ev cf (.and a b) e s = (ev cf a e s).bind (kAnd cf b e) := by simp only [ev]; rfl
theorem x_or : ev cf (.or a b) e s = (ev cf a e s).bind (kOr cf b e) := by simp only [ev]; rfl
theorem x_cmp : ev cf (.cmp q a b) e s = (ev cf a e s).bind (kTwo cf b e (opCmp q)) := by simp only [ev]; rfl
theorem x_chain : ev cf (.chain q q' a b c) e s = (ev cf a e s).bind (chA cf b c e q q') := by simp only [ev]; rfl
theorem x_ite : ev cf (.ite c a b) e s = (ev cf c e s).bind (kSel cf a b e) := by simp only [ev]; rfl
theorem x_tup : ev cf (.tup a) e s = (evs cf a e s).bind mkT := by simp only [ev]; rfl
theorem x_list : ev cf (.list a) e s = (evs cf a e s).bind mkL := by simp only [ev]; rfl
theorem x_idx : ev cf (.idx a b) e s = (ev cf a e s).bind (kTwo cf b e opIdx) := by simp only [ev]; rfl
theorem x_slice : ev cf (.slice a lo hi) e s = (ev cf a e s).bind (slA cf lo hi e) := by simp only [ev]; rfl
theorem x_call : ev cf (.call f a) e s = (evs cf a e s).bind (cf f) := by simp only [ev]
theorem x_bi : ev cf (.bi kb a) e s = (evs cf a e s).bind (opBi kb) := by simp only [ev]; rfl
theorem x_isinst : ev cf (.isinst a ty) e s = (ev cf a e s).bind (opIs ty) := by simp only [ev]; rfl
theorem x_meth : ev cf (.meth km a b) e s = (ev cf a e s).bind (kTwoN cf b e (opMe km)) := by simp only [ev]; rfl
theorem x_comp : ev cf (.comp t src cond elt) e s = (evi cf src e s).bind (kComp cf cond elt e t) := by
  simp only [ev]
  congr 1
theorem x_range1 : ev cf (.range1 a) e s = (ev cf a e s).bind rg1 := by simp only [ev]; rfl
theorem x_range2 : ev cf (.range2 a b) e s = (ev cf a e s).bind (kTwo cf b e rg2) := by simp only [ev]; rfl
theorem xs_nil : evs cf .nil e s = .ok [] s := by simp only [evs]
theorem xs_cons : evs cf (.cons a r) e s = (ev cf a e s).bind (kCons cf r e) := by simp only [evs]; rfl
theorem xo_no : evo cf .no e s = .ok none s := by simp only [evo]
theorem xo_some : evo cf (.cons a .nil) e s = (ev cf a e s).bind opOpt := by simp only [evo]; rfl
theorem xi_one : evi cf (.cons a .nil) e s = (ev cf a e s).bind seqV := by simp only [evi]; rfl
theorem xi_enum : evi cf (.enum a) e s = (ev cf a e s).bind enE := by simp only [evi]; rfl
theorem xi_zip : evi cf (.zip a b) e s = (ev cf a e s).bind (kTwo cf b e ziE) := by simp only [evi]; rfl
theorem z_twoN {α : Type} {op : Val → Val → DSt → Out α} : kTwoN cf b e op v s = (ev cf b e s).noexc.bind (op v) := rfl
theorem z_two {α : Type} {op : Val → Val → DSt → Out α} : kTwo cf b e op v s = (ev cf b e s).bind (op v) := rfl
theorem z_bin : opBin k v v2 s = lift (vbin k v v2) s := rfl
theorem z_cmp : opCmp q v v2 s = lift ((vcmp q v v2).map .bl) s := rfl
theorem z_idx : opIdx v v2 s = lift (vidx v v2) s := rfl
theorem z_me : opMe km v v2 s = lift (vmeth km v v2) s := rfl
theorem z_neg {i : Int} : opNeg (.int i) s = .ok (.int (-i)) s := rfl
theorem z_not {b : Bool} : opNot (.bl b) s = .ok (.bl (!b)) s := rfl
theorem z_selT : kSel cf a b e (.bl true) s = ev cf a e s := rfl
theorem z_selF : kSel cf a b e (.bl false) s = ev cf b e s := rfl
theorem z_sel {c : Bool} : kSel cf a b e (.bl c) s = if c = true then ev cf a e s else ev cf b e s := by cases c <;> rfl
theorem z_andT : kAnd cf b e (.bl true) s = ev cf b e s := rfl
theorem z_andF : kAnd cf b e (.bl false) s = .ok (.bl false) s := rfl
theorem z_orT : kOr cf b e (.bl true) s = .ok (.bl true) s := rfl
theorem z_orF : kOr cf b e (.bl false) s = ev cf b e s := rfl
theorem z_chA : chA cf b c e q q' v s = (ev cf b e s).bind (chB cf c e q q' v) := rfl
theorem z_chB : chB cf c e q q' v v2 s = chC cf c e q' v2 (vcmp q v v2) s := rfl
theorem z_chT : chC cf c e q' v (some true) s = (ev cf c e s).bind (opCmp q' v) := rfl
theorem z_chF : chC cf c e q' v (some false) s = .ok (.bl false) s := rfl
theorem z_mkT : mkT xs s = .ok (.tup xs) s := rfl
theorem z_mkL : mkL xs s = .ok (.lst xs) s := rfl
theorem z_slC {l h : Option Int} : slC v l h s = lift (vslice v l h) s := rfl
theorem z_slB {l : Option Int} : slB cf hi e v l s = (evo cf hi e s).bind (slC v l) := rfl
theorem z_slA : slA cf lo hi e v s = (evo cf lo e s).bind (slB cf hi e v) := rfl
theorem z_bi : opBi kb xs s = lift (vbi kb xs) s := rfl
theorem z_is : opIs ty v s = lift ((isty ty v).map .bl) s := rfl
theorem z_mkS : mkS v s = .ok (some v) s := rfl
theorem z_ifT : kIf cf elt e (.bl true) s = (ev cf elt e s).bind mkS := rfl
theorem z_ifF : kIf cf elt e (.bl false) s = .ok none s := rfl
theorem z_comp : kComp cf cond elt e t xs s = (compL (oneC cf cond elt) t (wipeE e (slots t)) xs s).noexc.bind mkL := rfl
theorem z_one : oneC cf .no elt e s = (ev cf elt e s).bind mkS := rfl
theorem z_rg1 {n : Int} : rg1 (.int n) s = if n ≤ lim ∧ -1000000 ≤ n then .ok (.lst (rangeL 0 n.toNat)) s else .bad := rfl
theorem z_rg2 {m n : Int} : rg2 (.int m) (.int n) s = if n ≤ lim ∧ -1000000 ≤ n ∧ m ≤ lim ∧ 0 ≤ m then .ok (.lst (rangeL m (n - m).toNat)) s else .bad := rfl
theorem z_cons : kCons cf r e v s = (evs cf r e s).bind (kCons2 v) := rfl
theorem z_cons2 : kCons2 v xs s = .ok (v :: xs) s := rfl
theorem z_opt {i : Int} : opOpt (.int i) s = .ok (some i) s := rfl
theorem z_seqL : seqV (.lst xs) s = .ok xs s := rfl
theorem z_seqT : seqV (.tup xs) s = .ok xs s := rfl
theorem z_en : enE (.lst xs) s = .ok (enumV xs) s := rfl
theorem z_zi : ziE (.lst xs) (.lst ys) s = .ok (zipV xs ys) s := rfl
theorem y_nil : exec cf .nil e s = .next e s := by simp only [exec]
theorem y_seq : exec cf (.seq sa sb) e s = (exec cf sa e s).then (exec cf sb) := by
  simp only [exec]
  cases exec cf sa e s <;> rfl
theorem y_asg : exec cf (.asg i a) e s = (ev cf a e s).thenS e (sSet e i) := by simp only [exec]; rfl
theorem y_own : exec cf (.own i a) e s = (ev cf a e s).thenS e (sSet e i) := by simp only [exec]; rfl
theorem y_asgT : exec cf (.asgT t a) e s = (ev cf a e s).thenS e (sTg e t) := by simp only [exec]; rfl
theorem y_par {o : List Nat} : exec cf (.par t o a) e s = (evs cf a e s).thenS e (sPar e t) := by simp only [exec]; rfl
theorem y_aug : exec cf (.aug i k a) e s = augS e i k e[i]? (ev cf a e s) := by simp only [exec]; rfl
theorem y_ext : exec cf (.ext i a) e s = extS e i e[i]? (ev cf a e s) := by simp only [exec]; rfl
theorem y_append : exec cf (.append i a) e s = (ev cf a e s).noexc.thenS e (sApp e i) := by simp only [exec]; rfl
theorem y_setI : exec cf (.setI i b a) e s = (ev cf a e s).thenS e (sSt1 cf b e i) := by simp only [exec]; rfl
theorem y_expr : exec cf (.expr a) e s = (ev cf a e s).thenS e (sNx e) := by simp only [exec]; rfl
theorem y_ite : exec cf (.ite c sa sb) e s = (ev cf c e s).thenS e (sSel cf e sa sb) := by simp only [exec]; rfl
theorem y_for : exec cf (.forS t src sa) e s = (evi cf src e s).thenS e (sFor cf e t sa) := by simp only [exec]; rfl
theorem y_while : exec cf (.whileS n c sa) e s = whileL (ev cf c) (exec cf sa) n e s := by simp only [exec]
theorem y_ret : exec cf (.ret a) e s = (ev cf a e s).thenS e sRet := by simp only [exec]; rfl
theorem y_brk : exec cf .brk e s = .brk e s := by simp only [exec]
theorem y_cont : exec cf .cont e s = .cont e s := by simp only [exec]
theorem y_freeze : exec cf (.freeze i) e s = .next e s := by simp only [exec]
theorem z_set : sSet e i v s = nextIf (setE e i v) s := rfl
theorem z_tg : sTg e t v s = nextIf (bindT t v e) s := rfl
theorem z_par : sPar e t xs s = nextIf (bindTs t xs e) s := rfl
theorem z_aug {x : Int} {y : Out Val} : augS e i k (some (some (.int x))) y = y.thenS e (sAug e i k x) := rfl
theorem z_aug2 {x y : Int} : sAug e i k x (.int y) s = nextIf ((augI k x y).bind fun z => setE e i (.int z)) s := rfl
theorem z_ext {y : Out Val} : extS e i (some (some (.lst xs))) y = y.thenS e (sExt e i xs) := rfl
theorem z_ext2 : sExt e i xs (.lst ys) s = if xs.length + ys.length ≤ lim then nextIf (setE e i (.lst (xs ++ ys))) s else .bad := rfl
theorem z_app : sApp e i v s = appS e i e[i]? v s := rfl
theorem z_app2 : appS e i (some (some (.lst xs))) v s = if xs.length < lim then nextIf (setE e i (.lst (xs ++ [v]))) s else .bad := rfl
theorem z_st1 : sSt1 cf b e i v s = (ev cf b e s).noexc.thenS e (sSt2 e i v) := rfl
theorem z_st2 : sSt2 e i v v2 s = setS e i e[i]? v2 v s := rfl
theorem z_nx : sNx e v s = .next e s := rfl
theorem z_sSelT : sSel cf e sa sb (.bl true) s = exec cf sa e s := rfl
theorem z_sSelF : sSel cf e sa sb (.bl false) s = exec cf sb e s := rfl
theorem z_for : sFor cf e t sa xs s = forL t (exec cf sa) xs e s := rfl
theorem z_ret : sRet v s = .ret v s := rfl
theorem x_dnew : ev cf .dnew e s = .ok (.dct [] []) s := by simp only [ev]
theorem x_dget {x : Ex} : ev cf (.dget a b x) e s = (ev cf a e s).bind (kDg cf b x e) := by simp only [ev]; rfl
theorem z_dg {x : Ex} : kDg cf b x e v s = (ev cf b e s).noexc.bind (kDg2 cf x e v) := rfl
theorem z_dg2 {x : Ex} : kDg2 cf x e v v2 s = (ev cf x e s).noexc.bind (opDg v v2) := rfl
theorem z_dg3 {z : Val} : opDg v v2 z s = lift (vget v v2 z) s := rfl
theorem y_dupd {x : Ex} : exec cf (.dupd i a b x) e s = (ev cf a e s).noexc.thenS e (sDu cf e i b x) := by simp only [exec]; rfl
theorem z_du {x : Ex} : sDu cf e i b x v s = if copyOk v = true ∧ i < e.length then (ev cf x (e.set i none) s).noexc.thenS (e.set i none) (sDu2 cf e i b v) else .bad := rfl
theorem z_du2 : sDu2 cf e i b v v2 s = (ev cf b (e.set i none) s).noexc.thenS (e.set i none) (sDu3 e i v v2) := rfl
theorem z_du3 {z : Val} : sDu3 e i v v2 z s = nextIf ((vput v z v2).bind fun z => setE e i z) s := rfl
theorem y_raise {c : Nat} : exec cf (.raise c) e s = .exc c e s := by simp only [exec]
def tryE (i j : Nat) (o : OutS) : OutS := match o with
  | .exc c e s => if c < 7 then nextIf ((setE e i (.exc c)).bind fun e => if j < e.length then some (e.set j none) else none) s else .bad
  | x => x
theorem y_try {j : Nat} : exec cf (.tryS sa i j) e s = tryE i j (exec cf sa e s) := by
  simp only [exec]
  cases exec cf sa e s <;> rfl
theorem z_tryN {j : Nat} : tryE i j (.next e s) = .next e s := rfl
theorem z_tryR {j : Nat} : tryE i j (.ret v s) = .ret v s := rfl
theorem z_tryX {c j : Nat} (h : c < 7) : tryE i j (.exc c e s) = nextIf ((setE e i (.exc c)).bind fun e => if j < e.length then some (e.set j none) else none) s := by
  simp only [tryE, if_pos h]
theorem x_isexc {c : Nat} : ev cf (.isexc a c) e s = (ev cf a e s).bind (fun x s => lift (visx c x) s) := by simp only [ev]
theorem x_box : ev cf (.box a) e s = (ev cf a e s).bind (fun d s => if isCell d then .ok (.ref s.st.length) { s with st := s.st ++ [some d] } else .bad) := by simp only [ev]
theorem x_ropIdx {c : Ex} : ev cf (.rop .idx a b c) e s = (ev cf a e s).bind (fun x s => (ev cf b e s).bind fun y s => lift (vrop s .idx x y .non) s) := by simp only [ev]
theorem x_ropIn {c : Ex} : ev cf (.rop .isIn a b c) e s = (ev cf a e s).bind (fun x s => (ev cf b e s).bind fun y s => lift (vrop s .isIn x y .non) s) := by simp only [ev]
theorem x_ropNin {c : Ex} : ev cf (.rop .notIn a b c) e s = (ev cf a e s).bind (fun x s => (ev cf b e s).bind fun y s => lift (vrop s .notIn x y .non) s) := by simp only [ev]
theorem x_ropGet {c : Ex} : ev cf (.rop .get a b c) e s = (ev cf a e s).bind (fun x s => if isDcn (der s x) then (ev cf b e s).noexc.bind fun y s => (ev cf c e s).noexc.bind fun z s => lift (vrop s .get x y z) s else .bad) := by simp only [ev]
theorem x_ropE {b c : Ex} : ev cf (.rop .isE a b c) e s = (ev cf a e s).bind (fun x s => lift (vrop s .isE x .non .non) s) := by simp only [ev]
theorem x_ropNe {b c : Ex} : ev cf (.rop .notE a b c) e s = (ev cf a e s).bind (fun x s => lift (vrop s .notE x .non .non) s) := by simp only [ev]
end
theorem run_b {n f np ns : Nat} {b : Sx} {xs : List Val} {s : DSt} (h : tb f = some (.code np ns b)) (hl : xs.length = np) : run tb (n + 1) f xs s = endV (exec (run tb n) b (xs.map some ++ List.replicate (ns - np) none) s) := by
  rw [run_code h, x_body hl]
/-! data -/
theorem v_add {i j : Int} : vbin .add (.int i) (.int j) = some (.int (i + j)) := rfl
theorem v_sub {i j : Int} : vbin .sub (.int i) (.int j) = some (.int (i - j)) := rfl
theorem v_mul2 {i : Int} {j : Int} (h : small64 i = true) : vbin .mul (.int i) (.int j) = some (.int (i * j)) := by simp [vbin, h]
theorem v_mod {i j : Int} (h : 0 < j) : vbin .mod (.int i) (.int j) = some (.int (i % j)) := by simp [vbin, h]
theorem v_fdiv {i j : Int} (h : 0 < j) (h2 : j < 1073741824) : vbin .fdiv (.int i) (.int j) = some (.int (i / j)) := by simp [vbin, h, h2]
theorem v_catL {x y : List Val} (h : x.length + y.length ≤ lim) : vbin .add (.lst x) (.lst y) = some (.lst (x ++ y)) := by simp [vbin, h]
theorem v_repL {x : List Val} {j : Int} (h : x.length * j.toNat ≤ lim) (h1 : j < 1000000000) (h2 : -1000000000 < j) : vbin .mul (.lst x) (.int j) = some (.lst ((List.replicate j.toNat x).flatten)) := by simp [vbin, h, h1, h2]
theorem v_eqI {i j : Int} : vcmp .eq (.int i) (.int j) = some (decide (i = j)) := by
  by_cases h : i = j <;> simp [vcmp, vEq, eqOk, plain, dep, veq, h]
theorem v_neI {i j : Int} : vcmp .ne (.int i) (.int j) = some (!decide (i = j)) := by
  by_cases h : i = j <;> simp [vcmp, vEq, eqOk, plain, dep, veq, h]
theorem v_eqS {x y : List Nat} : vcmp .eq (.str x) (.str y) = some (decide (x = y)) := by
  by_cases h : x = y <;> simp [vcmp, vEq, eqOk, plain, dep, veq, h]
theorem v_lt {i j : Int} : vcmp .lt (.int i) (.int j) = some (decide (i < j)) := rfl
theorem v_le {i j : Int} : vcmp .le (.int i) (.int j) = some (decide (i ≤ j)) := rfl
theorem v_gt {i j : Int} : vcmp .gt (.int i) (.int j) = some (decide (j < i)) := rfl
theorem v_ge {i j : Int} : vcmp .ge (.int i) (.int j) = some (decide (j ≤ i)) := rfl
theorem v_idT {xs : List Val} {i : Int} : vidx (.tup xs) (.int i) = (place i xs.length).bind (xs[·]?) := rfl
theorem v_idL {xs : List Val} {i : Int} : vidx (.lst xs) (.int i) = (place i xs.length).bind (xs[·]?) := rfl
theorem v_iT0 {a0 : Val} {r : List Val} : vidx (.tup (a0 :: r)) (.int 0) = some a0 := by
  simp only [vidx, place, List.length_cons]
  rw [if_pos (by decide), if_pos (by omega)]
  rfl
theorem v_iT1 {a0 a1 : Val} {r : List Val} : vidx (.tup (a0 :: a1 :: r)) (.int 1) = some a1 := by
  simp only [vidx, place, List.length_cons]
  rw [if_pos (by decide), if_pos (by omega)]
  rfl
theorem v_iT2 {a0 a1 a2 : Val} {r : List Val} : vidx (.tup (a0 :: a1 :: a2 :: r)) (.int 2) = some a2 := by
  simp only [vidx, place, List.length_cons]
  rw [if_pos (by decide), if_pos (by omega)]
  rfl
theorem v_iT3 {a0 a1 a2 a3 : Val} {r : List Val} : vidx (.tup (a0 :: a1 :: a2 :: a3 :: r)) (.int 3) = some a3 := by
  simp only [vidx, place, List.length_cons]
  rw [if_pos (by decide), if_pos (by omega)]
  rfl
theorem v_iT4 {a0 a1 a2 a3 a4 : Val} {r : List Val} : vidx (.tup (a0 :: a1 :: a2 :: a3 :: a4 :: r)) (.int 4) = some a4 := by
  simp only [vidx, place, List.length_cons]
  rw [if_pos (by decide), if_pos (by omega)]
  rfl
theorem v_iT5 {a0 a1 a2 a3 a4 a5 : Val} {r : List Val} : vidx (.tup (a0 :: a1 :: a2 :: a3 :: a4 :: a5 :: r)) (.int 5) = some a5 := by
  simp only [vidx, place, List.length_cons]
  rw [if_pos (by decide), if_pos (by omega)]
  rfl
theorem v_iT6 {a0 a1 a2 a3 a4 a5 a6 : Val} {r : List Val} : vidx (.tup (a0 :: a1 :: a2 :: a3 :: a4 :: a5 :: a6 :: r)) (.int 6) = some a6 := by
  simp only [vidx, place, List.length_cons]
  rw [if_pos (by decide), if_pos (by omega)]
  rfl
theorem v_iT7 {a0 a1 a2 a3 a4 a5 a6 a7 : Val} {r : List Val} : vidx (.tup (a0 :: a1 :: a2 :: a3 :: a4 :: a5 :: a6 :: a7 :: r)) (.int 7) = some a7 := by
  simp only [vidx, place, List.length_cons]
  rw [if_pos (by decide), if_pos (by omega)]
  rfl
theorem v_iT8 {a0 a1 a2 a3 a4 a5 a6 a7 a8 : Val} {r : List Val} : vidx (.tup (a0 :: a1 :: a2 :: a3 :: a4 :: a5 :: a6 :: a7 :: a8 :: r)) (.int 8) = some a8 := by
  simp only [vidx, place, List.length_cons]
  rw [if_pos (by decide), if_pos (by omega)]
  rfl
theorem v_iL0 {a0 : Val} {r : List Val} : vidx (.lst (a0 :: r)) (.int 0) = some a0 := by
  simp only [vidx, place, List.length_cons]
  rw [if_pos (by decide), if_pos (by omega)]
  rfl
theorem v_iL1 {a0 a1 : Val} {r : List Val} : vidx (.lst (a0 :: a1 :: r)) (.int 1) = some a1 := by
  simp only [vidx, place, List.length_cons]
  rw [if_pos (by decide), if_pos (by omega)]
  rfl
theorem v_iL2 {a0 a1 a2 : Val} {r : List Val} : vidx (.lst (a0 :: a1 :: a2 :: r)) (.int 2) = some a2 := by
  simp only [vidx, place, List.length_cons]
  rw [if_pos (by decide), if_pos (by omega)]
  rfl
theorem v_iL3 {a0 a1 a2 a3 : Val} {r : List Val} : vidx (.lst (a0 :: a1 :: a2 :: a3 :: r)) (.int 3) = some a3 := by
  simp only [vidx, place, List.length_cons]
  rw [if_pos (by decide), if_pos (by omega)]
  rfl
theorem v_iL4 {a0 a1 a2 a3 a4 : Val} {r : List Val} : vidx (.lst (a0 :: a1 :: a2 :: a3 :: a4 :: r)) (.int 4) = some a4 := by
  simp only [vidx, place, List.length_cons]
  rw [if_pos (by decide), if_pos (by omega)]
  rfl
theorem v_iL5 {a0 a1 a2 a3 a4 a5 : Val} {r : List Val} : vidx (.lst (a0 :: a1 :: a2 :: a3 :: a4 :: a5 :: r)) (.int 5) = some a5 := by
  simp only [vidx, place, List.length_cons]
  rw [if_pos (by decide), if_pos (by omega)]
  rfl
theorem v_iL6 {a0 a1 a2 a3 a4 a5 a6 : Val} {r : List Val} : vidx (.lst (a0 :: a1 :: a2 :: a3 :: a4 :: a5 :: a6 :: r)) (.int 6) = some a6 := by
  simp only [vidx, place, List.length_cons]
  rw [if_pos (by decide), if_pos (by omega)]
  rfl
theorem v_iL7 {a0 a1 a2 a3 a4 a5 a6 a7 : Val} {r : List Val} : vidx (.lst (a0 :: a1 :: a2 :: a3 :: a4 :: a5 :: a6 :: a7 :: r)) (.int 7) = some a7 := by
  simp only [vidx, place, List.length_cons]
  rw [if_pos (by decide), if_pos (by omega)]
  rfl
theorem v_iL8 {a0 a1 a2 a3 a4 a5 a6 a7 a8 : Val} {r : List Val} : vidx (.lst (a0 :: a1 :: a2 :: a3 :: a4 :: a5 :: a6 :: a7 :: a8 :: r)) (.int 8) = some a8 := by
  simp only [vidx, place, List.length_cons]
  rw [if_pos (by decide), if_pos (by omega)]
  rfl
theorem v_len {xs : List Val} : vbi .len [.lst xs] = some (.int xs.length) := rfl
theorem v_lenT {xs : List Val} : vbi .len [.tup xs] = some (.int xs.length) := rfl
theorem v_min {i j : Int} : vbi .min2 [.int i, .int j] = some (.int (if j < i then j else i)) := rfl
theorem v_max {i j : Int} : vbi .max2 [.int i, .int j] = some (.int (if j > i then j else i)) := rfl
theorem v_tupL {xs : List Val} : vbi .tuple [.lst xs] = some (.tup xs) := rfl
theorem v_all {xs : List Val} : vbi .all [.lst xs] = (isBls xs).map fun bs => .bl (bs.all id) := rfl
theorem v_any {xs : List Val} : vbi .any [.lst xs] = (isBls xs).map fun bs => .bl (bs.any id) := rfl
theorem v_sorted {xs : List Val} : vbi .sorted [.lst xs] = (sortV xs).map .lst := rfl
theorem p_nat {i n : Nat} (h : i < n) : place (i : Int) n = some i := by unfold place; rw [if_pos (by omega), if_pos (by omega)]; rfl
theorem t_int {i : Int} : isty .tInt (.int i) = some true := rfl
theorem t_intT {xs : List Val} : isty .tInt (.tup xs) = some false := rfl
theorem t_boolI {i : Int} : isty .tBool (.int i) = some false := rfl
theorem t_tup {xs : List Val} : isty .tTuple (.tup xs) = some true := rfl
theorem t_list {xs : List Val} : isty .tList (.lst xs) = some true := rfl
theorem t_str {xs : List Nat} : isty .tStr (.str xs) = some true := rfl
def opLit (q y : Val) (s : DSt) : Out Val := if isTupK q || isI q then .ok (.dcn [q] [y]) s else .bad
theorem x_dnewN {cf : Nat → List Val → DSt → Out Val} {e : Env} {s : DSt} : ev cf .dnewN e s = .ok (.dcn [] []) s := by simp only [ev]
theorem x_dlit {cf : Nat → List Val → DSt → Out Val} {a b : Ex} {e : Env} {s : DSt} : ev cf (.dlit a b) e s = (ev cf a e s).noexc.bind (kTwoN cf b e opLit) := by
  simp only [ev]
  rfl
theorem z_lit {q y : Val} {s : DSt} : opLit q y s = if isTupK q || isI q then .ok (.dcn [q] [y]) s else .bad := rfl
end BG
local macro_rules
  | `(tactic| simp only [sxm, $xs,*] $[$l:location]?) => `(tactic| simp only [BG.x_var, BG.x_cst, BG.x_glb, BG.x_bin, BG.x_neg, BG.x_not, BG.x_and, BG.x_or, BG.x_cmp, BG.x_chain, BG.x_ite, BG.x_tup, BG.x_list, BG.x_idx, BG.x_slice, BG.x_call, BG.x_bi, BG.x_isinst, BG.x_meth, BG.x_comp, BG.x_range1, BG.x_range2, BG.x_dnew, BG.x_dget, BG.z_dg, BG.z_dg2, BG.z_dg3, BG.y_dupd, BG.z_du, BG.z_du2, BG.z_du3, BG.xs_nil, BG.xs_cons, BG.xo_no, BG.xo_some, BG.xi_one, BG.xi_enum, BG.xi_zip, BG.z_two, BG.z_twoN, BG.z_bin, BG.z_cmp, BG.z_idx, BG.z_me, BG.z_neg, BG.z_not, BG.z_selT, BG.z_selF, BG.z_andT, BG.z_andF, BG.z_orT, BG.z_orF, BG.z_chA, BG.z_chB, BG.z_chT, BG.z_chF, BG.z_mkT, BG.z_mkL, BG.z_slC, BG.z_slB, BG.z_slA, BG.z_bi, BG.z_is, BG.z_mkS, BG.z_ifT, BG.z_ifF, BG.z_comp, BG.z_one, BG.z_rg1, BG.z_rg2, BG.z_cons, BG.z_cons2, BG.z_opt, BG.z_seqL, BG.z_seqT, BG.z_en, BG.z_zi, BG.y_nil, BG.y_seq, BG.y_asg, BG.y_own, BG.y_asgT, BG.y_par, BG.y_aug, BG.y_ext, BG.y_append, BG.y_setI, BG.y_expr, BG.y_ite, BG.y_for, BG.y_while, BG.y_ret, BG.y_brk, BG.y_cont, BG.y_freeze, BG.z_set, BG.z_tg, BG.z_par, BG.z_aug, BG.z_aug2, BG.z_ext, BG.z_ext2, BG.z_app, BG.z_app2, BG.z_st1, BG.z_st2, BG.z_nx, BG.z_sSelT, BG.z_sSelF, BG.z_for, BG.z_ret, BG.v_add, BG.v_sub, BG.v_eqI, BG.v_neI, BG.v_eqS, BG.v_lt, BG.v_le, BG.v_gt, BG.v_ge, BG.v_iT0, BG.v_iT1, BG.v_iT2, BG.v_iT3, BG.v_iT4, BG.v_iT5, BG.v_iT6, BG.v_iT7, BG.v_iT8, BG.v_iL0, BG.v_iL1, BG.v_iL2, BG.v_iL3, BG.v_iL4, BG.v_iL5, BG.v_iL6, BG.v_iL7, BG.v_iL8, BG.v_len, BG.v_lenT, BG.v_min, BG.v_max, BG.v_tupL, BG.v_all, BG.v_any, BG.v_sorted, BG.t_int, BG.t_intT, BG.t_boolI, BG.t_tup, BG.t_list, BG.t_str, BG.setE, BG.bindT, BG.bindTs, BG.nextIf_some, BG.lift_some, BG.Out.bind_ok, BG.Out.thenS_ok, BG.augI, BG.slots, BG.wipeE, BG.Out.noexc_ok, List.map_cons, List.map_nil, List.nil_append, List.cons_append, List.append_nil, List.replicate_zero, List.replicate_succ, List.getElem?_cons_zero, List.getElem?_cons_succ, List.length_cons, List.length_nil, BG.getV_some, BG.then_next, BG.then_ret, BG.then_brk, BG.then_cont, BG.endV_ret, BG.endV_next, List.set_cons_zero, List.set_cons_succ, Option.map_some, Option.bind_some, decide_true, decide_false, Bool.not_true, Bool.not_false, if_true, if_false, Nat.sub_self, Nat.zero_lt_succ, List.cons.injEq, reduceCtorEq, false_and, and_false, true_and, and_true, Bool.false_eq_true, Nat.reduceAdd, Nat.reduceLT, Nat.reduceLeDiff, Nat.reduceSub, Nat.reduceSubDiff, Nat.reduceEqDiff, Nat.reduceMul, Int.reduceSub, Int.reduceAdd, Int.reduceMul, Int.reduceLT, Int.reduceLE, Int.reduceEq, Int.reduceNeg, Int.reduceToNat, ↓reduceIte, Nat.lt_add_one, $xs,*] $[$l]?)
  | `(tactic| simp [sxm, $xs,*] $[$l:location]?) => `(tactic| simp [BG.x_var, BG.x_cst, BG.x_glb, BG.x_bin, BG.x_neg, BG.x_not, BG.x_and, BG.x_or, BG.x_cmp, BG.x_chain, BG.x_ite, BG.x_tup, BG.x_list, BG.x_idx, BG.x_slice, BG.x_call, BG.x_bi, BG.x_isinst, BG.x_meth, BG.x_comp, BG.x_range1, BG.x_range2, BG.x_dnew, BG.x_dget, BG.z_dg, BG.z_dg2, BG.z_dg3, BG.y_dupd, BG.z_du, BG.z_du2, BG.z_du3, BG.xs_nil, BG.xs_cons, BG.xo_no, BG.xo_some, BG.xi_one, BG.xi_enum, BG.xi_zip, BG.z_two, BG.z_twoN, BG.z_bin, BG.z_cmp, BG.z_idx, BG.z_me, BG.z_neg, BG.z_not, BG.z_selT, BG.z_selF, BG.z_andT, BG.z_andF, BG.z_orT, BG.z_orF, BG.z_chA, BG.z_chB, BG.z_chT, BG.z_chF, BG.z_mkT, BG.z_mkL, BG.z_slC, BG.z_slB, BG.z_slA, BG.z_bi, BG.z_is, BG.z_mkS, BG.z_ifT, BG.z_ifF, BG.z_comp, BG.z_one, BG.z_rg1, BG.z_rg2, BG.z_cons, BG.z_cons2, BG.z_opt, BG.z_seqL, BG.z_seqT, BG.z_en, BG.z_zi, BG.y_nil, BG.y_seq, BG.y_asg, BG.y_own, BG.y_asgT, BG.y_par, BG.y_aug, BG.y_ext, BG.y_append, BG.y_setI, BG.y_expr, BG.y_ite, BG.y_for, BG.y_while, BG.y_ret, BG.y_brk, BG.y_cont, BG.y_freeze, BG.z_set, BG.z_tg, BG.z_par, BG.z_aug, BG.z_aug2, BG.z_ext, BG.z_ext2, BG.z_app, BG.z_app2, BG.z_st1, BG.z_st2, BG.z_nx, BG.z_sSelT, BG.z_sSelF, BG.z_for, BG.z_ret, BG.v_add, BG.v_sub, BG.v_eqI, BG.v_neI, BG.v_eqS, BG.v_lt, BG.v_le, BG.v_gt, BG.v_ge, BG.v_iT0, BG.v_iT1, BG.v_iT2, BG.v_iT3, BG.v_iT4, BG.v_iT5, BG.v_iT6, BG.v_iT7, BG.v_iT8, BG.v_iL0, BG.v_iL1, BG.v_iL2, BG.v_iL3, BG.v_iL4, BG.v_iL5, BG.v_iL6, BG.v_iL7, BG.v_iL8, BG.v_len, BG.v_lenT, BG.v_min, BG.v_max, BG.v_tupL, BG.v_all, BG.v_any, BG.v_sorted, BG.t_int, BG.t_intT, BG.t_boolI, BG.t_tup, BG.t_list, BG.t_str, BG.setE, BG.bindT, BG.bindTs, BG.nextIf_some, BG.lift_some, BG.Out.bind_ok, BG.Out.thenS_ok, BG.augI, BG.slots, BG.wipeE, BG.Out.noexc_ok, List.map_cons, List.map_nil, List.nil_append, List.cons_append, List.append_nil, List.replicate_zero, List.replicate_succ, List.getElem?_cons_zero, List.getElem?_cons_succ, List.length_cons, List.length_nil, BG.getV_some, BG.then_next, BG.then_ret, BG.then_brk, BG.then_cont, BG.endV_ret, BG.endV_next, List.set_cons_zero, List.set_cons_succ, Option.map_some, Option.bind_some, decide_true, decide_false, Bool.not_true, Bool.not_false, if_true, if_false, Nat.sub_self, Nat.zero_lt_succ, List.cons.injEq, reduceCtorEq, false_and, and_false, true_and, and_true, Bool.false_eq_true, Nat.reduceAdd, Nat.reduceLT, Nat.reduceLeDiff, Nat.reduceSub, Nat.reduceSubDiff, Nat.reduceEqDiff, Nat.reduceMul, Int.reduceSub, Int.reduceAdd, Int.reduceMul, Int.reduceLT, Int.reduceLE, Int.reduceEq, Int.reduceNeg, Int.reduceToNat, ↓reduceIte, Nat.lt_add_one, $xs,*] $[$l]?)

/-! BG.M19: the evaluator over fewer known functions tells the same; runs in which some functions are answered by what is proved of them. -/
namespace BG
def Le {α : Type} (x y : Out α) : Prop := x = .bad ∨ x = y
def LeS (x y : OutS) : Prop := x = .bad ∨ x = y
theorem Le.rfl {α : Type} {x : Out α} : Le x x := .inr _root_.rfl
theorem LeS.rfl {x : OutS} : LeS x x := .inr _root_.rfl
theorem Le.bind {α β : Type} {x y : Out α} {f g : α → DSt → Out β} (h : Le x y) (k : ∀ a s, Le (f a s) (g a s)) : Le (x.bind f) (y.bind g) := by
  rcases h with rfl | rfl
  · exact .inl _root_.rfl
  · cases x with
    | ok a s => exact k a s
    | exc c s => exact .inr _root_.rfl
    | bad => exact .inl _root_.rfl
theorem Le.thenS {α : Type} {x y : Out α} {e : Env} {f g : α → DSt → OutS} (h : Le x y) (k : ∀ a s, LeS (f a s) (g a s)) : LeS (x.thenS e f) (y.thenS e g) := by
  rcases h with rfl | rfl
  · exact .inl _root_.rfl
  · cases x with
    | ok a s => exact k a s
    | exc c s => exact .inr _root_.rfl
    | bad => exact .inl _root_.rfl
theorem Le.noexc {α : Type} {x y : Out α} (h : Le x y) : Le x.noexc y.noexc := by
  rcases h with rfl | rfl
  · exact .inl _root_.rfl
  · exact .inr _root_.rfl
theorem compL_le {F G : Env → DSt → Out (Option Val)} {t : Tg} {e : Env} (h : ∀ e s, Le (F e s) (G e s)) : ∀ (xs : List Val) (s : DSt), Le (compL F t e xs s) (compL G t e xs s)
  | [], s => .rfl
  | x :: xs, s => by
    simp only [compL]
    cases bindT t x e with
    | none => exact .rfl
    | some e' => exact (h e' s).bind fun o s => (compL_le h xs s).bind fun r s => .rfl
abbrev CF0 := Nat → List Val → DSt → Out Val
section
variable {cf cg : CF0}
theorem ev_le (h : ∀ f a s, Le (cf f a s) (cg f a s)) (c : Ex) : ∀ e s, Le (ev cf c e s) (ev cg c e s) ∧ Le (evs cf c e s) (evs cg c e s) ∧ Le (evo cf c e s) (evo cg c e s) ∧ Le (evi cf c e s) (evi cg c e s) := by
  induction c with
  | var i => intro e s; simp only [ev, evs, evo, evi]; exact ⟨.rfl, .rfl, .rfl, .rfl⟩
  | cst v => intro e s; simp only [ev, evs, evo, evi]; exact ⟨.rfl, .rfl, .rfl, .rfl⟩
  | glb x v => intro e s; simp only [ev, evs, evo, evi]; exact ⟨.rfl, .rfl, .rfl, .rfl⟩
  | bin k a b ha hb => intro e s; simp only [ev, evs, evo, evi]; exact ⟨(ha e s).1.bind fun x s => (hb e s).1.bind fun y s => .rfl, .rfl, .rfl, .rfl⟩
  | neg a ha => intro e s; simp only [ev, evs, evo, evi]; exact ⟨(ha e s).1.bind fun x s => .rfl, .rfl, .rfl, .rfl⟩
  | not a ha => intro e s; simp only [ev, evs, evo, evi]; exact ⟨(ha e s).1.bind fun x s => .rfl, .rfl, .rfl, .rfl⟩
  | and a b ha hb =>
    intro e s; simp only [ev, evs, evo, evi]
    refine ⟨(ha e s).1.bind fun x s => ?_, .rfl, .rfl, .rfl⟩
    split
    · exact (hb e s).1
    · exact .rfl
    · exact .rfl
  | or a b ha hb =>
    intro e s; simp only [ev, evs, evo, evi]
    refine ⟨(ha e s).1.bind fun x s => ?_, .rfl, .rfl, .rfl⟩
    split
    · exact (hb e s).1
    · exact .rfl
    · exact .rfl
  | cmp k a b ha hb => intro e s; simp only [ev, evs, evo, evi]; exact ⟨(ha e s).1.bind fun x s => (hb e s).1.bind fun y s => .rfl, .rfl, .rfl, .rfl⟩
  | chain k k' a b c ha hb hc =>
    intro e s; simp only [ev, evs, evo, evi]
    refine ⟨(ha e s).1.bind fun x s => (hb e s).1.bind fun y s => ?_, .rfl, .rfl, .rfl⟩
    split
    · exact (hc e s).1.bind fun z s => .rfl
    · exact .rfl
    · exact .rfl
  | ite c a b hc ha hb =>
    intro e s; simp only [ev, evs, evo, evi]
    refine ⟨(hc e s).1.bind fun x s => ?_, .rfl, .rfl, .rfl⟩
    split
    · exact (ha e s).1
    · exact (hb e s).1
    · exact .rfl
  | nil => intro e s; simp only [ev, evs, evo, evi]; exact ⟨.rfl, .rfl, .rfl, .rfl⟩
  | cons a r ha hr =>
    intro e s
    refine ⟨by simp only [ev]; exact .rfl, by simp only [evs]; exact (ha e s).1.bind fun x s => (hr e s).2.1.bind fun y s => .rfl, ?_, ?_⟩
    · cases r <;> simp only [evo] <;> first | exact .rfl | exact (ha e s).1.bind fun x s => .rfl
    · cases r <;> simp only [evi] <;> first | exact .rfl | exact (ha e s).1.bind fun x s => .rfl
  | tup a ha => intro e s; simp only [ev, evs, evo, evi]; exact ⟨(ha e s).2.1.bind fun x s => .rfl, .rfl, .rfl, .rfl⟩
  | list a ha => intro e s; simp only [ev, evs, evo, evi]; exact ⟨(ha e s).2.1.bind fun x s => .rfl, .rfl, .rfl, .rfl⟩
  | idx a b ha hb => intro e s; simp only [ev, evs, evo, evi]; exact ⟨(ha e s).1.bind fun x s => (hb e s).1.bind fun y s => .rfl, .rfl, .rfl, .rfl⟩
  | slice a lo hi ha hl hh => intro e s; simp only [ev, evs, evo, evi]; exact ⟨(ha e s).1.bind fun x s => (hl e s).2.2.1.bind fun y s => (hh e s).2.2.1.bind fun z s => .rfl, .rfl, .rfl, .rfl⟩
  | rev a ha => intro e s; simp only [ev, evs, evo, evi]; exact ⟨(ha e s).1.bind fun x s => .rfl, .rfl, .rfl, .rfl⟩
  | no => intro e s; simp only [ev, evs, evo, evi]; exact ⟨.rfl, .rfl, .rfl, .rfl⟩
  | call f a ha => intro e s; simp only [ev, evs, evo, evi]; exact ⟨(ha e s).2.1.bind fun x s => h f x s, .rfl, .rfl, .rfl⟩
  | bi k a ha => intro e s; simp only [ev, evs, evo, evi]; exact ⟨(ha e s).2.1.bind fun x s => .rfl, .rfl, .rfl, .rfl⟩
  | isinst a t ha => intro e s; simp only [ev, evs, evo, evi]; exact ⟨(ha e s).1.bind fun x s => .rfl, .rfl, .rfl, .rfl⟩
  | meth k a b ha hb => intro e s; simp only [ev, evs, evo, evi]; exact ⟨(ha e s).1.bind fun x s => (hb e s).1.noexc.bind fun y s => .rfl, .rfl, .rfl, .rfl⟩
  | comp t src cond elt hs hc he =>
    intro e s
    refine ⟨?_, by simp only [evs]; exact .rfl, by simp only [evo]; exact .rfl, by simp only [evi]; exact .rfl⟩
    rw [x_comp, x_comp]
    refine (hs e s).2.2.2.bind fun xs s => ?_
    simp only [kComp]
    refine (compL_le (fun e s => ?_) xs s).noexc.bind fun y s => .rfl
    cases cond <;> simp only [oneC] <;> first
      | exact (he e s).1.bind fun y s => .rfl
      | (refine (hc e s).1.bind fun x s => ?_
         simp only [kIf]
         split
         · exact (he e s).1.bind fun y s => .rfl
         · exact .rfl
         · exact .rfl)
  | range1 a ha => intro e s; simp only [ev, evs, evo, evi]; exact ⟨(ha e s).1.bind fun x s => .rfl, .rfl, .rfl, .rfl⟩
  | range2 a b ha hb => intro e s; simp only [ev, evs, evo, evi]; exact ⟨(ha e s).1.bind fun x s => (hb e s).1.bind fun y s => .rfl, .rfl, .rfl, .rfl⟩
  | enum a ha => intro e s; simp only [ev, evs, evo, evi]; exact ⟨.rfl, .rfl, .rfl, (ha e s).1.bind fun x s => .rfl⟩
  | zip a b ha hb => intro e s; simp only [ev, evs, evo, evi]; exact ⟨.rfl, .rfl, .rfl, (ha e s).1.bind fun x s => (hb e s).1.bind fun y s => .rfl⟩
  | enumZip a b ha hb => intro e s; simp only [ev, evs, evo, evi]; exact ⟨.rfl, .rfl, .rfl, (ha e s).1.bind fun x s => (hb e s).1.bind fun y s => .rfl⟩
  | dnew => intro e s; simp only [ev, evs, evo, evi]; exact ⟨.rfl, .rfl, .rfl, .rfl⟩
  | dnewN => intro e s; simp only [ev, evs, evo, evi]; exact ⟨.rfl, .rfl, .rfl, .rfl⟩
  | dlit a b ha hb => intro e s; simp only [ev, evs, evo, evi]; exact ⟨(ha e s).1.noexc.bind fun x s => (hb e s).1.noexc.bind fun y s => .rfl, .rfl, .rfl, .rfl⟩
  | dget a k x ha hk hx => intro e s; simp only [ev, evs, evo, evi]; exact ⟨(ha e s).1.bind fun x s => (hk e s).1.noexc.bind fun y s => (hx e s).1.noexc.bind fun z s => .rfl, .rfl, .rfl, .rfl⟩
  | box a ha => intro e s; simp only [ev, evs, evo, evi]; exact ⟨(ha e s).1.bind fun x s => .rfl, .rfl, .rfl, .rfl⟩
  | isexc a c ha => intro e s; simp only [ev, evs, evo, evi]; exact ⟨(ha e s).1.bind fun x s => .rfl, .rfl, .rfl, .rfl⟩
  | rop k a b c ha hb hc =>
    intro e s; simp only [ev, evs, evo, evi]
    refine ⟨(ha e s).1.bind fun x s => ?_, .rfl, .rfl, .rfl⟩
    cases k with
    | idx => exact (hb e s).1.bind fun y s => .rfl
    | isIn => exact (hb e s).1.bind fun y s => .rfl
    | notIn => exact (hb e s).1.bind fun y s => .rfl
    | get =>
      dsimp only
      split
      · exact (hb e s).1.noexc.bind fun y s => (hc e s).1.noexc.bind fun z s => .rfl
      · exact .rfl
    | _ => exact .rfl
theorem forL_le {t : Tg} {F G : Env → DSt → OutS} (h : ∀ e s, LeS (F e s) (G e s)) : ∀ (xs : List Val) (e : Env) (s : DSt), LeS (forL t F xs e s) (forL t G xs e s)
  | [], e, s => .rfl
  | x :: xs, e, s => by
    simp only [forL]
    cases bindT t x e with
    | none => exact .rfl
    | some e' =>
      rcases h e' s with q | q
      · simp only [q]; exact .inl rfl
      · simp only [q]
        cases G e' s with
        | next e s => exact forL_le h xs e s
        | cont e s => exact forL_le h xs e s
        | _ => exact .rfl
theorem whileL_le {A B : Env → DSt → Out Val} {F G : Env → DSt → OutS} (ht : ∀ e s, Le (A e s) (B e s)) (h : ∀ e s, LeS (F e s) (G e s)) : ∀ (n : Nat) (e : Env) (s : DSt), LeS (whileL A F n e s) (whileL B G n e s)
  | 0, e, s => .rfl
  | n + 1, e, s => by
    simp only [whileL]
    refine (ht e s).thenS fun x s => ?_
    split
    · rcases h e s with q | q
      · simp only [q]; exact .inl rfl
      · simp only [q]
        cases G e s with
        | next e s => exact whileL_le ht h n e s
        | cont e s => exact whileL_le ht h n e s
        | _ => exact .rfl
    · exact .rfl
    · exact .rfl
theorem exec_le (h : ∀ f a s, Le (cf f a s) (cg f a s)) (c : Sx) : ∀ e s, LeS (exec cf c e s) (exec cg c e s) := by
  have E := fun c e s => (ev_le h c e s).1
  induction c with
  | nil => intro e s; exact .rfl
  | seq a r ha hr =>
    intro e s
    simp only [exec]
    rcases ha e s with q | q
    · rw [q]; exact .inl rfl
    · rw [q]
      cases exec cg a e s with
      | next e s => exact hr e s
      | _ => exact .rfl
  | asg i a => intro e s; simp only [exec]; exact (E a e s).thenS fun x s => .rfl
  | own i a => intro e s; simp only [exec]; exact (E a e s).thenS fun x s => .rfl
  | asgT t a => intro e s; simp only [exec]; exact (E a e s).thenS fun x s => .rfl
  | par t o a => intro e s; simp only [exec]; exact (ev_le h a e s).2.1.thenS fun x s => .rfl
  | aug i k a =>
    intro e s; simp only [exec]
    split
    · exact (E a e s).thenS fun x s => .rfl
    · exact .rfl
  | ext i a =>
    intro e s; simp only [exec]
    split
    · exact (E a e s).thenS fun x s => .rfl
    · exact .rfl
  | append i a => intro e s; simp only [exec]; exact (E a e s).noexc.thenS fun x s => .rfl
  | setI i ix a => intro e s; simp only [exec]; exact (E a e s).thenS fun x s => (E ix e s).noexc.thenS fun y s => .rfl
  | expr a => intro e s; simp only [exec]; exact (E a e s).thenS fun x s => .rfl
  | ite c t f ht hf =>
    intro e s; simp only [exec]
    refine (E c e s).thenS fun x s => ?_
    split
    · exact ht e s
    · exact hf e s
    · exact .rfl
  | forS t src b hb => intro e s; simp only [exec]; exact (ev_le h src e s).2.2.2.thenS fun xs s => forL_le hb xs e s
  | whileS n c b hb => intro e s; simp only [exec]; exact whileL_le (E c) hb n e s
  | ret a => intro e s; simp only [exec]; exact (E a e s).thenS fun x s => .rfl
  | brk => intro e s; exact .rfl
  | cont => intro e s; exact .rfl
  | raise c => intro e s; exact .rfl
  | freeze i => intro e s; exact .rfl
  | dupd i a k v =>
    intro e s; simp only [exec]
    refine (E a e s).noexc.thenS fun d s => ?_
    split
    · exact (E v _ s).noexc.thenS fun y s => (E k _ s).noexc.thenS fun q s => .rfl
    · exact .rfl
  | appR r a =>
    intro e s; simp only [exec]
    refine (E r e s).thenS fun x s => ?_
    split
    · exact (E a e s).noexc.thenS fun y s => .rfl
    · exact .rfl
  | setR i ix a => intro e s; simp only [exec]; exact (E a e s).thenS fun x s => (E ix e s).noexc.thenS fun y s => .rfl
  | frz i => intro e s; exact .rfl
  | tryS b i j hb =>
    intro e s; simp only [exec]
    rcases hb e s with q | q
    · rw [q]; exact .inl rfl
    · rw [q]; exact .rfl
end
/-- runs in which some calls are answered at once -/
def runS (sp : Nat → List Val → DSt → Option (Out Val)) : Nat → CF0
  | 0, _, _, _ => .bad
  | n + 1, f, xs, s => match sp f xs s with
    | some r => r
    | none => match tb f with
      | some (.code np ns b) => runBody (runS sp n) np ns b xs s
      | some (.prim p) => p xs s
      | none => .bad
theorem runBody_le {cf cg : CF0} (h : ∀ f a s, Le (cf f a s) (cg f a s)) {np ns : Nat} {b : Sx} {xs : List Val} {s : DSt} : Le (runBody cf np ns b xs s) (runBody cg np ns b xs s) := by
  unfold runBody
  split
  · rcases exec_le h b (xs.map some ++ List.replicate (ns - np) none) s with q | q
    · rw [q]; exact .inl rfl
    · rw [q]; exact .rfl
  · exact .rfl
theorem runS_le {sp : Nat → List Val → DSt → Option (Out Val)} {d : Nat} (h : ∀ m f xs s r, sp f xs s = some r → run tb (m + d) f xs s = r) : ∀ (n : Nat) f xs s, Le (runS sp n f xs s) (run tb (n + d) f xs s)
  | 0, f, xs, s => .inl rfl
  | n + 1, f, xs, s => by
    unfold runS
    cases e : sp f xs s with
    | some r => exact .inr (h _ _ _ _ _ e).symm
    | none =>
      rw [show n + 1 + d = n + d + 1 by omega]
      simp only [run]
      cases tb f with
      | none => exact .rfl
      | some c =>
        cases c with
        | code np ns b => exact runBody_le (runS_le h n)
        | prim p => exact .rfl
theorem runS_exec {sp : Nat → List Val → DSt → Option (Out Val)} {d n : Nat} (h : ∀ m f xs s r, sp f xs s = some r → run tb (m + d) f xs s = r) {c : Sx} {e : Env} {s : DSt} {o : OutS} (q : exec (runS sp n) c e s = o) (hb : o ≠ .bad) : exec (run tb (n + d)) c e s = o := by
  rcases exec_le (runS_le h n) c e s with z | z
  · rw [q] at z; exact absurd z hb
  · rw [← z]; exact q
theorem runS_ev {sp : Nat → List Val → DSt → Option (Out Val)} {d n : Nat} (h : ∀ m f xs s r, sp f xs s = some r → run tb (m + d) f xs s = r) {c : Ex} {e : Env} {s : DSt} {o : Out Val} (q : ev (runS sp n) c e s = o) (hb : o ≠ .bad) : ev (run tb (n + d)) c e s = o := by
  rcases (ev_le (runS_le h n) c e s).1 with z | z
  · rw [q] at z; exact absurd z hb
  · rw [← z]; exact q
theorem runS_run {sp : Nat → List Val → DSt → Option (Out Val)} {d n f : Nat} {xs : List Val} (h : ∀ m f xs s r, sp f xs s = some r → run tb (m + d) f xs s = r) {s : DSt} {o : Out Val} (q : runS sp n f xs s = o) (hb : o ≠ .bad) : run tb (n + d) f xs s = o := by
  rcases runS_le h n f xs s with z | z
  · rw [q] at z; exact absurd z hb
  · rw [← z]; exact q
/-- a block cut in two -/
def cat : Sx → Sx → Sx
  | .seq a r, b => .seq a (cat r b)
  | _, b => b
def okCat : Sx → Bool
  | .nil => true
  | .seq _ r => okCat r
  | _ => false
theorem exec_cat {cf : CF0} {b : Sx} : ∀ (a : Sx), okCat a = true → ∀ e s, exec cf (cat a b) e s = (exec cf a e s).then (exec cf b)
  | .nil, _, e, s => rfl
  | .seq a r, h, e, s => by
    simp only [okCat] at h
    simp only [cat, y_seq]
    cases exec cf a e s with
    | next e1 s1 => simp only [then_next]; exact exec_cat r h e1 s1
    | ret v s1 => rfl
    | brk e1 s1 => rfl
    | cont e1 s1 => rfl
    | exc c e1 s1 => rfl
    | bad => rfl
end BG

/-! BG.M1: what the program's functions compute (cells). Plain Lean over the evaluator. -/
namespace BG
/-- a cell's rule -/
inductive Cell where
  | always (w : Int)
  | count (k s : Int)
  | flip (k s : Int)
  | runs (k : Int)
def topI (k : Int) : Int := if k = 1 then 2 else if k = 2 then 4 else 8
def Cell.ok : Cell → Prop
  | .always w => 0 ≤ w ∧ w ≤ 1
  | .count k s => (1 ≤ k ∧ k ≤ 3) ∧ 0 ≤ s ∧ s ≤ topI k - 1
  | .flip k s => (1 ≤ k ∧ k ≤ 3) ∧ 0 ≤ s ∧ s ≤ 1
  | .runs k => 1 ≤ k ∧ k ≤ 3
def vCell : Cell → Val
  | .always w => .tup [.str [97, 108, 119, 97, 121, 115], .int w]
  | .count k s => .tup [.str [99, 111, 117, 110, 116], .int k, .int s]
  | .flip k s => .tup [.str [102, 108, 105, 112], .int k, .int s]
  | .runs k => .tup [.str [114, 117, 110, 115], .int k]
/-- a cell's state -/
inductive Own where
  | one (i : Int)
  | two (i j : Int)
  deriving DecidableEq
def vOwn : Own → Val
  | .one i => .int i
  | .two i j => .tup [.int i, .int j]
def Cell.start : Cell → Own
  | .always _ => .one 0
  | .count _ s => .one s
  | .flip _ s => .two s 0
  | .runs _ => .two 0 (-1)
/-- a state of this cell -/
def Fits : Cell → Own → Prop
  | .always _, .one _ => True
  | .count _ _, .one _ => True
  | .flip _ _, .two _ _ => True
  | .runs _, .two _ _ => True
  | _, _ => False
def Cell.guess : Cell → Own → Int
  | .always w, _ => w
  | .count k _, .one n => if 2 * n ≥ topI k then 1 else 0
  | .flip _ _, .two w _ => w
  | .runs _, .two a b => if a = b then 0 else 1
  | _, _ => 0
def Cell.told : Cell → Own → Int → Own
  | .always _, o, _ => o
  | .count k _, .one n, w => if w = 1 then .one (if topI k - 1 < n + 1 then topI k - 1 else n + 1) else .one (if 0 > n - 1 then 0 else n - 1)
  | .flip k _, .two g c, w => if w = g then .two w 0 else if c + 1 = k then .two w 0 else .two g (c + 1)
  | .runs k, .two a b, w => if w = 1 then .two (if k < a + 1 then k else a + 1) b else .two 0 a
  | _, o, _ => o
theorem top_of_count {n : Nat} {k s : Int} {st : DSt} (h : 1 ≤ k ∧ k ≤ 3) : run tb (n + 1) n_top_of [vCell (.count k s)] st = .ok (.int (topI k)) st := by
  refine (run_b (f := n_top_of) rfl rfl).trans ?_
  have : k = 1 ∨ k = 2 ∨ k = 3 := by omega
  rcases this with rfl | rfl | rfl <;> simp [x_var, x_cst, x_glb, x_bin, x_neg, x_not, x_and, x_or, x_cmp, x_chain, x_ite, x_tup, x_list, x_idx, x_slice, x_call, x_bi, x_isinst, x_meth, x_comp, x_range1, x_range2, x_dnew, x_dget, z_dg, z_dg2, z_dg3, y_dupd, z_du, z_du2, z_du3, xs_nil, xs_cons, xo_no, xo_some, xi_one, xi_enum, xi_zip, z_two, z_twoN, z_bin, z_cmp, z_idx, z_me, z_neg, z_not, z_selT, z_selF, z_andT, z_andF, z_orT, z_orF, z_chA, z_chB, z_chT, z_chF, z_mkT, z_mkL, z_slC, z_slB, z_slA, z_bi, z_is, z_mkS, z_ifT, z_ifF, z_comp, z_one, z_rg1, z_rg2, z_cons, z_cons2, z_opt, z_seqL, z_seqT, z_en, z_zi, y_nil, y_seq, y_asg, y_own, y_asgT, y_par, y_aug, y_ext, y_append, y_setI, y_expr, y_ite, y_for, y_while, y_ret, y_brk, y_cont, y_freeze, z_set, z_tg, z_par, z_aug, z_aug2, z_ext, z_ext2, z_app, z_app2, z_st1, z_st2, z_nx, z_sSelT, z_sSelF, z_for, z_ret, v_add, v_sub, v_eqI, v_neI, v_eqS, v_lt, v_le, v_gt, v_ge, v_iT0, v_iT1, v_iT2, v_iT3, v_iT4, v_iT5, v_iT6, v_iT7, v_iT8, v_iL0, v_iL1, v_iL2, v_iL3, v_iL4, v_iL5, v_iL6, v_iL7, v_iL8, v_len, v_lenT, v_min, v_max, v_tupL, v_all, v_any, v_sorted, t_int, t_intT, t_boolI, t_tup, t_list, t_str, setE, bindT, bindTs, nextIf_some, lift_some, Out.bind_ok, Out.thenS_ok, augI, slots, wipeE, place, c_top_of, vCell, topI]
theorem cell_start_spec {n : Nat} {c : Cell} {st : DSt} : run tb (n + 1) n_cell_start [vCell c] st = .ok (vOwn c.start) st := by
  refine (run_b (f := n_cell_start) rfl rfl).trans ?_
  cases c <;> simp [x_var, x_cst, x_glb, x_bin, x_neg, x_not, x_and, x_or, x_cmp, x_chain, x_ite, x_tup, x_list, x_idx, x_slice, x_call, x_bi, x_isinst, x_meth, x_comp, x_range1, x_range2, x_dnew, x_dget, z_dg, z_dg2, z_dg3, y_dupd, z_du, z_du2, z_du3, xs_nil, xs_cons, xo_no, xo_some, xi_one, xi_enum, xi_zip, z_two, z_twoN, z_bin, z_cmp, z_idx, z_me, z_neg, z_not, z_selT, z_selF, z_andT, z_andF, z_orT, z_orF, z_chA, z_chB, z_chT, z_chF, z_mkT, z_mkL, z_slC, z_slB, z_slA, z_bi, z_is, z_mkS, z_ifT, z_ifF, z_comp, z_one, z_rg1, z_rg2, z_cons, z_cons2, z_opt, z_seqL, z_seqT, z_en, z_zi, y_nil, y_seq, y_asg, y_own, y_asgT, y_par, y_aug, y_ext, y_append, y_setI, y_expr, y_ite, y_for, y_while, y_ret, y_brk, y_cont, y_freeze, z_set, z_tg, z_par, z_aug, z_aug2, z_ext, z_ext2, z_app, z_app2, z_st1, z_st2, z_nx, z_sSelT, z_sSelF, z_for, z_ret, v_add, v_sub, v_eqI, v_neI, v_eqS, v_lt, v_le, v_gt, v_ge, v_iT0, v_iT1, v_iT2, v_iT3, v_iT4, v_iT5, v_iT6, v_iT7, v_iT8, v_iL0, v_iL1, v_iL2, v_iL3, v_iL4, v_iL5, v_iL6, v_iL7, v_iL8, v_len, v_lenT, v_min, v_max, v_tupL, v_all, v_any, v_sorted, t_int, t_intT, t_boolI, t_tup, t_list, t_str, setE, bindT, bindTs, nextIf_some, lift_some, Out.bind_ok, Out.thenS_ok, augI, slots, wipeE, place, c_cell_start, vCell, vOwn, Cell.start]
theorem cell_guess_spec {n : Nat} {c : Cell} {o : Own} {st : DSt} (h : c.ok) (f : Fits c o) : run tb (n + 2) n_cell_guess [vCell c, vOwn o] st = .ok (.int (c.guess o)) st := by
  refine (run_b (f := n_cell_guess) rfl rfl).trans ?_
  cases c <;> cases o <;> simp [Fits] at f
  · simp [x_var, x_cst, x_glb, x_bin, x_neg, x_not, x_and, x_or, x_cmp, x_chain, x_ite, x_tup, x_list, x_idx, x_slice, x_call, x_bi, x_isinst, x_meth, x_comp, x_range1, x_range2, x_dnew, x_dget, z_dg, z_dg2, z_dg3, y_dupd, z_du, z_du2, z_du3, xs_nil, xs_cons, xo_no, xo_some, xi_one, xi_enum, xi_zip, z_two, z_twoN, z_bin, z_cmp, z_idx, z_me, z_neg, z_not, z_selT, z_selF, z_andT, z_andF, z_orT, z_orF, z_chA, z_chB, z_chT, z_chF, z_mkT, z_mkL, z_slC, z_slB, z_slA, z_bi, z_is, z_mkS, z_ifT, z_ifF, z_comp, z_one, z_rg1, z_rg2, z_cons, z_cons2, z_opt, z_seqL, z_seqT, z_en, z_zi, y_nil, y_seq, y_asg, y_own, y_asgT, y_par, y_aug, y_ext, y_append, y_setI, y_expr, y_ite, y_for, y_while, y_ret, y_brk, y_cont, y_freeze, z_set, z_tg, z_par, z_aug, z_aug2, z_ext, z_ext2, z_app, z_app2, z_st1, z_st2, z_nx, z_sSelT, z_sSelF, z_for, z_ret, v_add, v_sub, v_eqI, v_neI, v_eqS, v_lt, v_le, v_gt, v_ge, v_iT0, v_iT1, v_iT2, v_iT3, v_iT4, v_iT5, v_iT6, v_iT7, v_iT8, v_iL0, v_iL1, v_iL2, v_iL3, v_iL4, v_iL5, v_iL6, v_iL7, v_iL8, v_len, v_lenT, v_min, v_max, v_tupL, v_all, v_any, v_sorted, t_int, t_intT, t_boolI, t_tup, t_list, t_str, setE, bindT, bindTs, nextIf_some, lift_some, Out.bind_ok, Out.thenS_ok, augI, slots, wipeE, place, c_cell_guess, vCell, vOwn, Cell.guess]
  · rename_i k s i
    have := @top_of_count n k s st h.1
    simp only [vCell] at this
    by_cases q : topI k ≤ 2 * i <;> simp [x_var, x_cst, x_glb, x_bin, x_neg, x_not, x_and, x_or, x_cmp, x_chain, x_ite, x_tup, x_list, x_idx, x_slice, x_call, x_bi, x_isinst, x_meth, x_comp, x_range1, x_range2, x_dnew, x_dget, z_dg, z_dg2, z_dg3, y_dupd, z_du, z_du2, z_du3, xs_nil, xs_cons, xo_no, xo_some, xi_one, xi_enum, xi_zip, z_two, z_twoN, z_bin, z_cmp, z_idx, z_me, z_neg, z_not, z_selT, z_selF, z_andT, z_andF, z_orT, z_orF, z_chA, z_chB, z_chT, z_chF, z_mkT, z_mkL, z_slC, z_slB, z_slA, z_bi, z_is, z_mkS, z_ifT, z_ifF, z_comp, z_one, z_rg1, z_rg2, z_cons, z_cons2, z_opt, z_seqL, z_seqT, z_en, z_zi, y_nil, y_seq, y_asg, y_own, y_asgT, y_par, y_aug, y_ext, y_append, y_setI, y_expr, y_ite, y_for, y_while, y_ret, y_brk, y_cont, y_freeze, z_set, z_tg, z_par, z_aug, z_aug2, z_ext, z_ext2, z_app, z_app2, z_st1, z_st2, z_nx, z_sSelT, z_sSelF, z_for, z_ret, v_add, v_sub, v_eqI, v_neI, v_eqS, v_lt, v_le, v_gt, v_ge, v_iT0, v_iT1, v_iT2, v_iT3, v_iT4, v_iT5, v_iT6, v_iT7, v_iT8, v_iL0, v_iL1, v_iL2, v_iL3, v_iL4, v_iL5, v_iL6, v_iL7, v_iL8, v_len, v_lenT, v_min, v_max, v_tupL, v_all, v_any, v_sorted, t_int, t_intT, t_boolI, t_tup, t_list, t_str, setE, bindT, bindTs, nextIf_some, lift_some, Out.bind_ok, Out.thenS_ok, augI, slots, wipeE, place, c_cell_guess, vCell, vOwn, Cell.guess, this, q, v_mul2 (i := 2) rfl]
  · simp [x_var, x_cst, x_glb, x_bin, x_neg, x_not, x_and, x_or, x_cmp, x_chain, x_ite, x_tup, x_list, x_idx, x_slice, x_call, x_bi, x_isinst, x_meth, x_comp, x_range1, x_range2, x_dnew, x_dget, z_dg, z_dg2, z_dg3, y_dupd, z_du, z_du2, z_du3, xs_nil, xs_cons, xo_no, xo_some, xi_one, xi_enum, xi_zip, z_two, z_twoN, z_bin, z_cmp, z_idx, z_me, z_neg, z_not, z_selT, z_selF, z_andT, z_andF, z_orT, z_orF, z_chA, z_chB, z_chT, z_chF, z_mkT, z_mkL, z_slC, z_slB, z_slA, z_bi, z_is, z_mkS, z_ifT, z_ifF, z_comp, z_one, z_rg1, z_rg2, z_cons, z_cons2, z_opt, z_seqL, z_seqT, z_en, z_zi, y_nil, y_seq, y_asg, y_own, y_asgT, y_par, y_aug, y_ext, y_append, y_setI, y_expr, y_ite, y_for, y_while, y_ret, y_brk, y_cont, y_freeze, z_set, z_tg, z_par, z_aug, z_aug2, z_ext, z_ext2, z_app, z_app2, z_st1, z_st2, z_nx, z_sSelT, z_sSelF, z_for, z_ret, v_add, v_sub, v_eqI, v_neI, v_eqS, v_lt, v_le, v_gt, v_ge, v_iT0, v_iT1, v_iT2, v_iT3, v_iT4, v_iT5, v_iT6, v_iT7, v_iT8, v_iL0, v_iL1, v_iL2, v_iL3, v_iL4, v_iL5, v_iL6, v_iL7, v_iL8, v_len, v_lenT, v_min, v_max, v_tupL, v_all, v_any, v_sorted, t_int, t_intT, t_boolI, t_tup, t_list, t_str, setE, bindT, bindTs, nextIf_some, lift_some, Out.bind_ok, Out.thenS_ok, augI, slots, wipeE, place, c_cell_guess, vCell, vOwn, Cell.guess]
  · rename_i i j
    by_cases q : i = j <;> simp [x_var, x_cst, x_glb, x_bin, x_neg, x_not, x_and, x_or, x_cmp, x_chain, x_ite, x_tup, x_list, x_idx, x_slice, x_call, x_bi, x_isinst, x_meth, x_comp, x_range1, x_range2, x_dnew, x_dget, z_dg, z_dg2, z_dg3, y_dupd, z_du, z_du2, z_du3, xs_nil, xs_cons, xo_no, xo_some, xi_one, xi_enum, xi_zip, z_two, z_twoN, z_bin, z_cmp, z_idx, z_me, z_neg, z_not, z_selT, z_selF, z_andT, z_andF, z_orT, z_orF, z_chA, z_chB, z_chT, z_chF, z_mkT, z_mkL, z_slC, z_slB, z_slA, z_bi, z_is, z_mkS, z_ifT, z_ifF, z_comp, z_one, z_rg1, z_rg2, z_cons, z_cons2, z_opt, z_seqL, z_seqT, z_en, z_zi, y_nil, y_seq, y_asg, y_own, y_asgT, y_par, y_aug, y_ext, y_append, y_setI, y_expr, y_ite, y_for, y_while, y_ret, y_brk, y_cont, y_freeze, z_set, z_tg, z_par, z_aug, z_aug2, z_ext, z_ext2, z_app, z_app2, z_st1, z_st2, z_nx, z_sSelT, z_sSelF, z_for, z_ret, v_add, v_sub, v_eqI, v_neI, v_eqS, v_lt, v_le, v_gt, v_ge, v_iT0, v_iT1, v_iT2, v_iT3, v_iT4, v_iT5, v_iT6, v_iT7, v_iT8, v_iL0, v_iL1, v_iL2, v_iL3, v_iL4, v_iL5, v_iL6, v_iL7, v_iL8, v_len, v_lenT, v_min, v_max, v_tupL, v_all, v_any, v_sorted, t_int, t_intT, t_boolI, t_tup, t_list, t_str, setE, bindT, bindTs, nextIf_some, lift_some, Out.bind_ok, Out.thenS_ok, augI, slots, wipeE, place, c_cell_guess, vCell, vOwn, Cell.guess, q]
theorem cell_told_spec {n : Nat} {c : Cell} {o : Own} {w : Int} {st : DSt} (h : c.ok) (f : Fits c o) : run tb (n + 2) n_cell_told [vCell c, vOwn o, .int w] st = .ok (vOwn (c.told o w)) st := by
  refine (run_b (f := n_cell_told) rfl rfl).trans ?_
  cases c <;> cases o <;> simp [Fits] at f
  · simp [x_var, x_cst, x_glb, x_bin, x_neg, x_not, x_and, x_or, x_cmp, x_chain, x_ite, x_tup, x_list, x_idx, x_slice, x_call, x_bi, x_isinst, x_meth, x_comp, x_range1, x_range2, x_dnew, x_dget, z_dg, z_dg2, z_dg3, y_dupd, z_du, z_du2, z_du3, xs_nil, xs_cons, xo_no, xo_some, xi_one, xi_enum, xi_zip, z_two, z_twoN, z_bin, z_cmp, z_idx, z_me, z_neg, z_not, z_selT, z_selF, z_andT, z_andF, z_orT, z_orF, z_chA, z_chB, z_chT, z_chF, z_mkT, z_mkL, z_slC, z_slB, z_slA, z_bi, z_is, z_mkS, z_ifT, z_ifF, z_comp, z_one, z_rg1, z_rg2, z_cons, z_cons2, z_opt, z_seqL, z_seqT, z_en, z_zi, y_nil, y_seq, y_asg, y_own, y_asgT, y_par, y_aug, y_ext, y_append, y_setI, y_expr, y_ite, y_for, y_while, y_ret, y_brk, y_cont, y_freeze, z_set, z_tg, z_par, z_aug, z_aug2, z_ext, z_ext2, z_app, z_app2, z_st1, z_st2, z_nx, z_sSelT, z_sSelF, z_for, z_ret, v_add, v_sub, v_eqI, v_neI, v_eqS, v_lt, v_le, v_gt, v_ge, v_iT0, v_iT1, v_iT2, v_iT3, v_iT4, v_iT5, v_iT6, v_iT7, v_iT8, v_iL0, v_iL1, v_iL2, v_iL3, v_iL4, v_iL5, v_iL6, v_iL7, v_iL8, v_len, v_lenT, v_min, v_max, v_tupL, v_all, v_any, v_sorted, t_int, t_intT, t_boolI, t_tup, t_list, t_str, setE, bindT, bindTs, nextIf_some, lift_some, Out.bind_ok, Out.thenS_ok, augI, slots, wipeE, place, c_cell_told, vCell, vOwn, Cell.told]
  · rename_i k s i
    have := @top_of_count n k s st h.1
    simp only [vCell] at this
    by_cases q : w = 1 <;> simp [x_var, x_cst, x_glb, x_bin, x_neg, x_not, x_and, x_or, x_cmp, x_chain, x_ite, x_tup, x_list, x_idx, x_slice, x_call, x_bi, x_isinst, x_meth, x_comp, x_range1, x_range2, x_dnew, x_dget, z_dg, z_dg2, z_dg3, y_dupd, z_du, z_du2, z_du3, xs_nil, xs_cons, xo_no, xo_some, xi_one, xi_enum, xi_zip, z_two, z_twoN, z_bin, z_cmp, z_idx, z_me, z_neg, z_not, z_selT, z_selF, z_andT, z_andF, z_orT, z_orF, z_chA, z_chB, z_chT, z_chF, z_mkT, z_mkL, z_slC, z_slB, z_slA, z_bi, z_is, z_mkS, z_ifT, z_ifF, z_comp, z_one, z_rg1, z_rg2, z_cons, z_cons2, z_opt, z_seqL, z_seqT, z_en, z_zi, y_nil, y_seq, y_asg, y_own, y_asgT, y_par, y_aug, y_ext, y_append, y_setI, y_expr, y_ite, y_for, y_while, y_ret, y_brk, y_cont, y_freeze, z_set, z_tg, z_par, z_aug, z_aug2, z_ext, z_ext2, z_app, z_app2, z_st1, z_st2, z_nx, z_sSelT, z_sSelF, z_for, z_ret, v_add, v_sub, v_eqI, v_neI, v_eqS, v_lt, v_le, v_gt, v_ge, v_iT0, v_iT1, v_iT2, v_iT3, v_iT4, v_iT5, v_iT6, v_iT7, v_iT8, v_iL0, v_iL1, v_iL2, v_iL3, v_iL4, v_iL5, v_iL6, v_iL7, v_iL8, v_len, v_lenT, v_min, v_max, v_tupL, v_all, v_any, v_sorted, t_int, t_intT, t_boolI, t_tup, t_list, t_str, setE, bindT, bindTs, nextIf_some, lift_some, Out.bind_ok, Out.thenS_ok, augI, slots, wipeE, place, c_cell_told, vCell, vOwn, Cell.told, this, q, v_mul2 (i := 2) rfl]
  · rename_i k s g c
    by_cases q : w = g
    · simp [x_var, x_cst, x_glb, x_bin, x_neg, x_not, x_and, x_or, x_cmp, x_chain, x_ite, x_tup, x_list, x_idx, x_slice, x_call, x_bi, x_isinst, x_meth, x_comp, x_range1, x_range2, x_dnew, x_dget, z_dg, z_dg2, z_dg3, y_dupd, z_du, z_du2, z_du3, xs_nil, xs_cons, xo_no, xo_some, xi_one, xi_enum, xi_zip, z_two, z_twoN, z_bin, z_cmp, z_idx, z_me, z_neg, z_not, z_selT, z_selF, z_andT, z_andF, z_orT, z_orF, z_chA, z_chB, z_chT, z_chF, z_mkT, z_mkL, z_slC, z_slB, z_slA, z_bi, z_is, z_mkS, z_ifT, z_ifF, z_comp, z_one, z_rg1, z_rg2, z_cons, z_cons2, z_opt, z_seqL, z_seqT, z_en, z_zi, y_nil, y_seq, y_asg, y_own, y_asgT, y_par, y_aug, y_ext, y_append, y_setI, y_expr, y_ite, y_for, y_while, y_ret, y_brk, y_cont, y_freeze, z_set, z_tg, z_par, z_aug, z_aug2, z_ext, z_ext2, z_app, z_app2, z_st1, z_st2, z_nx, z_sSelT, z_sSelF, z_for, z_ret, v_add, v_sub, v_eqI, v_neI, v_eqS, v_lt, v_le, v_gt, v_ge, v_iT0, v_iT1, v_iT2, v_iT3, v_iT4, v_iT5, v_iT6, v_iT7, v_iT8, v_iL0, v_iL1, v_iL2, v_iL3, v_iL4, v_iL5, v_iL6, v_iL7, v_iL8, v_len, v_lenT, v_min, v_max, v_tupL, v_all, v_any, v_sorted, t_int, t_intT, t_boolI, t_tup, t_list, t_str, setE, bindT, bindTs, nextIf_some, lift_some, Out.bind_ok, Out.thenS_ok, augI, slots, wipeE, place, c_cell_told, vCell, vOwn, Cell.told, q]
    · by_cases q2 : c + 1 = k <;> simp [x_var, x_cst, x_glb, x_bin, x_neg, x_not, x_and, x_or, x_cmp, x_chain, x_ite, x_tup, x_list, x_idx, x_slice, x_call, x_bi, x_isinst, x_meth, x_comp, x_range1, x_range2, x_dnew, x_dget, z_dg, z_dg2, z_dg3, y_dupd, z_du, z_du2, z_du3, xs_nil, xs_cons, xo_no, xo_some, xi_one, xi_enum, xi_zip, z_two, z_twoN, z_bin, z_cmp, z_idx, z_me, z_neg, z_not, z_selT, z_selF, z_andT, z_andF, z_orT, z_orF, z_chA, z_chB, z_chT, z_chF, z_mkT, z_mkL, z_slC, z_slB, z_slA, z_bi, z_is, z_mkS, z_ifT, z_ifF, z_comp, z_one, z_rg1, z_rg2, z_cons, z_cons2, z_opt, z_seqL, z_seqT, z_en, z_zi, y_nil, y_seq, y_asg, y_own, y_asgT, y_par, y_aug, y_ext, y_append, y_setI, y_expr, y_ite, y_for, y_while, y_ret, y_brk, y_cont, y_freeze, z_set, z_tg, z_par, z_aug, z_aug2, z_ext, z_ext2, z_app, z_app2, z_st1, z_st2, z_nx, z_sSelT, z_sSelF, z_for, z_ret, v_add, v_sub, v_eqI, v_neI, v_eqS, v_lt, v_le, v_gt, v_ge, v_iT0, v_iT1, v_iT2, v_iT3, v_iT4, v_iT5, v_iT6, v_iT7, v_iT8, v_iL0, v_iL1, v_iL2, v_iL3, v_iL4, v_iL5, v_iL6, v_iL7, v_iL8, v_len, v_lenT, v_min, v_max, v_tupL, v_all, v_any, v_sorted, t_int, t_intT, t_boolI, t_tup, t_list, t_str, setE, bindT, bindTs, nextIf_some, lift_some, Out.bind_ok, Out.thenS_ok, augI, slots, wipeE, place, c_cell_told, vCell, vOwn, Cell.told, q, q2]
  · rename_i k a b
    by_cases q : w = 1 <;> simp [x_var, x_cst, x_glb, x_bin, x_neg, x_not, x_and, x_or, x_cmp, x_chain, x_ite, x_tup, x_list, x_idx, x_slice, x_call, x_bi, x_isinst, x_meth, x_comp, x_range1, x_range2, x_dnew, x_dget, z_dg, z_dg2, z_dg3, y_dupd, z_du, z_du2, z_du3, xs_nil, xs_cons, xo_no, xo_some, xi_one, xi_enum, xi_zip, z_two, z_twoN, z_bin, z_cmp, z_idx, z_me, z_neg, z_not, z_selT, z_selF, z_andT, z_andF, z_orT, z_orF, z_chA, z_chB, z_chT, z_chF, z_mkT, z_mkL, z_slC, z_slB, z_slA, z_bi, z_is, z_mkS, z_ifT, z_ifF, z_comp, z_one, z_rg1, z_rg2, z_cons, z_cons2, z_opt, z_seqL, z_seqT, z_en, z_zi, y_nil, y_seq, y_asg, y_own, y_asgT, y_par, y_aug, y_ext, y_append, y_setI, y_expr, y_ite, y_for, y_while, y_ret, y_brk, y_cont, y_freeze, z_set, z_tg, z_par, z_aug, z_aug2, z_ext, z_ext2, z_app, z_app2, z_st1, z_st2, z_nx, z_sSelT, z_sSelF, z_for, z_ret, v_add, v_sub, v_eqI, v_neI, v_eqS, v_lt, v_le, v_gt, v_ge, v_iT0, v_iT1, v_iT2, v_iT3, v_iT4, v_iT5, v_iT6, v_iT7, v_iT8, v_iL0, v_iL1, v_iL2, v_iL3, v_iL4, v_iL5, v_iL6, v_iL7, v_iL8, v_len, v_lenT, v_min, v_max, v_tupL, v_all, v_any, v_sorted, t_int, t_intT, t_boolI, t_tup, t_list, t_str, setE, bindT, bindTs, nextIf_some, lift_some, Out.bind_ok, Out.thenS_ok, augI, slots, wipeE, place, c_cell_told, vCell, vOwn, Cell.told, q]
theorem told_fits {c : Cell} {o : Own} {w : Int} (f : Fits c o) : Fits c (c.told o w) := by
  cases c <;> cases o <;> simp [Fits] at f <;> simp only [Cell.told]
  · exact f
  · split <;> exact trivial
  · split
    · exact trivial
    · split <;> exact trivial
  · split <;> exact trivial
theorem start_fits {c : Cell} : Fits c c.start := by cases c <;> exact trivial
end BG

/-! BG.M2: what the program's functions compute (histories, places). -/
namespace BG
inductive Hist where
  | none
  | all (b : Int)
  | own (b : Int)
  | mixed (b : Int)
def vHist : Hist → Val
  | .none => .tup [.str [110, 111, 110, 101]]
  | .all b => .tup [.str [97, 108, 108], .int b]
  | .own b => .tup [.str [111, 119, 110], .int b]
  | .mixed b => .tup [.str [109, 105, 120, 101, 100], .int b]
def Hist.ok : Hist → Prop
  | .none => True
  | .all b => b = 1 ∨ b = 2
  | .own b => b = 1 ∨ b = 2
  | .mixed b => b = 1 ∨ b = 2
inductive HSt where
  | one (n : Int)
  | many (l : List Int)
  deriving DecidableEq
def vHSt : HSt → Val
  | .one n => .int n
  | .many l => .tup (l.map .int)
def room (b : Int) : Int := if b = 1 then 2 else 4
def HFits (size : Nat) : Hist → HSt → Prop
  | .none, .one n => n = 0
  | .all b, .one n => 0 ≤ n ∧ n < room b
  | .mixed b, .one n => 0 ≤ n ∧ n < room b
  | .own b, .many l => l.length = size ∧ ∀ n ∈ l, 0 ≤ n ∧ n < room b
  | _, _ => False
def hstart (size : Nat) : Hist → HSt
  | .own _ => .many (List.replicate size 0)
  | _ => .one 0
def newer (v b w : Int) : Int := (2 * v + w) % room b
def htold : Hist → HSt → Int → Int → HSt
  | .all b, .one n, _, w => .one (newer n b w)
  | .mixed b, .one n, _, w => .one (newer n b w)
  | .own b, .many l, br, w => .many (l.set br.toNat (newer (l.getD br.toNat 0) b w))
  | _, st, _, _ => st
def crossI (a b : Int) : Int := (([[0, 1, 2, 3], [1, 0, 3, 2], [2, 3, 0, 1], [3, 2, 1, 0]] : List (List Int)).getD a.toNat []).getD b.toNat 0
abbrev Pl := Int × Int
def hplace : Hist → HSt → Int → Int → Pl
  | .none, _, _, e => (0, e)
  | .own _, .many l, br, e => (l.getD br.toNat 0, e)
  | .all _, .one n, _, e => (n, e)
  | .mixed b, .one n, _, e => (crossI n e % room b, 0)
  | _, _, _, e => (0, e)
def vPl (p : Pl) : Val := .tup [.int p.1, .int p.2]
structure Pred where
  c : Cell
  h : Hist
  es : List Int
def vPred (P : Pred) : Val := .tup [vCell P.c, vHist P.h, .tup (P.es.map .int)]
structure Pred.ok (P : Pred) (size : Nat) : Prop where
  c : P.c.ok
  h : P.h.ok
  len : P.es.length = size
  es : ∀ e ∈ P.es, 0 ≤ e ∧ e ≤ 3
  lo : 1 ≤ size
  hi : size ≤ 4
theorem vidx_ints {l : List Int} {i : Int} (h0 : 0 ≤ i) (h1 : i < l.length) : vidx (.tup (l.map .int)) (.int i) = some (.int (l.getD i.toNat 0)) := by
  have hj : i.toNat < l.length := by omega
  simp only [vidx, place, List.length_map]
  rw [if_pos h0, if_pos h1]
  simp [List.getElem?_map, List.getElem?_eq_getElem hj]
theorem vidx_intsL {l : List Int} {i : Int} (h0 : 0 ≤ i) (h1 : i < l.length) : vidx (.lst (l.map .int)) (.int i) = some (.int (l.getD i.toNat 0)) := vidx_ints h0 h1
theorem getD_mem {l : List Int} {i : Nat} (h : i < l.length) : l.getD i 0 ∈ l := by
  rw [List.getD_eq_getElem?_getD, List.getElem?_eq_getElem h]
  exact List.getElem_mem h
theorem room_pos {b : Int} : 0 < room b := by unfold room; split <;> decide
theorem newer_range {v b w : Int} : 0 ≤ newer v b w ∧ newer v b w < room b := ⟨Int.emod_nonneg _ (by have := @room_pos b; omega), Int.emod_lt_of_pos _ room_pos⟩
theorem newer_spec {n : Nat} {v b w : Int} {st : DSt} (h : b = 1 ∨ b = 2) : run tb (n + 1) n_newer [.int v, .int b, .int w] st = .ok (.int (newer v b w)) st := by
  refine (run_b (f := n_newer) rfl rfl).trans ?_
  rcases h with rfl | rfl <;> simp [x_var, x_cst, x_glb, x_bin, x_neg, x_not, x_and, x_or, x_cmp, x_chain, x_ite, x_tup, x_list, x_idx, x_slice, x_call, x_bi, x_isinst, x_meth, x_comp, x_range1, x_range2, x_dnew, x_dget, z_dg, z_dg2, z_dg3, y_dupd, z_du, z_du2, z_du3, xs_nil, xs_cons, xo_no, xo_some, xi_one, xi_enum, xi_zip, z_two, z_twoN, z_bin, z_cmp, z_idx, z_me, z_neg, z_not, z_selT, z_selF, z_andT, z_andF, z_orT, z_orF, z_chA, z_chB, z_chT, z_chF, z_mkT, z_mkL, z_slC, z_slB, z_slA, z_bi, z_is, z_mkS, z_ifT, z_ifF, z_comp, z_one, z_rg1, z_rg2, z_cons, z_cons2, z_opt, z_seqL, z_seqT, z_en, z_zi, y_nil, y_seq, y_asg, y_own, y_asgT, y_par, y_aug, y_ext, y_append, y_setI, y_expr, y_ite, y_for, y_while, y_ret, y_brk, y_cont, y_freeze, z_set, z_tg, z_par, z_aug, z_aug2, z_ext, z_ext2, z_app, z_app2, z_st1, z_st2, z_nx, z_sSelT, z_sSelF, z_for, z_ret, v_add, v_sub, v_eqI, v_neI, v_eqS, v_lt, v_le, v_gt, v_ge, v_iT0, v_iT1, v_iT2, v_iT3, v_iT4, v_iT5, v_iT6, v_iT7, v_iT8, v_iL0, v_iL1, v_iL2, v_iL3, v_iL4, v_iL5, v_iL6, v_iL7, v_iL8, v_len, v_lenT, v_min, v_max, v_tupL, v_all, v_any, v_sorted, t_int, t_intT, t_boolI, t_tup, t_list, t_str, setE, bindT, bindTs, nextIf_some, lift_some, Out.bind_ok, Out.thenS_ok, augI, slots, wipeE, place, c_newer, newer, room, v_mul2 (i := 2) rfl, v_mod]
theorem hstart_spec {n : Nat} {h : Hist} {size : Nat} {st : DSt} (h1 : 1 ≤ size) (h2 : size ≤ 4) : run tb (n + 1) n_history_start [vHist h, .int size] st = .ok (vHSt (hstart size h)) st := by
  refine (run_b (f := n_history_start) rfl rfl).trans ?_
  have : size = 1 ∨ size = 2 ∨ size = 3 ∨ size = 4 := by omega
  rcases this with rfl | rfl | rfl | rfl <;> cases h <;> simp [x_var, x_cst, x_glb, x_bin, x_neg, x_not, x_and, x_or, x_cmp, x_chain, x_ite, x_tup, x_list, x_idx, x_slice, x_call, x_bi, x_isinst, x_meth, x_comp, x_range1, x_range2, x_dnew, x_dget, z_dg, z_dg2, z_dg3, y_dupd, z_du, z_du2, z_du3, xs_nil, xs_cons, xo_no, xo_some, xi_one, xi_enum, xi_zip, z_two, z_twoN, z_bin, z_cmp, z_idx, z_me, z_neg, z_not, z_selT, z_selF, z_andT, z_andF, z_orT, z_orF, z_chA, z_chB, z_chT, z_chF, z_mkT, z_mkL, z_slC, z_slB, z_slA, z_bi, z_is, z_mkS, z_ifT, z_ifF, z_comp, z_one, z_rg1, z_rg2, z_cons, z_cons2, z_opt, z_seqL, z_seqT, z_en, z_zi, y_nil, y_seq, y_asg, y_own, y_asgT, y_par, y_aug, y_ext, y_append, y_setI, y_expr, y_ite, y_for, y_while, y_ret, y_brk, y_cont, y_freeze, z_set, z_tg, z_par, z_aug, z_aug2, z_ext, z_ext2, z_app, z_app2, z_st1, z_st2, z_nx, z_sSelT, z_sSelF, z_for, z_ret, v_add, v_sub, v_eqI, v_neI, v_eqS, v_lt, v_le, v_gt, v_ge, v_iT0, v_iT1, v_iT2, v_iT3, v_iT4, v_iT5, v_iT6, v_iT7, v_iT8, v_iL0, v_iL1, v_iL2, v_iL3, v_iL4, v_iL5, v_iL6, v_iL7, v_iL8, v_len, v_lenT, v_min, v_max, v_tupL, v_all, v_any, v_sorted, t_int, t_intT, t_boolI, t_tup, t_list, t_str, setE, bindT, bindTs, nextIf_some, lift_some, Out.bind_ok, Out.thenS_ok, augI, slots, wipeE, place, c_history_start, vHist, vHSt, hstart, vbin, List.replicate]
theorem cut_set {l : List Int} {j : Nat} {x : Int} (h : j < l.length) : l.take j ++ [x] ++ l.drop (j + 1) = l.set j x := by
  rw [List.set_eq_take_append_cons_drop, if_pos h]
  simp
theorem htold_spec {n size : Nat} {h : Hist} {hs : HSt} {br w : Int} {st : DSt} (ho : h.ok) (hf : HFits size h hs) (b0 : 0 ≤ br) (b1 : br < size) (h4 : size ≤ 4) : run tb (n + 2) n_history_told [vHist h, vHSt hs, .int br, .int w] st = .ok (vHSt (htold h hs br w)) st := by
  refine (run_b (f := n_history_told) rfl rfl).trans ?_
  cases h <;> cases hs <;> simp [HFits] at hf
  · simp [x_var, x_cst, x_glb, x_bin, x_neg, x_not, x_and, x_or, x_cmp, x_chain, x_ite, x_tup, x_list, x_idx, x_slice, x_call, x_bi, x_isinst, x_meth, x_comp, x_range1, x_range2, x_dnew, x_dget, z_dg, z_dg2, z_dg3, y_dupd, z_du, z_du2, z_du3, xs_nil, xs_cons, xo_no, xo_some, xi_one, xi_enum, xi_zip, z_two, z_twoN, z_bin, z_cmp, z_idx, z_me, z_neg, z_not, z_selT, z_selF, z_andT, z_andF, z_orT, z_orF, z_chA, z_chB, z_chT, z_chF, z_mkT, z_mkL, z_slC, z_slB, z_slA, z_bi, z_is, z_mkS, z_ifT, z_ifF, z_comp, z_one, z_rg1, z_rg2, z_cons, z_cons2, z_opt, z_seqL, z_seqT, z_en, z_zi, y_nil, y_seq, y_asg, y_own, y_asgT, y_par, y_aug, y_ext, y_append, y_setI, y_expr, y_ite, y_for, y_while, y_ret, y_brk, y_cont, y_freeze, z_set, z_tg, z_par, z_aug, z_aug2, z_ext, z_ext2, z_app, z_app2, z_st1, z_st2, z_nx, z_sSelT, z_sSelF, z_for, z_ret, v_add, v_sub, v_eqI, v_neI, v_eqS, v_lt, v_le, v_gt, v_ge, v_iT0, v_iT1, v_iT2, v_iT3, v_iT4, v_iT5, v_iT6, v_iT7, v_iT8, v_iL0, v_iL1, v_iL2, v_iL3, v_iL4, v_iL5, v_iL6, v_iL7, v_iL8, v_len, v_lenT, v_min, v_max, v_tupL, v_all, v_any, v_sorted, t_int, t_intT, t_boolI, t_tup, t_list, t_str, setE, bindT, bindTs, nextIf_some, lift_some, Out.bind_ok, Out.thenS_ok, augI, slots, wipeE, place, c_history_told, vHist, vHSt, htold]
  · rename_i b v
    have N := @newer_spec n v b w st ho
    simp [x_var, x_cst, x_glb, x_bin, x_neg, x_not, x_and, x_or, x_cmp, x_chain, x_ite, x_tup, x_list, x_idx, x_slice, x_call, x_bi, x_isinst, x_meth, x_comp, x_range1, x_range2, x_dnew, x_dget, z_dg, z_dg2, z_dg3, y_dupd, z_du, z_du2, z_du3, xs_nil, xs_cons, xo_no, xo_some, xi_one, xi_enum, xi_zip, z_two, z_twoN, z_bin, z_cmp, z_idx, z_me, z_neg, z_not, z_selT, z_selF, z_andT, z_andF, z_orT, z_orF, z_chA, z_chB, z_chT, z_chF, z_mkT, z_mkL, z_slC, z_slB, z_slA, z_bi, z_is, z_mkS, z_ifT, z_ifF, z_comp, z_one, z_rg1, z_rg2, z_cons, z_cons2, z_opt, z_seqL, z_seqT, z_en, z_zi, y_nil, y_seq, y_asg, y_own, y_asgT, y_par, y_aug, y_ext, y_append, y_setI, y_expr, y_ite, y_for, y_while, y_ret, y_brk, y_cont, y_freeze, z_set, z_tg, z_par, z_aug, z_aug2, z_ext, z_ext2, z_app, z_app2, z_st1, z_st2, z_nx, z_sSelT, z_sSelF, z_for, z_ret, v_add, v_sub, v_eqI, v_neI, v_eqS, v_lt, v_le, v_gt, v_ge, v_iT0, v_iT1, v_iT2, v_iT3, v_iT4, v_iT5, v_iT6, v_iT7, v_iT8, v_iL0, v_iL1, v_iL2, v_iL3, v_iL4, v_iL5, v_iL6, v_iL7, v_iL8, v_len, v_lenT, v_min, v_max, v_tupL, v_all, v_any, v_sorted, t_int, t_intT, t_boolI, t_tup, t_list, t_str, setE, bindT, bindTs, nextIf_some, lift_some, Out.bind_ok, Out.thenS_ok, augI, slots, wipeE, place, c_history_told, vHist, vHSt, htold, N]
  · rename_i b l
    obtain ⟨hl, hr⟩ := hf
    have N := @newer_spec n (l.getD br.toNat 0) b w st ho
    have V : vidx (.tup (l.map .int)) (.int br) = some (.int (l.getD br.toNat 0)) := vidx_ints b0 (by omega)
    have s1 : vslice (.tup (l.map .int)) none (some br) = some (.tup ((l.take br.toNat).map .int)) := by
      simp only [vslice, cut, cutIx, List.length_map]
      rw [if_neg (by omega), Nat.min_eq_left (by omega)]
      simp [List.map_take]
    have s2 : vslice (.tup (l.map .int)) (some (br + 1)) none = some (.tup ((l.drop (br.toNat + 1)).map .int)) := by
      simp only [vslice, cut, cutIx, List.length_map]
      rw [if_neg (by omega), Nat.min_eq_left (by omega), show (br + 1).toNat = br.toNat + 1 by omega]
      rw [List.take_of_length_le (by simp [List.length_drop]), List.map_drop]
    have c1 : vbin .add (.tup ((l.take br.toNat).map .int)) (.tup [.int (newer (l.getD br.toNat 0) b w)]) = some (.tup ((l.take br.toNat ++ [newer (l.getD br.toNat 0) b w]).map .int)) := by
      simp only [vbin, List.length_map, List.length_take, List.length_singleton]
      rw [if_pos (by have : lim = 1000000 := rfl; omega)]
      simp
    have c2 : vbin .add (.tup ((l.take br.toNat ++ [newer (l.getD br.toNat 0) b w]).map .int)) (.tup ((l.drop (br.toNat + 1)).map .int)) = some (.tup ((l.set br.toNat (newer (l.getD br.toNat 0) b w)).map .int)) := by
      simp only [vbin, List.length_map, List.length_append, List.length_take, List.length_drop, List.length_singleton]
      rw [if_pos (by have : lim = 1000000 := rfl; omega), ← List.map_append, cut_set (by omega)]
    simp only [sxm, c_history_told, vHist, vHSt, htold, V, N, s1, s2, c1, c2]
  · rename_i b v
    have N := @newer_spec n v b w st ho
    simp [x_var, x_cst, x_glb, x_bin, x_neg, x_not, x_and, x_or, x_cmp, x_chain, x_ite, x_tup, x_list, x_idx, x_slice, x_call, x_bi, x_isinst, x_meth, x_comp, x_range1, x_range2, x_dnew, x_dget, z_dg, z_dg2, z_dg3, y_dupd, z_du, z_du2, z_du3, xs_nil, xs_cons, xo_no, xo_some, xi_one, xi_enum, xi_zip, z_two, z_twoN, z_bin, z_cmp, z_idx, z_me, z_neg, z_not, z_selT, z_selF, z_andT, z_andF, z_orT, z_orF, z_chA, z_chB, z_chT, z_chF, z_mkT, z_mkL, z_slC, z_slB, z_slA, z_bi, z_is, z_mkS, z_ifT, z_ifF, z_comp, z_one, z_rg1, z_rg2, z_cons, z_cons2, z_opt, z_seqL, z_seqT, z_en, z_zi, y_nil, y_seq, y_asg, y_own, y_asgT, y_par, y_aug, y_ext, y_append, y_setI, y_expr, y_ite, y_for, y_while, y_ret, y_brk, y_cont, y_freeze, z_set, z_tg, z_par, z_aug, z_aug2, z_ext, z_ext2, z_app, z_app2, z_st1, z_st2, z_nx, z_sSelT, z_sSelF, z_for, z_ret, v_add, v_sub, v_eqI, v_neI, v_eqS, v_lt, v_le, v_gt, v_ge, v_iT0, v_iT1, v_iT2, v_iT3, v_iT4, v_iT5, v_iT6, v_iT7, v_iT8, v_iL0, v_iL1, v_iL2, v_iL3, v_iL4, v_iL5, v_iL6, v_iL7, v_iL8, v_len, v_lenT, v_min, v_max, v_tupL, v_all, v_any, v_sorted, t_int, t_intT, t_boolI, t_tup, t_list, t_str, setE, bindT, bindTs, nextIf_some, lift_some, Out.bind_ok, Out.thenS_ok, augI, slots, wipeE, place, c_history_told, vHist, vHSt, htold, N]
end BG

/-! BG.M3: what the program's functions compute (the machine). -/
namespace BG
/-! places -/
theorem cross_spec {n : Nat} {a b : Int} {st : DSt} (h : 0 ≤ a ∧ a < 4) (h2 : 0 ≤ b ∧ b < 4) : run tb (n + 1) n_crossed [.int a, .int b] st = .ok (.int (crossI a b)) st := by
  refine (run_b (f := n_crossed) rfl rfl).trans ?_
  have ha : a = 0 ∨ a = 1 ∨ a = 2 ∨ a = 3 := by omega
  have hb : b = 0 ∨ b = 1 ∨ b = 2 ∨ b = 3 := by omega
  rcases ha with rfl | rfl | rfl | rfl <;> rcases hb with rfl | rfl | rfl | rfl <;> simp only [sxm, c_crossed] <;> rfl
def entry (P : Pred) (br : Int) : Int := P.es.getD br.toNat 0
def placeP (P : Pred) (hs : HSt) (br : Int) : Pl := hplace P.h hs br (entry P br)
theorem entry_ok {P : Pred} {size : Nat} {br : Int} (O : P.ok size) (b0 : 0 ≤ br) (b1 : br < size) : 0 ≤ entry P br ∧ entry P br ≤ 3 := O.es _ (getD_mem (by have := O.len; omega))
theorem place_spec {n size : Nat} {P : Pred} {hs : HSt} {br : Int} {st : DSt} (O : P.ok size) (hf : HFits size P.h hs) (b0 : 0 ≤ br) (b1 : br < size) : run tb (n + 2) n_place_of [vPred P, vHSt hs, .int br] st = .ok (vPl (placeP P hs br)) st := by
  refine (run_b (f := n_place_of) rfl rfl).trans ?_
  obtain ⟨c, h, es⟩ := P
  have hl := O.len
  have V : vidx (.tup (es.map .int)) (.int br) = some (.int (es.getD br.toNat 0)) := vidx_ints b0 (by simp at hl; omega)
  have EO := entry_ok O b0 b1
  simp only [entry] at EO
  have oh := O.h
  cases h <;> cases hs <;> simp [HFits] at hf
  · simp only [sxm, c_place_of, vPred, vHist, vHSt, vPl, placeP, hplace, entry, V]
  · rename_i b v
    simp only [sxm, c_place_of, vPred, vHist, vHSt, vPl, placeP, hplace, entry, V]
  · rename_i b l
    have W : vidx (.tup (l.map .int)) (.int br) = some (.int (l.getD br.toNat 0)) := vidx_ints b0 (by omega)
    simp only [sxm, c_place_of, vPred, vHist, vHSt, vPl, placeP, hplace, entry, V, W]
  · rename_i b v
    have hb : b = 1 ∨ b = 2 := oh
    have C := @cross_spec n v (es.getD br.toNat 0) st (by have : room b ≤ 4 := by { unfold room; split <;> decide }
                                                          omega) (by omega)
    rcases hb with rfl | rfl <;> simp only [sxm, c_place_of, vPred, vHist, vHSt, vPl, placeP, hplace, entry, V, C] <;> simp [x_var, x_cst, x_glb, x_bin, x_neg, x_not, x_and, x_or, x_cmp, x_chain, x_ite, x_tup, x_list, x_idx, x_slice, x_call, x_bi, x_isinst, x_meth, x_comp, x_range1, x_range2, x_dnew, x_dget, z_dg, z_dg2, z_dg3, y_dupd, z_du, z_du2, z_du3, xs_nil, xs_cons, xo_no, xo_some, xi_one, xi_enum, xi_zip, z_two, z_twoN, z_bin, z_cmp, z_idx, z_me, z_neg, z_not, z_selT, z_selF, z_andT, z_andF, z_orT, z_orF, z_chA, z_chB, z_chT, z_chF, z_mkT, z_mkL, z_slC, z_slB, z_slA, z_bi, z_is, z_mkS, z_ifT, z_ifF, z_comp, z_one, z_rg1, z_rg2, z_cons, z_cons2, z_opt, z_seqL, z_seqT, z_en, z_zi, y_nil, y_seq, y_asg, y_own, y_asgT, y_par, y_aug, y_ext, y_append, y_setI, y_expr, y_ite, y_for, y_while, y_ret, y_brk, y_cont, y_freeze, z_set, z_tg, z_par, z_aug, z_aug2, z_ext, z_ext2, z_app, z_app2, z_st1, z_st2, z_nx, z_sSelT, z_sSelF, z_for, z_ret, v_add, v_sub, v_eqI, v_neI, v_eqS, v_lt, v_le, v_gt, v_ge, v_iT0, v_iT1, v_iT2, v_iT3, v_iT4, v_iT5, v_iT6, v_iT7, v_iT8, v_iL0, v_iL1, v_iL2, v_iL3, v_iL4, v_iL5, v_iL6, v_iL7, v_iL8, v_len, v_lenT, v_min, v_max, v_tupL, v_all, v_any, v_sorted, t_int, t_intT, t_boolI, t_tup, t_list, t_str, setE, bindT, bindTs, nextIf_some, lift_some, Out.bind_ok, Out.thenS_ok, augI, slots, wipeE, room, v_mod]
/-! the cells that are not as at the start -/
abbrev Ent := Pl × Own
def vEnt (x : Ent) : Val := .tup [vPl x.1, vOwn x.2]
def vSt (hs : HSt) (cs : List Ent) : Val := .tup [vHSt hs, .tup (cs.map vEnt)]
def find (p : Pl) : List Ent → Option Own
  | [] => none
  | x :: xs => if x.1 = p then some x.2 else find p xs
def look (c : Cell) (cs : List Ent) (p : Pl) : Own := (find p cs).getD c.start
theorem v_eqP {p q : Pl} : vcmp .eq (vPl p) (vPl q) = some (decide (p = q)) := by
  obtain ⟨a, b⟩ := p
  obtain ⟨c, d⟩ := q
  by_cases h1 : a = c <;> by_cases h2 : b = d <;> simp [vcmp, vPl, vEq, eqOk, plain, plains, dep, deps, veq, veqs, h1, h2]
theorem v_neP {p q : Pl} : vcmp .ne (vPl p) (vPl q) = some (!decide (p = q)) := by
  have h := @v_eqP p q
  simp only [vcmp] at h ⊢
  rw [h]
  rfl
theorem cell_at_loop {cf : Nat → List Val → DSt → Out Val} {st : DSt} {a b : Val} {p : Pl} : ∀ (cs : List Ent) (x y : Option Val),
    ∃ x' y', forL (.tup (.cons (.name 3) (.cons (.name 4) .nil))) (exec cf (.seq (.ite (.cmp .eq (.var 3) (.var 2)) (.seq (.ret (.var 4)) (.nil)) (.nil)) (.nil))) (cs.map vEnt) [some a, some b, some (vPl p), x, y] st =
      match find p cs with
      | some o => .ret (vOwn o) st
      | none => .next [some a, some b, some (vPl p), x', y'] st
  | [], x, y => ⟨x, y, rfl⟩
  | c :: cs, x, y => by
    obtain ⟨x', y', ih⟩ := cell_at_loop (cf := cf) (st := st) (a := a) (b := b) (p := p) cs (some (vPl c.1)) (some (vOwn c.2))
    refine ⟨x', y', ?_⟩
    by_cases h : c.1 = p
    · simp only [sxm, forL, vEnt, v_eqP, find, h]
    · simp only [sxm, forL, vEnt, v_eqP, find, h]
      exact ih
theorem cell_at_spec {n : Nat} {P : Pred} {hs : HSt} {cs : List Ent} {p : Pl} {st : DSt} : run tb (n + 2) n_cell_at [vPred P, vSt hs cs, vPl p] st = .ok (vOwn (look P.c cs p)) st := by
  refine (run_b (f := n_cell_at) rfl rfl).trans ?_
  obtain ⟨x', y', L⟩ := cell_at_loop (cf := run tb (n + 1)) (st := st) (a := vPred P) (b := vSt hs cs) (p := p) cs none none
  have S := @cell_start_spec n P.c st
  simp only [vSt, vPred] at L
  cases h : find p cs with
  | some o =>
    rw [h] at L
    simp only [sxm, c_cell_at, vSt, vPred, look, h, L, Option.getD_some]
  | none =>
    rw [h] at L
    simp only [sxm, c_cell_at, vSt, vPred, look, h, L, S, Option.getD_none]
/-- what the cells' list tells -/
structure Sem (c : Cell) (cs : List Ent) (m : Pl → Own) : Prop where
  nd : (cs.map (·.1)).Nodup
  fit : ∀ x ∈ cs, Fits c x.2
  lk : ∀ p, look c cs p = m p
  ns : ∀ x ∈ cs, x.2 ≠ c.start
theorem look_fits {c : Cell} {cs : List Ent} {p : Pl} (h : ∀ x ∈ cs, Fits c x.2) : Fits c (look c cs p) := by
  induction cs with
  | nil => exact start_fits
  | cons x xs ih =>
    unfold look find
    split
    · exact h x List.mem_cons_self
    · exact ih fun y hy => h y (List.mem_cons_of_mem _ hy)
theorem Sem.fits {c : Cell} {cs : List Ent} {m : Pl → Own} (h : Sem c cs m) (p : Pl) : Fits c (m p) := by rw [← h.lk p]; exact look_fits h.fit
theorem guess_spec {n size : Nat} {P : Pred} {hs : HSt} {cs : List Ent} {m : Pl → Own} {br : Int} {st : DSt} (O : P.ok size) (hf : HFits size P.h hs) (S : Sem P.c cs m) (b0 : 0 ≤ br) (b1 : br < size) :
    run tb (n + 3) n_guess_of [vPred P, vSt hs cs, .int br] st = .ok (.int (P.c.guess (m (placeP P hs br)))) st := by
  refine (run_b (f := n_guess_of) rfl rfl).trans ?_
  have A := @place_spec n size P hs br st O hf b0 b1
  have B := @cell_at_spec n P hs cs (placeP P hs br) st
  rw [S.lk] at B
  have C := @cell_guess_spec n P.c (m (placeP P hs br)) st O.c (S.fits _)
  simp only [vSt, vPred] at A B
  simp only [sxm, c_guess_of, vPred, vSt, A, B, C]
/-! sorting -/
def insE (x : Ent) : List Ent → List Ent
  | [] => [x]
  | y :: ys => if vltB (vEnt y) (vEnt x) then y :: insE x ys else x :: y :: ys
def sortE : List Ent → List Ent
  | [] => []
  | x :: xs => insE x (sortE xs)
theorem insE_map {x : Ent} : ∀ {l : List Ent}, insV (vEnt x) (l.map vEnt) = (insE x l).map vEnt
  | [] => rfl
  | y :: l => by
    simp only [List.map_cons, insV, insE]
    split
    · simp [insE_map (l := l)]
    · simp
theorem sortE_map : ∀ {l : List Ent}, sortL (l.map vEnt) = (sortE l).map vEnt
  | [] => rfl
  | x :: l => by simp only [List.map_cons, sortL, sortE, sortE_map (l := l), insE_map]
theorem insE_perm {x : Ent} : ∀ {l : List Ent}, (insE x l).Perm (x :: l)
  | [] => List.Perm.refl _
  | y :: l => by
    unfold insE
    split
    · exact (List.Perm.cons y insE_perm).trans (List.Perm.swap x y l)
    · exact List.Perm.refl _
theorem sortE_perm : ∀ {l : List Ent}, (sortE l).Perm l
  | [] => List.Perm.refl _
  | x :: l => insE_perm.trans (List.Perm.cons x sortE_perm)
theorem own_alike {c : Cell} {o o' : Own} (h : Fits c o) (h' : Fits c o') : alikeV (vOwn o) (vOwn o') = true := by
  cases c <;> cases o <;> cases o' <;> simp [Fits] at h h' <;> rfl
theorem ent_alike {c : Cell} {x y : Ent} (h : Fits c x.2) (h' : Fits c y.2) : alikeV (vEnt x) (vEnt y) = true := by
  simp [alikeV, alikesV, vEnt, vPl, own_alike h h']
theorem dep_own {o : Own} : dep (vOwn o) ≤ 1 := by cases o <;> simp [vOwn, dep, deps]
theorem dep_ents : ∀ (l : List Ent), deps (l.map vEnt) ≤ 2
  | [] => by simp [deps]
  | x :: l => by
    have h1 := dep_ents l
    have h2 := @dep_own x.2
    simp only [List.map_cons, deps, vEnt, dep, vPl]
    omega
theorem sort_ents {c : Cell} {l : List Ent} (h : ∀ x ∈ l, Fits c x.2) : sortV (l.map vEnt) = some ((sortE l).map vEnt) := by
  have o : sortOk (l.map vEnt) = true := by
    simp only [sortOk, Bool.and_eq_true, List.all_eq_true, Bool.or_eq_true, decide_eq_true_eq]
    refine ⟨⟨fun a ha b hb => ?_, .inl fun a ha => ?_⟩, by have := dep_ents l; omega⟩
    · obtain ⟨x, hx, rfl⟩ := List.mem_map.mp ha
      obtain ⟨y, hy, rfl⟩ := List.mem_map.mp hb
      exact ent_alike (h x hx) (h y hy)
    · obtain ⟨x, hx, rfl⟩ := List.mem_map.mp ha
      rfl
  unfold sortV
  rw [if_pos o, sortE_map]
theorem find_mem {p : Pl} {o : Own} : ∀ {l : List Ent}, (l.map (·.1)).Nodup → (find p l = some o ↔ (p, o) ∈ l)
  | [], _ => by simp [find]
  | x :: l, nd => by
    simp only [List.map_cons, List.nodup_cons] at nd
    have ih := find_mem (p := p) (o := o) nd.2
    unfold find
    split
    · rename_i h
      subst h
      constructor
      · intro e
        cases e
        exact List.mem_cons_self
      · intro e
        rcases List.mem_cons.mp e with e | e
        · rw [← e]
        · exact absurd (List.mem_map.mpr ⟨_, e, rfl⟩) nd.1
    · rename_i h
      rw [ih]
      constructor
      · exact fun e => List.mem_cons_of_mem _ e
      · intro e
        rcases List.mem_cons.mp e with e | e
        · exact absurd (by rw [← e]) h
        · exact e
theorem find_perm {p : Pl} {l l' : List Ent} (h : l.Perm l') (nd : (l.map (·.1)).Nodup) : find p l = find p l' := by
  have nd' : (l'.map (·.1)).Nodup := (h.map _).nodup_iff.mp nd
  apply Option.ext
  intro o
  rw [find_mem nd, find_mem nd', h.mem_iff]
theorem find_filter {p q : Pl} : ∀ {l : List Ent}, find q (l.filter fun x => !decide (x.1 = p)) = if q = p then none else find q l
  | [] => by simp [find]
  | x :: l => by
    have ih := find_filter (p := p) (q := q) (l := l)
    by_cases h : x.1 = p
    · rw [List.filter_cons_of_neg (by simp [h]), ih]
      by_cases hq : q = p
      · rw [if_pos hq, if_pos hq]
      · rw [if_neg hq, if_neg hq]
        show find q l = if x.1 = q then some x.2 else find q l
        rw [if_neg (fun e => hq (by rw [← e, h]))]
    · rw [List.filter_cons_of_pos (by simp [h])]
      unfold find
      by_cases hx : x.1 = q
      · rw [if_pos hx, if_pos hx, if_neg (fun e => h (by rw [hx, e]))]
      · rw [if_neg hx, if_neg hx, ih]
theorem find_append {q : Pl} {x : Ent} : ∀ {l : List Ent}, find q (l ++ [x]) = match find q l with
    | some o => some o
    | none => if x.1 = q then some x.2 else none
  | [] => by simp [find]
  | y :: l => by
    simp only [List.cons_append, find]
    split
    · rfl
    · exact find_append
def upd1 (m : Pl → Own) (p : Pl) (o : Own) : Pl → Own := fun q => if q = p then o else m q
/-- the list behind a step -/
def nextC (c : Cell) (cs : List Ent) (p : Pl) (o : Own) : List Ent := sortE ((cs.filter fun x => !decide (x.1 = p)) ++ (if o = c.start then [] else [(p, o)]))
theorem nextC_sem {c : Cell} {cs : List Ent} {m : Pl → Own} {p : Pl} {o : Own} (S : Sem c cs m) (f : Fits c o) : Sem c (nextC c cs p o) (upd1 m p o) := by
  have nf : ((cs.filter fun x => !decide (x.1 = p)).map (·.1)).Nodup := S.nd.sublist (List.Sublist.map _ List.filter_sublist)
  have nd0 : (((cs.filter fun x => !decide (x.1 = p)) ++ (if o = c.start then [] else [(p, o)])).map (·.1)).Nodup := by
    split
    · simpa using nf
    · rw [List.map_append, List.nodup_append]
      refine ⟨nf, by simp, fun a ha b hb => ?_⟩
      obtain ⟨x, hx, rfl⟩ := List.mem_map.mp ha
      simp only [List.map_cons, List.map_nil, List.mem_singleton] at hb
      have := (List.mem_filter.mp hx).2
      subst hb
      simpa using this
  refine ⟨((sortE_perm.map _).nodup_iff).mpr nd0, fun x hx => ?_, fun q => ?_, fun x hx => ?_⟩
  · have hx := sortE_perm.mem_iff.mp hx
    rcases List.mem_append.mp hx with hx | hx
    · exact S.fit x (List.mem_filter.mp hx).1
    · split at hx
      · cases hx
      · simp only [List.mem_singleton] at hx
        subst hx
        exact f
  · unfold look nextC
    rw [find_perm sortE_perm (((sortE_perm.map _).nodup_iff).mpr nd0)]
    have L := S.lk q
    unfold look at L
    unfold upd1
    by_cases ho : o = c.start
    · rw [if_pos ho, List.append_nil, find_filter]
      by_cases hq : q = p
      · rw [if_pos hq, if_pos hq, ho]; rfl
      · rw [if_neg hq, if_neg hq]; exact L
    · rw [if_neg ho, find_append, find_filter]
      by_cases hq : q = p
      · subst hq
        simp
      · rw [if_neg hq, if_neg hq, if_neg (fun e => hq e.symm)]
        rw [← L]
        cases find q cs <;> rfl
  · have hx := sortE_perm.mem_iff.mp hx
    rcases List.mem_append.mp hx with hx | hx
    · exact S.ns x (List.mem_filter.mp hx).1
    · split at hx
      · cases hx
      · rename_i hne
        simp only [List.mem_singleton] at hx
        subst hx
        exact hne
theorem Sem.empty {c : Cell} {cs : List Ent} {m : Pl → Own} (S : Sem c cs m) (h : ∀ p, m p = c.start) : cs = [] := by
  cases cs with
  | nil => rfl
  | cons x xs =>
    have l := S.lk x.1
    rw [h x.1] at l
    have f : look c (x :: xs) x.1 = x.2 := by simp [look, find]
    rw [f] at l
    exact absurd l (S.ns x List.mem_cons_self)
theorem v_neO {o o' : Own} : vcmp .ne (vOwn o) (vOwn o') = some (!decide (o = o')) := by
  cases o with
  | one i => cases o' with
    | one j => by_cases h : i = j <;> simp [vcmp, vOwn, vEq, eqOk, plain, plains, dep, deps, veq, veqs, h]
    | two j k => simp [vcmp, vOwn, vEq, eqOk, plain, plains, dep, deps, veq, veqs]
  | two i l => cases o' with
    | one j => simp [vcmp, vOwn, vEq, eqOk, plain, plains, dep, deps, veq, veqs]
    | two j k => by_cases h : i = j <;> by_cases h2 : l = k <;> simp [vcmp, vOwn, vEq, eqOk, plain, plains, dep, deps, veq, veqs, h, h2]
theorem comp_filter {cf : Nat → List Val → DSt → Out Val} {st : DSt} {a b c d f : Val} {p : Pl} {o : Option Val} {u : Option Val} : ∀ (cs : List Ent),
    compL (oneC cf (.cmp .ne (.idx (.var 7) (.cst (.int 0))) (.var 4)) (.var 7)) (.name 7) [some a, some b, some c, some d, some (vPl p), some f, o, u] (cs.map vEnt) st = .ok ((cs.filter fun x => !decide (x.1 = p)).map vEnt) st
  | [] => rfl
  | x :: cs => by
    have ih := comp_filter (cf := cf) (st := st) (a := a) (b := b) (c := c) (d := d) (f := f) (p := p) (o := o) (u := u) cs
    by_cases h : x.1 = p
    · simp only [sxm, List.map_cons, compL, oneC, vEnt, v_neP, h, List.filter_cons] at ih ⊢
      simp [ih]
    · simp only [sxm, List.map_cons, compL, oneC, vEnt, v_neP, h, List.filter_cons] at ih ⊢
      simp [ih, vEnt]
theorem step_spec {n size : Nat} {P : Pred} {hs : HSt} {cs : List Ent} {m : Pl → Own} {br w : Int} {st : DSt} (O : P.ok size) (hf : HFits size P.h hs) (S : Sem P.c cs m) (hl : cs.length < 1000) (b0 : 0 ≤ br) (b1 : br < size) :
    run tb (n + 3) n_stepped [vPred P, vSt hs cs, .int br, .int w] st = .ok (vSt (htold P.h hs br w) (nextC P.c cs (placeP P hs br) (P.c.told (m (placeP P hs br)) w))) st := by
  refine (run_b (f := n_stepped) rfl rfl).trans ?_
  have A := @place_spec n size P hs br st O hf b0 b1
  have B := @cell_at_spec n P hs cs (placeP P hs br) st
  rw [S.lk] at B
  have C := @cell_told_spec n P.c (m (placeP P hs br)) w st O.c (S.fits _)
  have D := @htold_spec n size P.h hs br w st O.h hf b0 b1 O.hi
  have E := @cell_start_spec (n + 1) P.c st
  have ff : Fits P.c (P.c.told (m (placeP P hs br)) w) := told_fits (S.fits _)
  generalize hp : placeP P hs br = p at *
  generalize ho : P.c.told (m p) w = o at *
  have F := fun u v => comp_filter (cf := run tb (n + 2)) (st := st) (a := vPred P) (b := vSt hs cs) (c := .int br) (d := .int w) (f := vOwn o) (p := p) (o := u) (u := v) cs
  simp only [vSt, vPred] at A B F
  have hfl : (cs.filter fun x => !decide (x.1 = p)).length ≤ cs.length := List.length_filter_le _ _
  have fl1 : ∀ x ∈ (cs.filter fun x => !decide (x.1 = p)), Fits P.c x.2 := fun x hx => S.fit x (List.mem_filter.mp hx).1
  by_cases h : o = P.c.start
  · have G := sort_ents fl1
    subst h
    simp only [sxm, c_stepped, vPred, vSt, A, B, C, D, E, F, v_neO, G, nextC]
  · have G := sort_ents (c := P.c) (l := (cs.filter fun x => !decide (x.1 = p)) ++ [(p, o)]) (fun x hx => by
      rcases List.mem_append.mp hx with hx | hx
      · exact fl1 x hx
      · simp only [List.mem_singleton] at hx
        subst hx
        exact ff)
    have hlim : ((cs.filter fun x => !decide (x.1 = p)).map vEnt).length < lim := by rw [List.length_map]; have : lim = 1000000 := rfl; omega
    rw [List.map_append] at G
    simp only [List.map_cons, List.map_nil, vEnt] at G
    simp only [sxm, c_stepped, vPred, vSt, A, B, C, D, E, F, v_neO, h, hlim, G, nextC]
end BG

/-! BG.M4: what the program's functions compute (rows). -/
namespace BG
theorem comp_pure {α : Type} {F : Env → DSt → Out (Option Val)} {t : Tg} {e : Env} {s : DSt} {g : α → Val} {o : α → Option Val} : ∀ (xs : List α), (∀ x ∈ xs, ∃ e', bindT t (g x) e = some e' ∧ F e' s = .ok (o x) s) → compL F t e (xs.map g) s = .ok (xs.filterMap o) s
  | [], _ => rfl
  | x :: xs, h => by
    obtain ⟨e', h1, h2⟩ := h x List.mem_cons_self
    have ih := comp_pure (F := F) (t := t) (e := e) (s := s) (g := g) (o := o) xs fun y hy => h y (List.mem_cons_of_mem _ hy)
    simp only [List.map_cons, compL, h1, h2, Out.bind_ok, ih, List.filterMap_cons]
    cases o x <;> rfl
theorem comp_map {α : Type} {F : Env → DSt → Out (Option Val)} {t : Tg} {e : Env} {s : DSt} {g : α → Val} {o : α → Val} (xs : List α) (h : ∀ x ∈ xs, ∃ e', bindT t (g x) e = some e' ∧ F e' s = .ok (some (o x)) s) : compL F t e (xs.map g) s = .ok (xs.map o) s := by
  rw [comp_pure (o := fun x => some (o x)) xs h]
  simp
theorem for_sim {α σ : Type} {R : σ → Env → Prop} {f : σ → α → σ} {body : Env → DSt → OutS} {t : Tg} {g : α → Val} {s : DSt} : ∀ (xs : List α) (_ : ∀ u x e, x ∈ xs → R u e → ∃ e' e'', bindT t (g x) e = some e' ∧ body e' s = .next e'' s ∧ R (f u x) e'') (u : σ) (e : Env), R u e → ∃ e'', forL t body (xs.map g) e s = .next e'' s ∧ R (xs.foldl f u) e''
  | [], _, u, e, r => ⟨e, rfl, r⟩
  | x :: xs, h, u, e, r => by
    obtain ⟨e', e'', h1, h2, h3⟩ := h u x e List.mem_cons_self r
    obtain ⟨e3, h4, h5⟩ := for_sim xs (fun u x e hx => h u x e (List.mem_cons_of_mem _ hx)) (f u x) e'' h3
    refine ⟨e3, ?_, h5⟩
    simp only [List.map_cons, forL, h1, h2]
    exact h4
/-! rows -/
abbrev Row := List (Int × Int)
def vWay (x : Int × Int) : Val := .tup [.int x.1, .int x.2]
def vRow (r : Row) : Val := .lst (r.map vWay)
def WayOk (size : Nat) (x : Int × Int) : Prop := (0 ≤ x.1 ∧ x.1 < size) ∧ (x.2 = 0 ∨ x.2 = 1)
structure RowOk (size : Nat) (r : Row) : Prop where
  len : r.length ≤ 400
  ways : ∀ x ∈ r, WayOk size x
theorem is_int_spec {n : Nat} {v lo hi : Int} {st : DSt} : run tb (n + 1) n_is_int [.int v, .int lo, .int hi] st = .ok (.bl (decide (lo ≤ v) && decide (v ≤ hi))) st := by
  refine (run_b (f := n_is_int) rfl rfl).trans ?_
  by_cases h : lo ≤ v <;> simp [x_var, x_cst, x_glb, x_bin, x_neg, x_not, x_and, x_or, x_cmp, x_chain, x_ite, x_tup, x_list, x_idx, x_slice, x_call, x_bi, x_isinst, x_meth, x_comp, x_range1, x_range2, x_dnew, x_dget, z_dg, z_dg2, z_dg3, y_dupd, z_du, z_du2, z_du3, xs_nil, xs_cons, xo_no, xo_some, xi_one, xi_enum, xi_zip, z_two, z_twoN, z_bin, z_cmp, z_idx, z_me, z_neg, z_not, z_selT, z_selF, z_andT, z_andF, z_orT, z_orF, z_chA, z_chB, z_chT, z_chF, z_mkT, z_mkL, z_slC, z_slB, z_slA, z_bi, z_is, z_mkS, z_ifT, z_ifF, z_comp, z_one, z_rg1, z_rg2, z_cons, z_cons2, z_opt, z_seqL, z_seqT, z_en, z_zi, y_nil, y_seq, y_asg, y_own, y_asgT, y_par, y_aug, y_ext, y_append, y_setI, y_expr, y_ite, y_for, y_while, y_ret, y_brk, y_cont, y_freeze, z_set, z_tg, z_par, z_aug, z_aug2, z_ext, z_ext2, z_app, z_app2, z_st1, z_st2, z_nx, z_sSelT, z_sSelF, z_for, z_ret, v_add, v_sub, v_eqI, v_neI, v_eqS, v_lt, v_le, v_gt, v_ge, v_iT0, v_iT1, v_iT2, v_iT3, v_iT4, v_iT5, v_iT6, v_iT7, v_iT8, v_iL0, v_iL1, v_iL2, v_iL3, v_iL4, v_iL5, v_iL6, v_iL7, v_iL8, v_len, v_lenT, v_min, v_max, v_tupL, v_all, v_any, v_sorted, t_int, t_intT, t_boolI, t_tup, t_list, t_str, setE, bindT, bindTs, nextIf_some, lift_some, Out.bind_ok, Out.thenS_ok, augI, slots, wipeE, c_is_int, h]
theorem is_int_ok {n : Nat} {v lo hi : Int} {st : DSt} (h1 : lo ≤ v) (h2 : v ≤ hi) : run tb (n + 1) n_is_int [.int v, .int lo, .int hi] st = .ok (.bl true) st := by
  rw [is_int_spec]; simp [h1, h2]
theorem is_row_spec {n size : Nat} {r : Row} {st : DSt} (h1 : 1 ≤ size) (h4 : size ≤ 4) (O : RowOk size r) : run tb (n + 2) n_is_row [vRow r, .int size] st = .ok (.bl true) st := by
  refine (run_b (f := n_is_row) rfl rfl).trans ?_
  have I0 := @is_int_ok n (size : Int) 1 4 st (by omega) (by omega)
  have hlen : ¬ (400 : Int) < ((r.map vWay).length : Nat) := by rw [List.length_map]; have := O.len; omega
  obtain ⟨e2, h2, ⟨x, h3⟩⟩ := for_sim (σ := Unit) (R := fun _ e => ∃ x, e = [some (vRow r), some (.int size), x]) (f := fun u _ => u) (body := exec (run tb (n + 1)) (.seq (.ite (.or (.not (.isinst (.var 2) .tTuple)) (.or (.cmp .ne (.bi .len (.cons (.var 2) .nil)) (.cst (.int 2))) (.or (.not (.call n_is_int (.cons (.idx (.var 2) (.cst (.int 0))) (.cons (.cst (.int 0)) (.cons (.bin .sub (.var 1) (.cst (.int 1))) .nil))))) (.not (.call n_is_int (.cons (.idx (.var 2) (.cst (.int 1))) (.cons (.cst (.int 0)) (.cons (.cst (.int 1)) .nil)))))))) (.seq (.ret (.cst (.bl false))) (.nil)) (.nil)) (.nil))) (t := .name 2) (g := vWay) (s := st) r (by
      rintro u ⟨a, b⟩ e hx ⟨y, rfl⟩
      obtain ⟨⟨w1, w2⟩, w3⟩ := O.ways _ hx
      simp only at w1 w2 w3
      have I1 := @is_int_ok n a 0 (size - 1) st (by omega) (by omega)
      have I2 := @is_int_ok n b 0 1 st (by omega) (by omega)
      refine ⟨[some (vRow r), some (.int size), some (vWay (a, b))], [some (vRow r), some (.int size), some (vWay (a, b))], rfl, ?_, _, rfl⟩
      simp only [sxm, vWay, I1, I2]
      simp [sxm, vWay, I1, I2]) () [some (vRow r), some (.int size), none] ⟨none, rfl⟩
  simp only [vRow] at h2
  simp only [sxm, c_is_row, vRow, I0, hlen, h2, h3]
theorem check_row_spec {n size : Nat} {r : Row} {st : DSt} (h1 : 1 ≤ size) (h4 : size ≤ 4) (O : RowOk size r) : run tb (n + 3) n_check_row [vRow r, .int size] st = .ok .non st := by
  refine (run_b (f := n_check_row) rfl rfl).trans ?_
  have A := @is_row_spec n size r st h1 h4 O
  simp only [sxm, c_check_row, A]
theorem check_size_spec {n size : Nat} {st : DSt} (h1 : 1 ≤ size) (h4 : size ≤ 4) : run tb (n + 3) n_check_size [.int size] st = .ok .non st := by
  refine (run_b (f := n_check_size) rfl rfl).trans ?_
  have A : run tb (n + 2) n_check_number [.int size, .int 1, .int 4] st = .ok .non st := by
    refine (run_b (f := n_check_number) rfl rfl).trans ?_
    have I0 := @is_int_ok n (size : Int) 1 4 st (by omega) (by omega)
    simp only [sxm, c_check_number, I0]
  simp only [sxm, c_check_size, A]
theorem is_cell_spec {n : Nat} {c : Cell} {st : DSt} (O : c.ok) : run tb (n + 2) n_is_cell [vCell c] st = .ok (.bl true) st := by
  refine (run_b (f := n_is_cell) rfl rfl).trans ?_
  cases c with
  | always w =>
    have I := @is_int_ok n w 0 1 st O.1 O.2
    simp only [sxm, c_is_cell, vCell, I]
    simp [sxm, I]
  | count k s =>
    have I := @is_int_ok n k 1 3 st O.1.1 O.1.2
    have T := @top_of_count n k s st O.1
    have J := @is_int_ok n s 0 (topI k - 1) st O.2.1 O.2.2
    simp only [vCell] at T
    simp only [sxm, c_is_cell, vCell, I, T, J]
    simp [sxm, I, T, J]
  | flip k s =>
    have I := @is_int_ok n k 1 3 st O.1.1 O.1.2
    have J := @is_int_ok n s 0 1 st O.2.1 O.2.2
    simp only [sxm, c_is_cell, vCell, I, J]
    simp [sxm, I, J]
  | runs k =>
    have I := @is_int_ok n k 1 3 st O.1 O.2
    simp only [sxm, c_is_cell, vCell, I]
    simp [sxm, I]
theorem v_inS {x a b c : List Nat} : vcmp .isIn (.str x) (.tup [.str a, .str b, .str c]) = some (decide (a = x) || decide (b = x) || decide (c = x)) := by
  by_cases h1 : a = x <;> by_cases h2 : b = x <;> by_cases h3 : c = x <;> simp [vcmp, vmemF, flatB, veq, h1, h2, h3]
theorem is_history_spec {n : Nat} {h : Hist} {st : DSt} (O : h.ok) : run tb (n + 2) n_is_history [vHist h] st = .ok (.bl true) st := by
  refine (run_b (f := n_is_history) rfl rfl).trans ?_
  cases h with
  | none => simp [sxm, c_is_history, vHist]
  | all b =>
    have I := @is_int_ok n b 1 2 st (by simp [Hist.ok] at O; omega) (by simp [Hist.ok] at O; omega)
    simp [sxm, c_is_history, vHist, I, v_inS]
  | own b =>
    have I := @is_int_ok n b 1 2 st (by simp [Hist.ok] at O; omega) (by simp [Hist.ok] at O; omega)
    simp [sxm, c_is_history, vHist, I, v_inS]
  | mixed b =>
    have I := @is_int_ok n b 1 2 st (by simp [Hist.ok] at O; omega) (by simp [Hist.ok] at O; omega)
    simp [sxm, c_is_history, vHist, I, v_inS]
theorem isBls_map {α : Type} (f : α → Bool) : ∀ (l : List α), isBls (l.map fun x => Val.bl (f x)) = some (l.map f)
  | [] => rfl
  | x :: l => by simp [isBls, isBls_map f l]
theorem is_numbers_spec {n size : Nat} {es : List Int} {st : DSt} (hl : es.length = size) (O : ∀ e ∈ es, 0 ≤ e ∧ e ≤ 3) : run tb (n + 2) n_is_numbers [.tup (es.map .int), .int size, .int 0, .int 3] st = .ok (.bl true) st := by
  refine (run_b (f := n_is_numbers) rfl rfl).trans ?_
  have C := comp_map (F := oneC (run tb (n + 1)) .no (.call n_is_int (.cons (.var 4) (.cons (.var 2) (.cons (.var 3) .nil))))) (t := .name 4) (e := [some (.tup (es.map .int)), some (.int size), some (.int 0), some (.int 3), none]) (s := st) (g := Val.int) (o := fun _ => Val.bl true) es (by
    intro x hx
    have I := @is_int_ok n x 0 3 st (O x hx).1 (O x hx).2
    refine ⟨_, rfl, ?_⟩
    simp only [sxm, I])
  have B := isBls_map (fun _ => true) es
  simp only [sxm, c_is_numbers, C, B, List.length_map, hl]
  simp
theorem check_pred_spec {n size : Nat} {P : Pred} {st : DSt} (O : P.ok size) : run tb (n + 4) n_check_predictor [vPred P, .int size] st = .ok .non st := by
  refine (run_b (f := n_check_predictor) rfl rfl).trans ?_
  have A : run tb (n + 3) n_is_predictor [vPred P, .int size] st = .ok (.bl true) st := by
    refine (run_b (f := n_is_predictor) rfl rfl).trans ?_
    have I0 := @is_int_ok (n + 1) (size : Int) 1 4 st (by have := O.lo; omega) (by have := O.hi; omega)
    have A := @is_cell_spec n P.c st O.c
    have B := @is_history_spec n P.h st O.h
    have C := @is_numbers_spec n size P.es st O.len O.es
    simp only [sxm, c_is_predictor, vPred, I0, A, B, C]
    simp [sxm, A, B, C]
  simp only [sxm, c_check_predictor, A]
theorem check_guessing_spec {n size : Nat} {P : Pred} {r : Row} {st : DSt} (O : P.ok size) (Or : RowOk size r) : run tb (n + 5) n_check_guessing [vPred P, vRow r, .int size] st = .ok .non st := by
  refine (run_b (f := n_check_guessing) rfl rfl).trans ?_
  have A := @check_size_spec (n + 1) size st O.lo O.hi
  have B := @check_pred_spec n size P st O
  have C := @check_row_spec (n + 1) size r st O.lo O.hi Or
  simp only [sxm, c_check_guessing, A, B, C]
/-! the machine -/
structure MS where
  hs : HSt
  m : Pl → Own
def mstart (P : Pred) : MS := ⟨hstart P.es.length P.h, fun _ => P.c.start⟩
def mstep (P : Pred) (S : MS) (x : Int × Int) : MS := ⟨htold P.h S.hs x.1 x.2, upd1 S.m (placeP P S.hs x.1) (P.c.told (S.m (placeP P S.hs x.1)) x.2)⟩
def mguess (P : Pred) (S : MS) (br : Int) : Int := P.c.guess (S.m (placeP P S.hs br))
def mrun (P : Pred) (S : MS) (r : Row) : MS := r.foldl (mstep P) S
def mguesses (P : Pred) : MS → Row → List Int
  | _, [] => []
  | S, x :: r => mguess P S x.1 :: mguesses P (mstep P S x) r
structure RS (P : Pred) (size k : Nat) (v : Val) (S : MS) : Prop where
  ex : ∃ cs, v = vSt S.hs cs ∧ HFits size P.h S.hs ∧ Sem P.c cs S.m ∧ cs.length ≤ k
theorem hstart_fits {size : Nat} {h : Hist} : HFits size h (hstart size h) := by
  cases h
  · rfl
  · exact ⟨by decide, room_pos⟩
  · refine ⟨by simp, fun n hn => ?_⟩
    rw [List.eq_of_mem_replicate hn]
    exact ⟨by decide, room_pos⟩
  · exact ⟨by decide, room_pos⟩
theorem htold_fits {size : Nat} {h : Hist} {hs : HSt} {br w : Int} (f : HFits size h hs) : HFits size h (htold h hs br w) := by
  cases h <;> cases hs <;> simp only [HFits] at f
  · exact f
  · exact newer_range
  · rename_i b l
    refine ⟨by simp [f.1], fun n hn => ?_⟩
    rcases List.mem_or_eq_of_mem_set hn with hn | hn
    · exact f.2 n hn
    · rw [hn]; exact newer_range
  · exact newer_range
theorem start_spec {n size : Nat} {P : Pred} {st : DSt} (O : P.ok size) : ∃ v, run tb (n + 2) n_start_state [vPred P] st = .ok v st ∧ RS P size 0 v (mstart P) := by
  have A := @hstart_spec n P.h P.es.length st (by have := O.len; have := O.lo; omega) (by have := O.len; have := O.hi; omega)
  refine ⟨vSt (hstart P.es.length P.h) [], (run_b (f := n_start_state) rfl rfl).trans ?_, ⟨[], rfl, by rw [← O.len]; exact hstart_fits, ⟨by simp, (fun x h => nomatch h), (fun p => rfl), fun x h => nomatch h⟩, Nat.le_refl _⟩⟩
  simp only [sxm, c_start_state, vPred, vSt, A, List.length_map]
theorem sortE_length {l : List Ent} : (sortE l).length = l.length := sortE_perm.length_eq
theorem nextC_length {c : Cell} {cs : List Ent} {p : Pl} {o : Own} : (nextC c cs p o).length ≤ cs.length + 1 := by
  unfold nextC
  rw [sortE_length, List.length_append]
  have := List.length_filter_le (fun x : Ent => !decide (x.1 = p)) cs
  split <;> simp <;> omega
theorem step_rs {n size k : Nat} {P : Pred} {S : MS} {v : Val} {x : Int × Int} {st : DSt} (O : P.ok size) (h : RS P size k v S) (hk : k < 999) (w : WayOk size x) : ∃ v', run tb (n + 3) n_stepped [vPred P, v, .int x.1, .int x.2] st = .ok v' st ∧ RS P size (k + 1) v' (mstep P S x) := by
  obtain ⟨cs, rfl, hf, hS, hl⟩ := h.ex
  refine ⟨_, step_spec O hf hS (by omega) w.1.1 w.1.2, ⟨_, rfl, htold_fits hf, nextC_sem hS (told_fits (hS.fits _)), ?_⟩⟩
  have := @nextC_length P.c cs (placeP P S.hs x.1) (P.c.told (S.m (placeP P S.hs x.1)) x.2)
  omega
theorem guess_rs {n size k : Nat} {P : Pred} {S : MS} {v : Val} {br : Int} {st : DSt} (O : P.ok size) (h : RS P size k v S) (b0 : 0 ≤ br) (b1 : br < size) : run tb (n + 3) n_guess_of [vPred P, v, .int br] st = .ok (.int (mguess P S br)) st := by
  obtain ⟨cs, rfl, hf, hS, hl⟩ := h.ex
  exact guess_spec O hf hS b0 b1
theorem foldl_count {α σ : Type} {f : σ → α → σ} : ∀ (l : List α) (u : σ) (k : Nat), l.foldl (fun (q : σ × Nat) x => (f q.1 x, q.2 + 1)) (u, k) = (l.foldl f u, k + l.length)
  | [], u, k => rfl
  | x :: l, u, k => by
    simp only [List.foldl_cons, foldl_count l, List.length_cons]
    congr 1
    omega
abbrev afterB : Sx := .seq (.asg 1 (.call n_stepped (.cons (.var 0) (.cons (.var 1) (.cons (.var 3) (.cons (.var 4) .nil)))))) (.nil)
theorem after_loop {n size : Nat} {P : Pred} {R : Val} {st : DSt} (O : P.ok size) : ∀ (r : Row) (k : Nat) (S : MS) (v : Val) (x y : Option Val), RS P size k v S → k + r.length < 999 → (∀ x ∈ r, WayOk size x) →
    ∃ v' x' y', forL (.tup (.cons (.name 3) (.cons (.name 4) .nil))) (exec (run tb (n + 3)) afterB) (r.map vWay) [some (vPred P), some v, some R, x, y] st = .next [some (vPred P), some v', some R, x', y'] st ∧ RS P size (k + r.length) v' (mrun P S r)
  | [], k, S, v, x, y, h, _, _ => ⟨v, x, y, rfl, h⟩
  | a :: r, k, S, v, x, y, h, hk, w => by
    simp only [List.length_cons] at hk
    obtain ⟨v1, h1, h2⟩ := step_rs (n := n) (st := st) O h (by omega) (w a List.mem_cons_self)
    obtain ⟨v2, x2, y2, h3, h4⟩ := after_loop O r (k + 1) (mstep P S a) v1 (some (.int a.1)) (some (.int a.2)) h2 (by omega) fun z hz => w z (List.mem_cons_of_mem _ hz)
    refine ⟨v2, x2, y2, ?_, by rw [show k + (a :: r).length = k + 1 + r.length by simp; omega]; exact h4⟩
    simp only [sxm, List.map_cons, forL, vWay, h1]
    exact h3
theorem after_spec {n size k : Nat} {P : Pred} {S : MS} {v : Val} {r : Row} {st : DSt} (O : P.ok size) (h : RS P size k v S) (hk : k + r.length < 999) (w : ∀ x ∈ r, WayOk size x) : ∃ v', run tb (n + 4) n_after_row [vPred P, v, vRow r] st = .ok v' st ∧ RS P size (k + r.length) v' (mrun P S r) := by
  obtain ⟨v', x, y, h1, h2⟩ := after_loop (n := n) (R := vRow r) (st := st) O r k S v none none h hk w
  refine ⟨v', (run_b (f := n_after_row) rfl rfl).trans ?_, h2⟩
  simp only [vRow] at h1
  simp only [sxm, c_after_row, vRow, h1]
abbrev guessB : Sx := .seq (.append 3 (.call n_guess_of (.cons (.var 0) (.cons (.var 2) (.cons (.var 4) .nil))))) (.seq (.asg 2 (.call n_stepped (.cons (.var 0) (.cons (.var 2) (.cons (.var 4) (.cons (.var 5) .nil)))))) (.nil))
theorem guesses_loop {n size : Nat} {P : Pred} {R : Val} {st : DSt} (O : P.ok size) : ∀ (r : Row) (k : Nat) (S : MS) (v : Val) (acc : List Int) (x y : Option Val), RS P size k v S → k + r.length < 999 → acc.length ≤ k → (∀ x ∈ r, WayOk size x) →
    ∃ v' x' y', forL (.tup (.cons (.name 4) (.cons (.name 5) .nil))) (exec (run tb (n + 3)) guessB) (r.map vWay) [some (vPred P), some R, some v, some (.lst (acc.map .int)), x, y] st = .next [some (vPred P), some R, some v', some (.lst ((acc ++ mguesses P S r).map .int)), x', y'] st
  | [], k, S, v, acc, x, y, h, _, _, _ => ⟨v, x, y, by simp [forL, mguesses]⟩
  | a :: r, k, S, v, acc, x, y, h, hk, ha, w => by
    simp only [List.length_cons] at hk
    have wa := w a List.mem_cons_self
    obtain ⟨v1, h1, h2⟩ := step_rs (n := n) (st := st) O h (by omega) wa
    have g1 := guess_rs (n := n) (st := st) O h wa.1.1 wa.1.2
    obtain ⟨v2, x2, y2, h3⟩ := guesses_loop O r (k + 1) (mstep P S a) v1 (acc ++ [mguess P S a.1]) (some (.int a.1)) (some (.int a.2)) h2 (by omega) (by simp; omega) fun z hz => w z (List.mem_cons_of_mem _ hz)
    refine ⟨v2, x2, y2, ?_⟩
    have hlim : (acc.map Val.int).length < lim := by rw [List.length_map]; have : lim = 1000000 := rfl; omega
    simp only [sxm, List.map_cons, forL, vWay, g1, h1, hlim]
    simp only [List.map_append, List.map_cons, List.map_nil, List.append_assoc, List.cons_append, List.nil_append, mguesses] at h3 ⊢
    exact h3
theorem guesses_of_spec {n size : Nat} {P : Pred} {r : Row} {st : DSt} (O : P.ok size) (Or : RowOk size r) : run tb (n + 4) n_guesses_of [vPred P, vRow r] st = .ok (.lst ((mguesses P (mstart P) r).map .int)) st := by
  obtain ⟨v, h1, h2⟩ := start_spec (n := n + 1) (st := st) O
  obtain ⟨v', x, y, h3⟩ := guesses_loop (n := n) (R := vRow r) (st := st) O r 0 (mstart P) v [] none none h2 (by have := Or.len; omega) (Nat.le_refl _) Or.ways
  refine (run_b (f := n_guesses_of) rfl rfl).trans ?_
  simp only [vRow, List.map_nil, List.nil_append] at h3
  simp only [sxm, c_guesses_of, vRow, h1, h3]
theorem guesses_spec {n size : Nat} {P : Pred} {r : Row} {st : DSt} (O : P.ok size) (Or : RowOk size r) : run tb (n + 6) n_guesses [vPred P, vRow r, .int size] st = .ok (.lst ((mguesses P (mstart P) r).map .int)) st := by
  refine (run_b (f := n_guesses) rfl rfl).trans ?_
  have A := @check_guessing_spec n size P r st O Or
  have B := @guesses_of_spec (n + 1) size P r st O Or
  simp only [sxm, c_guesses, A, B]
def mwrong (P : Pred) : MS → Row → Int
  | _, [] => 0
  | S, x :: r => (if mguess P S x.1 = x.2 then 0 else 1) + mwrong P (mstep P S x) r
theorem zip_loop {n size : Nat} {P : Pred} {A B : Val} {st : DSt} {cf : Nat → List Val → DSt → Out Val} : ∀ (r : Row) (S : MS), ∃ ys, compL (oneC cf (.cmp .ne (.var 2) (.idx (.var 3) (.cst (.int 1)))) (.var 2)) (.tup (.cons (.name 2) (.cons (.name 3) .nil))) [some A, some B, none, none] (zipV ((mguesses P S r).map .int) (r.map vWay)) st = .ok ys st ∧ (ys.length : Int) = mwrong P S r
  | [], S => ⟨[], rfl, rfl⟩
  | a :: r, S => by
    obtain ⟨ys, h1, h2⟩ := zip_loop (n := n) (size := size) (P := P) (A := A) (B := B) (st := st) (cf := cf) r (mstep P S a)
    by_cases h : mguess P S a.1 = a.2
    · refine ⟨ys, ?_, by simp [mwrong, h, h2]⟩
      simp only [sxm, zipV, mguesses, List.map_cons, List.zipWith_cons_cons, compL, oneC, vWay, h] at h1 ⊢
      rw [h1]
      rfl
    · refine ⟨.int (mguess P S a.1) :: ys, ?_, by simp only [mwrong, h, List.length_cons]; simp; omega⟩
      simp only [sxm, zipV, mguesses, List.map_cons, List.zipWith_cons_cons, compL, oneC, vWay, h] at h1 ⊢
      rw [h1]
      rfl
theorem wrong_spec {n size : Nat} {P : Pred} {r : Row} {st : DSt} (O : P.ok size) (Or : RowOk size r) : run tb (n + 6) n_wrong [vPred P, vRow r, .int size] st = .ok (.int (mwrong P (mstart P) r)) st := by
  refine (run_b (f := n_wrong) rfl rfl).trans ?_
  have A := @check_guessing_spec n size P r st O Or
  have B : run tb (n + 5) n_wrong_of [vPred P, vRow r] st = .ok (.int (mwrong P (mstart P) r)) st := by
    refine (run_b (f := n_wrong_of) rfl rfl).trans ?_
    have B := @guesses_of_spec n size P r st O Or
    obtain ⟨ys, h1, h2⟩ := zip_loop (n := n) (size := size) (P := P) (A := vPred P) (B := vRow r) (st := st) (cf := run tb (n + 4)) r (mstart P)
    simp only [vRow] at B h1
    simp only [sxm, c_wrong_of, vRow, B, h1, h2]
  simp only [sxm, c_wrong, A, B]
theorem next_spec {n size : Nat} {P : Pred} {r : Row} {st : DSt} (O : P.ok size) (Or : RowOk size r) : run tb (n + 6) n_next_guesses [vPred P, vRow r, .int size] st = .ok (.lst ((List.range size).map fun (b : Nat) => .int (mguess P (mrun P (mstart P) r) b))) st := by
  refine (run_b (f := n_next_guesses) rfl rfl).trans ?_
  have A := @check_guessing_spec n size P r st O Or
  obtain ⟨v, h1, h2⟩ := start_spec (n := n + 3) (st := st) O
  obtain ⟨v', h3, h4⟩ := after_spec (n := n + 1) (st := st) O h2 (r := r) (by have := Or.len; omega) Or.ways
  have C := comp_map (F := oneC (run tb (n + 5)) .no (.call n_guess_of (.cons (.var 0) (.cons (.var 3) (.cons (.var 4) .nil))))) (t := .name 4) (e := [some (vPred P), some (vRow r), some (.int size), some v', none]) (s := st) (g := fun (b : Nat) => Val.int (0 + (b : Int))) (o := fun (b : Nat) => .int (mguess P (mrun P (mstart P) r) b)) (List.range size) (by
    intro b hb
    have g1 := guess_rs (n := n + 2) (st := st) O h4 (br := b) (by omega) (by have := List.mem_range.mp hb; omega)
    refine ⟨_, rfl, ?_⟩
    simp only [sxm, Int.zero_add, g1])
  have hs : (size : Int) ≤ lim ∧ (-1000000 : Int) ≤ size := by have := O.hi; have : lim = 1000000 := rfl; omega
  simp only [sxm, c_next_guesses, A, h1, h3, hs, rangeL, Int.toNat_natCast, C]
theorem history_after_spec {n size : Nat} {P : Pred} {r : Row} {st : DSt} (O : P.ok size) (Or : RowOk size r) : run tb (n + 6) n_history_after [vPred P, vRow r, .int size] st = .ok (vHSt (mrun P (mstart P) r).hs) st := by
  refine (run_b (f := n_history_after) rfl rfl).trans ?_
  have A := @check_guessing_spec n size P r st O Or
  obtain ⟨v, h1, h2⟩ := start_spec (n := n + 3) (st := st) O
  obtain ⟨v', h3, h4⟩ := after_spec (n := n + 1) (st := st) O h2 (r := r) (by have := Or.len; omega) Or.ways
  obtain ⟨cs, rfl, _⟩ := h4.ex
  simp only [sxm, c_history_after, A, h1, h3, vSt]
end BG

/-! BG.M5: the law's draws; rows that are drawn. -/
namespace BG
/-- the draws' state, at most k draws were made -/
def DOk (k : Nat) (s : DSt) : Prop := ∃ ns c, s.dw = some (ns, c) ∧ 0 < ns.length ∧ 0 ≤ c ∧ c ≤ (k : Int)
theorem DOk.mono {k j : Nat} {s : DSt} (h : DOk k s) (hj : k ≤ j) : DOk j s := by
  obtain ⟨ns, c, e, h1, h2, h3⟩ := h
  exact ⟨ns, c, e, h1, h2, by omega⟩
theorem drawOf_range {cell c l : Int} (h : 0 < l) : 0 ≤ (drawOf cell c l).1 ∧ (drawOf cell c l).1 < l := by
  unfold drawOf
  split
  · exact ⟨Int.emod_nonneg _ (by omega), Int.emod_lt_of_pos _ h⟩
  · exact ⟨Int.emod_nonneg _ (by omega), Int.emod_lt_of_pos _ h⟩
theorem draw_spec {n k : Nat} {l : Int} {s : DSt} (h : DOk k s) (hk : k < 90000000) (l0 : 0 < l) (l1 : l < 1000000000) : ∃ i s', run tb (n + 1) n__law_draw [.drw, .int l] s = .ok (.int i) s' ∧ 0 ≤ i ∧ i < l ∧ DOk (k + 1) s' := by
  obtain ⟨ns, c, e, h1, h2, h3⟩ := h
  obtain ⟨dw, st⟩ := s
  simp only at e
  subst e
  rw [run_prim (f := n__law_draw) (p := pDraw) rfl]
  simp only [pDraw]
  rw [if_pos ⟨l0, l1, h2, by omega, h1⟩]
  exact ⟨_, _, rfl, (drawOf_range l0).1, (drawOf_range l0).2, _, _, rfl, by simpa using h1, by omega, by omega⟩
theorem start_draws {n : Nat} {ns : List Int} : ∃ s', run tb (n + 1) n__law_start [.scr ns] ⟨none, []⟩ = .ok .drw s' ∧ DOk 0 s' := by
  rw [run_prim (f := n__law_start) (p := pStart) rfl]
  refine ⟨_, rfl, _, _, rfl, ?_, by decide, by decide⟩
  split
  · decide
  · exact List.length_pos_iff.mpr (by assumption)
theorem comp_draw {α : Type} {F : Env → DSt → Out (Option Val)} {t : Tg} {e : Env} {g : α → Val} {Pr : Val → Prop} (j M : Nat) : ∀ (xs : List α) (k : Nat) (s : DSt), DOk k s → k + j * xs.length ≤ M →
    (∀ x ∈ xs, ∀ k s, DOk k s → k + j ≤ M → ∃ e' v s', bindT t (g x) e = some e' ∧ F e' s = .ok (some v) s' ∧ Pr v ∧ DOk (k + j) s') →
    ∃ vs s', compL F t e (xs.map g) s = .ok vs s' ∧ vs.length = xs.length ∧ (∀ v ∈ vs, Pr v) ∧ DOk (k + j * xs.length) s'
  | [], k, s, h, _, _ => ⟨[], s, rfl, rfl, (fun v hv => nomatch hv), by simpa using h⟩
  | x :: xs, k, s, h, hM, H => by
    simp only [List.length_cons, Nat.mul_add, Nat.mul_one] at hM
    obtain ⟨e', v, s1, h1, h2, h3, h4⟩ := H x List.mem_cons_self k s h (by omega)
    obtain ⟨vs, s2, h5, h6, h7, h8⟩ := comp_draw j M xs (k + j) s1 h4 (by omega) fun y hy => H y (List.mem_cons_of_mem _ hy)
    refine ⟨v :: vs, s2, ?_, by simp [h6], fun u hu => ?_, by simp only [List.length_cons, Nat.mul_add, Nat.mul_one]; rw [show k + (j * xs.length + j) = k + j + j * xs.length by omega]; exact h8⟩
    · simp only [List.map_cons, compL, h1, h2, Out.bind_ok, h5]
    · rcases List.mem_cons.mp hu with rfl | hu
      · exact h3
      · exact h7 u hu
theorem rows_of {size : Nat} : ∀ (vs : List Val), (∀ v ∈ vs, ∃ x, v = vWay x ∧ WayOk size x) → ∃ r : Row, vs = r.map vWay ∧ r.length = vs.length ∧ ∀ x ∈ r, WayOk size x
  | [], _ => ⟨[], rfl, rfl, fun x hx => nomatch hx⟩
  | v :: vs, h => by
    obtain ⟨x, rfl, hx⟩ := h v List.mem_cons_self
    obtain ⟨r, h1, h2, h3⟩ := rows_of vs fun u hu => h u (List.mem_cons_of_mem _ hu)
    exact ⟨x :: r, by simp [h1], by simp [h2], fun y hy => by
      rcases List.mem_cons.mp hy with rfl | hy
      · exact hx
      · exact h3 y hy⟩
theorem law_row_spec {n k size most : Nat} {s : DSt} (h : DOk k s) (hk : k < 80000000) (h1 : 1 ≤ size) (h4 : size ≤ 4) (hm : most ≤ 400) :
    ∃ r s', run tb (n + 2) n__law_row [.drw, .int size, .int most] s = .ok (vRow r) s' ∧ r.length ≤ most ∧ (∀ x ∈ r, WayOk size x) ∧ DOk (k + 2000) s' := by
  obtain ⟨long, s1, d1, l0, l1, k1⟩ := draw_spec (n := n) (l := (most : Int) + 1) h (by omega) (by omega) (by omega)
  obtain ⟨m, s2, d2, m0, m1, k2⟩ := draw_spec (n := n) (l := 6) k1 (by omega) (by decide) (by decide)
  have lm : (lim : Int) = 1000000 := by decide
  obtain ⟨vs, s3, d3, e3, p3, k3⟩ := comp_draw (F := oneC (run tb (n + 1)) .no (.tup (.cons (.call n__law_draw (.cons (.var 0) (.cons (.var 1) .nil))) (.cons (.call n__law_draw (.cons (.var 0) (.cons (.cst (.int 2)) .nil))) .nil)))) (t := .name 6) (e := [some .drw, some (.int size), some (.int most), some (.int long), none, none, none]) (g := fun (b : Nat) => Val.int (0 + (b : Int))) (Pr := fun v => ∃ x, v = vWay x ∧ WayOk size x) 2 90000000 (List.range (1 + m).toNat) (k + 1 + 1) s2 k2 (by rw [List.length_range]; omega) (by
    intro x _ k' s' h' hk'
    obtain ⟨a, s1, d1, a0, a1, k1⟩ := draw_spec (n := n) (l := (size : Int)) h' (by omega) (by omega) (by omega)
    obtain ⟨b, s2, d2, b0, b1, k2⟩ := draw_spec (n := n) (l := 2) k1 (by omega) (by decide) (by decide)
    refine ⟨_, vWay (a, b), s2, rfl, ?_, ⟨(a, b), rfl, ⟨a0, a1⟩, by simp only; omega⟩, k2⟩
    simp only [sxm, d1, d2, vWay])
  obtain ⟨some_, e4, e5, e6⟩ := rows_of vs p3
  subst e4
  obtain ⟨z, s4, d4, z0, z1, k4⟩ := draw_spec (n := n) (l := 2) k3 (by rw [List.length_range]; omega) (by decide) (by decide)
  have hr : (1 + m) ≤ lim ∧ (-1000000 : Int) ≤ 1 + m := by omega
  have hr2 : long ≤ lim ∧ (-1000000 : Int) ≤ long := by omega
  have hlen : (k + 1 + 1 + 2 * (List.range (1 + m).toNat).length) ≤ k + 20 := by rw [List.length_range]; omega
  by_cases hz : z = 0
  · subst hz
    have hs : 0 < some_.length := by rw [e5, e3, List.length_range]; omega
    let o : Nat → Int × Int := fun b => some_.getD (b % some_.length) (0, 0)
    have om : ∀ b, o b ∈ some_ := fun b => by
      have hb : b % some_.length < some_.length := Nat.mod_lt _ hs
      simp only [o]
      rw [List.getD_eq_getElem?_getD, List.getElem?_eq_getElem hb]
      exact List.getElem_mem hb
    have C := comp_map (F := oneC (run tb (n + 1)) .no (.idx (.var 4) (.bin .mod (.var 6) (.bi .len (.cons (.var 4) .nil))))) (t := .name 6) (e := [some .drw, some (.int size), some (.int most), some (.int long), some (.lst (some_.map vWay)), none, none]) (s := s4) (g := fun (b : Nat) => Val.int (0 + (b : Int))) (o := fun b => vWay (o b)) (List.range long.toNat) (by
      intro b _
      refine ⟨_, rfl, ?_⟩
      have hb : b % some_.length < some_.length := Nat.mod_lt _ hs
      have mm : vbin .mod (.int (b : Int)) (.int ((some_.map vWay).length : Nat)) = some (.int ((b % some_.length : Nat) : Int)) := by
        rw [v_mod (by rw [List.length_map]; omega), List.length_map]
        simp
      have V : vidx (.lst (some_.map vWay)) (.int ((b % some_.length : Nat) : Int)) = some (vWay (o b)) := by
        rw [v_idL, p_nat (by rw [List.length_map]; exact hb)]
        simp only [Option.bind_some, List.getElem?_map, List.getElem?_eq_getElem hb, Option.map_some, o, List.getD_eq_getElem?_getD, Option.getD_some]
      simp only [sxm, Int.zero_add, mm, V])
    refine ⟨(List.range long.toNat).map o, s4, (run_b (f := n__law_row) rfl rfl).trans ?_, by rw [List.length_map, List.length_range]; omega, fun x hx => ?_, k4.mono (by omega)⟩
    · simp only [sxm, c__law_row, d1, d2, d3, d4, hr, hr2, rangeL, C, vRow, List.map_map]
      rfl
    · obtain ⟨b, _, rfl⟩ := List.mem_map.mp hx
      exact e6 _ (om b)
  · obtain ⟨bi, s5, d5, b0, b1, k5⟩ := draw_spec (n := n) (l := 5) k4 (by omega) (by decide) (by decide)
    obtain ⟨ws, s6, d6, e7, p7, k7⟩ := comp_draw (F := oneC (run tb (n + 1)) .no (.tup (.cons (.call n__law_draw (.cons (.var 0) (.cons (.var 1) .nil))) (.cons (.ite (.cmp .gt (.call n__law_draw (.cons (.var 0) (.cons (.bin .add (.var 5) (.cst (.int 1))) .nil))) (.cst (.int 0))) (.cst (.int 1)) (.cst (.int 0))) .nil)))) (t := .name 6) (e := [some .drw, some (.int size), some (.int most), some (.int long), some (.lst (some_.map vWay)), some (.int (1 + bi)), none]) (g := fun (b : Nat) => Val.int (0 + (b : Int))) (Pr := fun v => ∃ x, v = vWay x ∧ WayOk size x) 2 90000000 (List.range long.toNat) _ s5 k5 (by simp only [List.length_range]; omega) (by
      intro x _ k' s' h' hk'
      obtain ⟨a, s1, d1, a0, a1, k1⟩ := draw_spec (n := n) (l := (size : Int)) h' (by omega) (by omega) (by omega)
      obtain ⟨b, s2, d2, b0, b1, k2⟩ := draw_spec (n := n) (l := 1 + bi + 1) k1 (by omega) (by omega) (by omega)
      by_cases hb : 0 < b
      · refine ⟨_, vWay (a, 1), s2, rfl, ?_, ⟨(a, 1), rfl, ⟨a0, a1⟩, .inr rfl⟩, k2⟩
        simp only [sxm, d1, d2, vWay, hb]
      · refine ⟨_, vWay (a, 0), s2, rfl, ?_, ⟨(a, 0), rfl, ⟨a0, a1⟩, .inl rfl⟩, k2⟩
        simp only [sxm, d1, d2, vWay, hb])
    obtain ⟨r, e8, e9, e10⟩ := rows_of ws p7
    subst e8
    refine ⟨r, s6, (run_b (f := n__law_row) rfl rfl).trans ?_, by rw [e9, e7, List.length_range]; omega, e10, k7.mono (by simp only [List.length_range]; omega)⟩
    simp only [sxm, c__law_row, d1, d2, d3, d4, hr, hr2, rangeL, hz, d5, d6, vRow]
end BG

/-! BG.M54: tools for laws that are evaluated in the kernel from their draws on. -/
namespace BG
def nosp (f : Nat) (xs : List Val) (s : DSt) : Option (Out Val) := none
theorem nosp_ok {d : Nat} : ∀ m f xs s r, nosp f xs s = some r → run tb (m + d) f xs s = r := fun _ _ _ _ _ h => nomatch h
/-- the truth that a block returns -/
def retB : OutS → Option Bool
  | .ret (.bl b) _ => some b
  | _ => none
theorem retB_exec {sp : Nat → List Val → DSt → Option (Out Val)} {d n : Nat} (hs : ∀ m f xs s r, sp f xs s = some r → run tb (m + d) f xs s = r) {c : Sx} {e : Env} {s : DSt} {b : Bool} (h : retB (exec (runS sp n) c e s) = some b) : ∃ s', exec (run tb (n + d)) c e s = .ret (.bl b) s' := by
  generalize ex : exec (runS sp n) c e s = o at h
  cases o with
  | ret v s' =>
    cases v with
    | bl b' =>
      simp only [retB, Option.some.injEq] at h
      subst h
      exact ⟨s', runS_exec hs ex (fun h => nomatch h)⟩
    | _ => simp [retB] at h
  | _ => simp [retB] at h
/-! ### the same data -/
mutual
def vsame : Val → Val → Bool
  | .non, .non => true
  | .bl a, .bl b => a == b
  | .int i, .int j => i == j
  | .str x, .str y => x == y
  | .tup xs, .tup ys => vsames xs ys
  | .lst xs, .lst ys => vsames xs ys
  | _, _ => false
def vsames : List Val → List Val → Bool
  | [], [] => true
  | x :: xs, y :: ys => vsame x y && vsames xs ys
  | _, _ => false
end
mutual
theorem vsame_eq : ∀ (a b : Val), vsame a b = true → a = b
  | .non, b, h => by cases b <;> simp [vsame] at h; rfl
  | .bl a, b, h => by cases b <;> simp [vsame] at h; rw [h]
  | .int a, b, h => by cases b <;> simp [vsame] at h; rw [h]
  | .str a, b, h => by cases b <;> simp [vsame] at h; rw [h]
  | .tup xs, b, h => by
    cases b with
    | tup ys => simp only [vsame] at h; rw [vsames_eq xs ys h]
    | _ => simp [vsame] at h
  | .lst xs, b, h => by
    cases b with
    | lst ys => simp only [vsame] at h; rw [vsames_eq xs ys h]
    | _ => simp [vsame] at h
  | .drw, b, h => by cases b <;> simp [vsame] at h
  | .scr _, b, h => by cases b <;> simp [vsame] at h
  | .dct _ _, b, h => by cases b <;> simp [vsame] at h
  | .dcn _ _, b, h => by cases b <;> simp [vsame] at h
  | .ref _, b, h => by cases b <;> simp [vsame] at h
  | .exc _, b, h => by cases b <;> simp [vsame] at h
theorem vsames_eq : ∀ (a b : List Val), vsames a b = true → a = b
  | [], b, h => by cases b <;> simp [vsames] at h; rfl
  | x :: xs, b, h => by
    cases b with
    | nil => simp [vsames] at h
    | cons y ys =>
      simp only [vsames, Bool.and_eq_true] at h
      rw [vsame_eq x y h.1, vsames_eq xs ys h.2]
end
/-! ### answers by a table of facts -/
abbrev Fact := Nat × List Val × (DSt → Option (Out Val))
def spT : List Fact → Nat → List Val → DSt → Option (Out Val)
  | [], _, _, _ => none
  | t :: T, f, xs, s => if t.1 = f then (if vsames t.2.1 xs then (match t.2.2 s with
    | some r => some r
    | none => spT T f xs s) else spT T f xs s) else spT T f xs s
theorem spT_ok {d : Nat} : ∀ (T : List Fact), (∀ t ∈ T, ∀ m s r, t.2.2 s = some r → run tb (m + d) t.1 t.2.1 s = r) → ∀ m f xs s r, spT T f xs s = some r → run tb (m + d) f xs s = r
  | [], _, _, _, _, _, _, h => nomatch h
  | t :: T, H, m, f, xs, s, r, h => by
    unfold spT at h
    split at h
    · rename_i hf
      split at h
      · rename_i hx
        split at h
        · rename_i r' hr
          cases h
          rw [← hf, ← vsames_eq _ _ hx]
          exact H t List.mem_cons_self m s _ hr
        · exact spT_ok T (fun t ht => H t (List.mem_cons_of_mem _ ht)) m f xs s r h
      · exact spT_ok T (fun t ht => H t (List.mem_cons_of_mem _ ht)) m f xs s r h
    · exact spT_ok T (fun t ht => H t (List.mem_cons_of_mem _ ht)) m f xs s r h
/-- an answer where no cell stands -/
def atE (r : Option (List Int × Int) → Out Val) : DSt → Option (Out Val)
  | ⟨dw, []⟩ => some (r dw)
  | _ => none
theorem atE_ok {r : Option (List Int × Int) → Out Val} {s : DSt} {o : Out Val} (h : atE r s = some o) : ∃ dw, s = ⟨dw, []⟩ ∧ o = r dw := by
  obtain ⟨dw, st⟩ := s
  cases st with
  | nil => exact ⟨dw, rfl, (Option.some.inj h).symm⟩
  | cons x l => cases h
theorem nosp_run {n m f : Nat} {xs : List Val} {s : DSt} {o : Out Val} (q : runS nosp n f xs s = o) (hb : o ≠ .bad) : run tb (m + n) f xs s = o := by
  rw [Nat.add_comm]
  exact runS_run (d := m) nosp_ok q hb
/-! ### a truth, and whatever state -/
def outS : Out Val → DSt
  | .ok _ s => s
  | .exc _ s => s
  | .bad => ⟨none, []⟩
def okB : Out Val → Option Bool
  | .ok (.bl b) _ => some b
  | _ => none
theorem okB_out {o : Out Val} {b : Bool} (h : okB o = some b) : o = .ok (.bl b) (outS o) := by
  cases o with
  | ok v s => cases v <;> simp [okB] at h; subst h; rfl
  | exc c s => simp [okB] at h
  | bad => simp [okB] at h
/-! ### draws that leave no cell -/
def DOkE (k : Nat) (s : DSt) : Prop := DOk k s ∧ s.st = []
theorem draw_specE {n k : Nat} {l : Int} {s : DSt} (h : DOkE k s) (hk : k < 90000000) (l0 : 0 < l) (l1 : l < 1000000000) : ∃ i s', run tb (n + 1) n__law_draw [.drw, .int l] s = .ok (.int i) s' ∧ 0 ≤ i ∧ i < l ∧ DOkE (k + 1) s' := by
  obtain ⟨⟨ns, c, e, h1, h2, h3⟩, hs⟩ := h
  obtain ⟨dw, st⟩ := s
  simp only at e hs
  subst e hs
  rw [run_prim (f := n__law_draw) (p := pDraw) rfl]
  simp only [pDraw]
  rw [if_pos ⟨l0, l1, h2, by omega, h1⟩]
  exact ⟨_, _, rfl, (drawOf_range l0).1, (drawOf_range l0).2, ⟨_, _, rfl, by simpa using h1, by omega, by omega⟩, rfl⟩
theorem start_drawsE {n : Nat} {ns : List Int} : ∃ s', run tb (n + 1) n__law_start [.scr ns] ⟨none, []⟩ = .ok .drw s' ∧ DOkE 0 s' := by
  rw [run_prim (f := n__law_start) (p := pStart) rfl]
  refine ⟨_, rfl, ⟨_, _, rfl, ?_, by decide, by decide⟩, rfl⟩
  split
  · decide
  · exact List.length_pos_iff.mpr (by assumption)
end BG

/-! BG.K31K: law k31, evaluated in the kernel. -/
namespace BG
def a_k31l : List Val := []
def t_k31l : Fact := (n__law_layouts_k31, a_k31l, fun s => some (.ok (.bl true) s))
theorem k_k31l : ∀ s : DSt, runS nosp 14 n__law_layouts_k31 a_k31l s = .ok (.bl true) s := fun s => by kernel_rfl
theorem p_k31l (k m : Nat) (s : DSt) (r : Out Val) (h : (t_k31l).2.2 s = some r) : run tb (m + (k + 14)) n__law_layouts_k31 a_k31l s = r := by
  cases h
  rw [show m + (k + 14) = 14 + (m + k + 0) by omega]
  exact runS_run (fun m' f xs s r h => by rw [show m' + (m + k + 0) = (m' + m + k) + 0 by omega]; exact nosp_ok _ f xs s r h) (k_k31l s) (fun h => nomatch h)
def a_k31s : List Val := []
def t_k31s : Fact := (n__law_sizes, a_k31s, fun s => some (.ok (.bl true) s))
theorem k_k31s : ∀ s : DSt, runS (spT [t_k31l]) 14 n__law_sizes a_k31s s = .ok (.bl true) s := fun s => by kernel_rfl
theorem p_k31s (k m : Nat) (s : DSt) (r : Out Val) (h : (t_k31s).2.2 s = some r) : run tb (m + (k + 28)) n__law_sizes a_k31s s = r := by
  cases h
  rw [show m + (k + 28) = 14 + (m + k + 14) by omega]
  exact runS_run (fun m' f xs s r h => by rw [show m' + (m + k + 14) = (m' + m + k) + 14 by omega]; exact (spT_ok (d := 14) [t_k31l] (List.forall_mem_cons.2 ⟨p_k31l 0, fun _ h => nomatch h⟩)) _ f xs s r h) (k_k31s s) (fun h => nomatch h)
def sA31 : Sx := (.seq (.asg 2 (.list (.cons (.cst .non) (.cons (.cst (.int 5)) (.cons (.tup .nil) (.cons (.list .nil) (.cons (.list (.cons (.tup .nil) .nil)) (.cons (.list (.cons (.tup (.cons (.cst (.str [97, 110, 121])) (.cons (.cst (.int 0)) .nil))) .nil)) (.cons (.list (.cons (.tup (.cons (.cst (.str [97, 110, 121])) (.cons (.cst (.int 2)) (.cons (.list .nil) .nil)))) .nil)) (.cons (.list (.cons (.tup (.cons (.cst (.str [97, 110, 121])) (.cons (.cst (.bl true)) (.cons (.list .nil) .nil)))) .nil)) (.cons (.list (.cons (.tup (.cons (.cst (.str [97, 110, 121])) (.cons (.cst (.int 0)) (.cons (.cst .non) .nil)))) .nil)) (.cons (.list (.cons (.tup (.cons (.cst (.str [97, 110, 121])) (.cons (.cst (.int 0)) (.cons (.list .nil) (.cons (.list .nil) .nil))))) .nil)) (.cons (.list (.cons (.list (.cons (.cst (.str [97, 110, 121])) (.cons (.cst (.int 0)) (.cons (.list .nil) .nil)))) .nil)) .nil))))))))))))) (.seq (.asg 2 (.bin .add (.var 2) (.list (.cons (.list (.cons (.tup (.cons (.cst (.str [108, 111, 111, 112])) (.cons (.cst (.int 0)) (.cons (.cst (.int 0)) (.cons (.list .nil) .nil))))) .nil)) (.cons (.list (.cons (.tup (.cons (.cst (.str [108, 111, 111, 112])) (.cons (.cst (.int 0)) (.cons (.cst (.int 10)) (.cons (.list .nil) .nil))))) .nil)) (.cons (.list (.cons (.tup (.cons (.cst (.str [108, 111, 111, 112])) (.cons (.cst (.int 0)) (.cons (.list .nil) .nil)))) .nil)) (.cons (.list (.cons (.tup (.cons (.cst (.str [108, 111, 111, 112])) (.cons (.cst (.int 0)) (.cons (.cst (.bl true)) (.cons (.list .nil) .nil))))) .nil)) (.cons (.list (.cons (.tup (.cons (.cst (.str [116, 101, 115, 116])) (.cons (.cst (.int 0)) (.cons (.tup .nil) (.cons (.list .nil) .nil))))) .nil)) .nil)))))))) (.seq (.asg 2 (.bin .add (.var 2) (.list (.cons (.list (.cons (.tup (.cons (.cst (.str [116, 101, 115, 116])) (.cons (.cst (.int 0)) (.cons (.tup (.cons (.cst (.int 2)) .nil)) (.cons (.list .nil) .nil))))) .nil)) (.cons (.list (.cons (.tup (.cons (.cst (.str [116, 101, 115, 116])) (.cons (.cst (.int 0)) (.cons (.list (.cons (.cst (.int 1)) .nil)) (.cons (.list .nil) .nil))))) .nil)) (.cons (.list (.cons (.tup (.cons (.cst (.str [116, 101, 115, 116])) (.cons (.cst (.int 0)) (.cons (.bin .mul (.tup (.cons (.cst (.int 1)) .nil)) (.cst (.int 7))) (.cons (.list .nil) .nil))))) .nil)) (.cons (.list (.cons (.tup (.cons (.cst (.str [116, 101, 115, 116])) (.cons (.cst (.int 0)) (.cons (.tup (.cons (.cst (.bl true)) .nil)) (.cons (.list .nil) .nil))))) .nil)) (.cons (.list (.cons (.tup (.cons (.cst (.str [103, 111])) (.cons (.cst (.int 0)) (.cons (.cst (.int 1)) (.cons (.list .nil) .nil))))) .nil)) .nil)))))))) (.seq (.asg 2 (.bin .add (.var 2) (.list (.cons (.bin .mul (.list (.cons (.tup (.cons (.cst (.str [97, 110, 121])) (.cons (.cst (.int 0)) (.cons (.list .nil) .nil)))) .nil)) (.cst (.int 6))) (.cons (.list (.cons (.tup (.cons (.cst (.str [97, 110, 121])) (.cons (.cst (.int 0)) (.cons (.list (.cons (.tup (.cons (.cst (.str [97, 110, 121])) (.cons (.cst (.int 0)) (.cons (.list (.cons (.tup (.cons (.cst (.str [97, 110, 121])) (.cons (.cst (.int 0)) (.cons (.list (.cons (.tup (.cons (.cst (.str [97, 110, 121])) (.cons (.cst (.int 0)) (.cons (.list .nil) .nil)))) .nil)) .nil)))) .nil)) .nil)))) .nil)) .nil)))) .nil)) (.cons (.list (.cons (.tup (.cons (.cst (.str [97, 110, 121])) (.cons (.cst (.int 0)) (.cons (.list (.cons (.tup (.cons (.cst (.str [97, 110, 121])) (.cons (.cst (.int 2)) (.cons (.list .nil) .nil)))) .nil)) .nil)))) .nil)) (.cons (.tup (.cons (.tup (.cons (.cst (.str [97, 110, 121])) (.cons (.cst (.int 0)) (.cons (.list .nil) .nil)))) .nil)) .nil))))))) (.seq (.forS (.name 3) (.cons (.var 2) .nil) (.seq (.ite (.or (.cmp .notN (.call n_is_program (.cons (.var 3) (.cons (.cst (.int 2)) .nil))) (.cst (.bl false))) (.cmp .ne (.comp (.name 6) (.cons (.range1 (.cst (.int 6))) .nil) .no (.call n__law_asked_k31 (.cons (.cst (.int 1)) (.cons (.var 6) (.cons (.var 3) (.cons (.cst (.int 0)) (.cons (.cst (.int 0)) (.cons (.cst (.int 2)) .nil)))))))) (.bin .mul (.list (.cons (.cst (.str [112, 114, 111, 103, 114, 97, 109])) .nil)) (.cst (.int 6))))) (.seq (.ret (.cst (.bl false))) (.nil)) (.nil)) (.nil))) .nil)))))
def sB31 : Sx := (.seq (.asg 5 (.comp (.name 6) (.cons (.range1 (.cst (.int 6))) .nil) .no (.call n__law_asked_k31 (.cons (.cst (.int 1)) (.cons (.var 6) (.cons (.var 4) (.cons (.cst (.int 0)) (.cons (.cst (.int 0)) (.cons (.cst (.int 2)) .nil))))))))) (.seq (.ite (.or (.cmp .notN (.call n_is_program (.cons (.var 4) (.cons (.cst (.int 2)) .nil))) (.cst (.bl true))) (.cmp .ne (.bin .add (.slice (.var 5) .no (.cons (.cst (.int 1)) .nil)) (.slice (.var 5) (.cons (.cst (.int 2)) .nil) .no)) (.list (.cons (.cst (.str [110, 111, 110, 101])) (.cons (.cst (.str [100, 111, 110, 101])) (.cons (.cst (.str [100, 111, 110, 101])) (.cons (.cst (.str [112, 114, 111, 103, 114, 97, 109])) (.cons (.cst (.str [100, 111, 110, 101])) .nil)))))))) (.seq (.ret (.cst (.bl false))) (.nil)) (.nil)) (.seq (.ite (.cmp .ne (.idx (.var 5) (.cst (.int 1))) (.ite (.cmp .le (.bin .mul (.bin .mul (.idx (.idx (.var 4) (.cst (.int 1))) (.cst (.int 2))) (.cst (.int 3))) (.cst (.int 6))) (.cst (.int 60))) (.cst (.str [100, 111, 110, 101])) (.idx (.var 5) (.cst (.int 1))))) (.seq (.ret (.cst (.bl false))) (.nil)) (.nil)) (.seq (.ret (.call n__law_sizes .nil)) .nil))))
def good31 (d : Int) : Val := .lst [.tup [.str [116, 101, 115, 116], .int 1, .tup [.int 1, .int 0, .int 1, .int 0, .int 1, .int 1], .lst []], .tup [.str [108, 111, 111, 112], .int 0, .int d, .lst [.tup [.str [97, 110, 121], .int 0, .lst [.tup [.str [97, 110, 121], .int 1, .lst []]]]]]]
theorem sp31_ok : ∀ m f xs s r, (spT [t_k31s]) f xs s = some r → run tb (m + 28) f xs s = r := (spT_ok (d := 28) [t_k31s] (List.forall_mem_cons.2 ⟨p_k31s 0, fun _ h => nomatch h⟩))
def pk31 : OutS → Option (Option Val × Option Val × Option Val × Option Val × DSt)
  | .next [a, b, _, _, c, d, _] s => some (a, b, c, d, s)
  | _ => none
theorem pk31_eq {o : OutS} {a b c d : Option Val} {s : DSt} (h : pk31 o = some (a, b, c, d, s)) : ∃ x2 x3 x6, o = .next [a, b, x2, x3, c, d, x6] s := by
  unfold pk31 at h
  split at h
  · cases h; exact ⟨_, _, _, rfl⟩
  · cases h
theorem k31_a : ∀ (s : DSt) (x0 : Option Val), pk31 (exec (runS nosp 14) sA31 [x0, some .drw, none, none, none, none, none] s) = some (x0, some .drw, none, none, s) := fun s x0 => by kernel_rfl
def ck31 (d : Int) : Prop := ∀ (s : DSt) (x0 x2 x3 x6 : Option Val), retB (exec (runS (spT [t_k31s]) 14) sB31 [x0, some .drw, x2, x3, some (good31 d), none, x6] s) = some true
theorem k31_0 : ck31 1 := fun s x0 x2 x3 x6 => by kernel_rfl
theorem k31_1 : ck31 2 := fun s x0 x2 x3 x6 => by kernel_rfl
theorem k31_2 : ck31 3 := fun s x0 x2 x3 x6 => by kernel_rfl
theorem k31_3 : ck31 4 := fun s x0 x2 x3 x6 => by kernel_rfl
theorem k31_4 : ck31 5 := fun s x0 x2 x3 x6 => by kernel_rfl
theorem k31_5 : ck31 6 := fun s x0 x2 x3 x6 => by kernel_rfl
theorem k31_6 : ck31 7 := fun s x0 x2 x3 x6 => by kernel_rfl
theorem k31_7 : ck31 8 := fun s x0 x2 x3 x6 => by kernel_rfl
theorem k31_8 : ck31 9 := fun s x0 x2 x3 x6 => by kernel_rfl
theorem k31_all {d : Int} (d0 : 0 ≤ d) (d1 : d < 9) : ck31 (1 + d) := by
  have h : d = 0 ∨ d = 1 ∨ d = 2 ∨ d = 3 ∨ d = 4 ∨ d = 5 ∨ d = 6 ∨ d = 7 ∨ d = 8 := by omega
  rcases h with rfl | rfl | rfl | rfl | rfl | rfl | rfl | rfl | rfl
  · exact k31_0
  · exact k31_1
  · exact k31_2
  · exact k31_3
  · exact k31_4
  · exact k31_5
  · exact k31_6
  · exact k31_7
  · exact k31_8
end BG

/-! BG.K31M: law k31, the plain part (c_law_k31). -/
namespace BG
theorem k31_math (ns : List Int) : ∃ s', run tb 43 n_law_k31 [.scr ns] ⟨none, []⟩ = .ok (.bl true) s' := by
  obtain ⟨s0, d0, k0⟩ := start_drawsE (n := 41) (ns := ns)
  obtain ⟨i, s1, d1, i0, i1, k1⟩ := draw_specE (n := 41) (l := 9) k0 (by decide) (by decide) (by decide)
  obtain ⟨x2, x3, x6, A0⟩ := pk31_eq (k31_a s0 (some (.scr ns)))
  have A := runS_exec (d := 28) nosp_ok A0 (fun h => nomatch h)
  obtain ⟨s', Bq⟩ := retB_exec (d := 28) sp31_ok (k31_all i0 i1 s1 (some (.scr ns)) x2 x3 x6)
  refine ⟨s', (run_b (f := n_law_k31) rfl rfl).trans ?_⟩
  show endV (exec (run tb 42) c_law_k31 [some (.scr ns), none, none, none, none, none, none] ⟨none, []⟩) = _
  rw [show c_law_k31 = .seq (.asg 1 (.call n__law_start (.cons (.var 0) .nil))) (cat sA31 (.seq (.asg 4 (.list (.cons (.tup (.cons (.cst (.str [116, 101, 115, 116])) (.cons (.cst (.int 1)) (.cons (.tup (.cons (.cst (.int 1)) (.cons (.cst (.int 0)) (.cons (.cst (.int 1)) (.cons (.cst (.int 0)) (.cons (.cst (.int 1)) (.cons (.cst (.int 1)) .nil))))))) (.cons (.list .nil) .nil))))) (.cons (.tup (.cons (.cst (.str [108, 111, 111, 112])) (.cons (.cst (.int 0)) (.cons (.bin .add (.cst (.int 1)) (.call n__law_draw (.cons (.var 1) (.cons (.cst (.int 9)) .nil)))) (.cons (.list (.cons (.tup (.cons (.cst (.str [97, 110, 121])) (.cons (.cst (.int 0)) (.cons (.list (.cons (.tup (.cons (.cst (.str [97, 110, 121])) (.cons (.cst (.int 1)) (.cons (.list .nil) .nil)))) .nil)) .nil)))) .nil)) .nil))))) .nil)))) sB31)) from rfl]
  simp only [x_var, x_cst, x_call, x_tup, x_list, x_bin, xs_cons, xs_nil, z_cons, z_cons2, z_set, z_mkT, z_mkL, z_bin, z_two, vbin, lift_some, Out.bind_ok, Out.thenS_ok, y_nil, y_seq, y_asg, setE, nextIf_some, Out.noexc_ok, List.map_cons, List.map_nil, List.nil_append, List.cons_append, List.append_nil, List.replicate_zero, List.replicate_succ, List.getElem?_cons_zero, List.getElem?_cons_succ, List.length_cons, List.length_nil, getV_some, then_next, then_ret, then_brk, then_cont, endV_ret, endV_next, List.set_cons_zero, List.set_cons_succ, Option.map_some, Option.bind_some, decide_true, decide_false, Bool.not_true, Bool.not_false, if_true, if_false, Nat.sub_self, Nat.zero_lt_succ, List.cons.injEq, reduceCtorEq, false_and, and_false, true_and, and_true, Bool.false_eq_true, Nat.reduceAdd, Nat.reduceLT, Nat.reduceLeDiff, Nat.reduceSub, Nat.reduceSubDiff, Nat.reduceEqDiff, Nat.reduceMul, Int.reduceSub, Int.reduceAdd, Int.reduceMul, Int.reduceLT, Int.reduceLE, Int.reduceEq, Int.reduceNeg, Int.reduceToNat, ↓reduceIte, Nat.lt_add_one, d0]
  rw [exec_cat sA31 rfl, A]
  simp only [x_var, x_cst, x_call, x_tup, x_list, x_bin, xs_cons, xs_nil, z_cons, z_cons2, z_set, z_mkT, z_mkL, z_bin, z_two, vbin, lift_some, Out.bind_ok, Out.thenS_ok, y_nil, y_seq, y_asg, setE, nextIf_some, Out.noexc_ok, List.map_cons, List.map_nil, List.nil_append, List.cons_append, List.append_nil, List.replicate_zero, List.replicate_succ, List.getElem?_cons_zero, List.getElem?_cons_succ, List.length_cons, List.length_nil, getV_some, then_next, then_ret, then_brk, then_cont, endV_ret, endV_next, List.set_cons_zero, List.set_cons_succ, Option.map_some, Option.bind_some, decide_true, decide_false, Bool.not_true, Bool.not_false, if_true, if_false, Nat.sub_self, Nat.zero_lt_succ, List.cons.injEq, reduceCtorEq, false_and, and_false, true_and, and_true, Bool.false_eq_true, Nat.reduceAdd, Nat.reduceLT, Nat.reduceLeDiff, Nat.reduceSub, Nat.reduceSubDiff, Nat.reduceEqDiff, Nat.reduceMul, Int.reduceSub, Int.reduceAdd, Int.reduceMul, Int.reduceLT, Int.reduceLE, Int.reduceEq, Int.reduceNeg, Int.reduceToNat, ↓reduceIte, Nat.lt_add_one, d1]
  exact congrArg endV Bq
end BG

namespace BGLaw
open BG PySem L2
theorem math (ns : List Int) (h : ns.length ≤ 63) : ∃ s', run tb 43 n_law_k31 [.scr ns] ⟨none, []⟩ = .ok (.bl true) s' := k31_math ns
end BGLaw
open PySem PySem.W PySem.Calls PyProof.Rows
theorem PySem.Challenge.cw_branchguesses_k31_program_errors_holds : PySem.Challenge.rw_branchguesses_k31_program_errors.Holds := by
  w_on; o_law
  refine HandSHeadRun.head_any (r := OpenLaw.row PySem.Challenge.rw_branchguesses_k31_program_errors) (q := view (OpenLaw.row PySem.Challenge.rw_branchguesses_k31_program_errors).prog [75]) (H := BGLaw.hk) (ob := BGLaw.ob) (M := 7600) (loose := BGLaw.loose) (d := HandSHeadRun.topDef (OpenLaw.row PySem.Challenge.rw_branchguesses_k31_program_errors).prog 75) (kwd := []) BGLaw.ob_eq
    (by kernel_rfl) (fun s => by kernel_rfl) BGLaw.rune (by kernel_rfl) (by kernel_rfl) (by kernel_rfl) (by rfl) (by first | assumption | decide +kernel) (by decide +kernel) ⟨rfl, rfl, rfl, rfl, rfl, by decide +kernel⟩ ?hw ?hc
  case hw => w_witness2
  case hc =>
    refine L2.walk_ofE (l := PySem.Challenge.rw_branchguesses_k31_program_errors) (n := 63) (k := 43) (x := "script") (CX := L2.CX0) rfl (by decide) (by kernel_rfl) ⟨rfl, by decide, by decide⟩ ?F (fun _ _ _ _ z => z)
    intro w mg fa h Y G hmg0
    obtain ⟨K, KX, c⟩ := Y
    have hmg : mg ("law" : PySem.Str) = some (.ref fa) := by
      have e : (HandSHeadRun.topDef (OpenLaw.row PySem.Challenge.rw_branchguesses_k31_program_errors).prog 75).name = ("law" : PySem.Str) := by kernel_rfl
      rw [← e]
      exact hmg0
    obtain ⟨fd, hb, hF⟩ := BG.law_facts BGLaw.ok (P := (PySem.Challenge.rw_branchguesses_k31_program_errors).prog) (w := w) KX G hmg c (d := BGLaw.d_law_k31) (by exact List.mem_append_right _ (List.mem_append_right _ (List.mem_cons_of_mem _ (List.mem_cons_of_mem _ (List.mem_cons_of_mem _ (List.mem_cons_of_mem _ (List.mem_cons_of_mem _ (List.mem_cons_of_mem _ (List.mem_cons_of_mem _ (List.mem_cons_of_mem _ (List.mem_cons_of_mem _ (List.mem_cons_of_mem _ (List.mem_cons_of_mem _ (List.mem_cons_of_mem _ (List.mem_cons_self))))))))))))))) rfl rfl 43
    exact ⟨K, fd, (fun vs H Q _ => BG.spOf K 1 (BG.run BG.tb 43 BG.n_law_k31) vs H Q fun _ _ _ => False), KX, hb, fun H a ns hl _ hS => BG.law_sp BGLaw.math H a ns hl hS _, fun base b1 b2 => BG.FnOk.quiet (hF base b1 b2)⟩
