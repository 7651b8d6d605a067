import PyProof.Rows.All
import Wide.All
import OpenK.AllK
import Wide.FinOn
import HandS.ForMost
import HandS.ForExc
import HandS.Walk
import HandS.IsInst
import HandS.Deep
import HandS.TupAny
import HandS.Style
import HandS.Flow
import HandS.Wide
import HandS.SortRule
import HandS.SortInts
import HandS.TupLe
import HandS.TupSets
import KE.GoesEnum
import HandS.SetFor
import PySem.Challenge.RW_foundry_k00_gates_from_their_rows
/-! Dl0 -/
section
set_option linter.all false
/-! Dl0: plain data, slots, and what expressions and statements mean over them. No heap. -/
namespace DL
open PySem

inductive D where
  | non | bl (b : Bool) | int (i : Int) | str (s : Str) | lst (ds : List D) | tup (ds : List D) | dct (kvs : List (D × D)) | scr (ns : List Int)
deriving Inhabited

/-- what a slot holds: nothing known, a value that nobody changes, a list (dict) that this frame alone holds -/
inductive Slot where
  | un | dat (d : D) | own (ds : List D) | odc (kvs : List (D × D))
deriving Inhabited

abbrev G := List Slot
/-- how a statement ends -/
inductive Out where
  | nx (g : G) | rt (d : D) | rtO (ds : List D) | bk (g : G) | ct (g : G)

abbrev lim : Nat := 16777216

abbrev M (α : Type) := G → Option α

/-! ### expressions -/
def eC (d : D) : M D := fun _ => some d
/-- a name whose value may be kept -/
def eN (i : Nat) : M D := fun g => match g[i]? with
  | some (.dat d) => some d
  | _ => none
/-- a name that is looked at only -/
def eV (i : Nat) : M D := fun g => match g[i]? with
  | some (.dat d) => some d
  | some (.own ds) => some (.lst ds)
  | some (.odc kvs) => some (.dct kvs)
  | _ => none
def e1 (op : D → Option D) (a : M D) : M D := fun g => (a g).bind op
def e2 (op : D → D → Option D) (a b : M D) : M D := fun g => (a g).bind fun x => (b g).bind fun y => op x y
/-- an argument list -/
def aN : M (List D) := fun _ => some []
def aC (a : M D) (r : M (List D)) : M (List D) := fun g => (a g).bind fun x => (r g).bind fun xs => some (x :: xs)
def eApp (f : List D → Option D) (a : M (List D)) : M D := fun g => (a g).bind f
def eTup (a : M (List D)) : M D := fun g => (a g).bind fun xs => if xs.length ≤ lim then some (.tup xs) else none
/-- a new list -/
def nLst (a : M (List D)) : M (List D) := fun g => (a g).bind fun xs => if xs.length ≤ lim then some xs else none
def eL (a : M (List D)) : M D := fun g => (a g).bind fun xs => some (.lst xs)
/-- tests -/
def tV (a : M D) : M Bool := fun g => (a g).bind fun x => match x with
  | .bl b => some b
  | _ => none
def truth : D → Option Bool
  | .non => some false
  | .bl b => some b
  | .int i => some (i != 0)
  | .lst ds => some (!ds.isEmpty)
  | .tup ds => some (!ds.isEmpty)
  | _ => none
def tU (a : M D) : M Bool := fun g => (a g).bind truth
def tAnd (a b : M Bool) : M Bool := fun g => (a g).bind fun x => if x = true then b g else some false
def tOr (a b : M Bool) : M Bool := fun g => (a g).bind fun x => if x = true then some true else b g
def tNot (a : M Bool) : M Bool := fun g => (a g).bind fun x => some (!x)
def eIf (t : M Bool) (a b : M D) : M D := fun g => (t g).bind fun x => if x = true then a g else b g
/-- and, or, as values of True and False -/
def eAnd (a b : M D) : M D := fun g => (a g).bind fun x => match x with
  | .bl true => b g
  | .bl false => some (.bl false)
  | _ => none
def eOr (a b : M D) : M D := fun g => (a g).bind fun x => match x with
  | .bl true => some (.bl true)
  | .bl false => b g
  | _ => none
def eNot (a : M D) : M D := fun g => (a g).bind fun x => match x with
  | .bl b => some (.bl (!b))
  | _ => none

/-- a < b < c: b once -/
def eChain (o o' : D → D → Option D) (a b c : M D) : M D := fun g => (a g).bind fun x => (b g).bind fun y => (o x y).bind fun z => match z with
  | .bl true => (c g).bind fun t => o' y t
  | .bl false => some (.bl false)
  | _ => none

/-! ### equality -/
mutual
def eqD : D → D → Bool
  | .non, .non => true
  | .bl a, .bl b => a == b
  | .bl a, .int j => (if a then 1 else 0) == j
  | .int i, .bl b => i == (if b then 1 else 0)
  | .int i, .int j => i == j
  | .str x, .str y => x == y
  | .lst xs, .lst ys => eqDs xs ys
  | .tup xs, .tup ys => eqDs xs ys
  | _, _ => false
def eqDs : List D → List D → Bool
  | [], [] => true
  | x :: xs, y :: ys => eqD x y && eqDs xs ys
  | [], _ :: _ => false
  | _ :: _, [] => false
end
/-! data of None, bools, ints, texts, lists and tuples, n deep at most -/
mutual
def okD : Nat → D → Bool
  | _, .non => true
  | _, .bl _ => true
  | _, .int _ => true
  | _, .str _ => true
  | n + 1, .lst ds => okDs n ds
  | n + 1, .tup ds => okDs n ds
  | _, _ => false
def okDs : Nat → List D → Bool
  | _, [] => true
  | n, d :: ds => okD n d && okDs n ds
end
def dEq (a b : D) : Option D := if okD 60 a && okD 60 b then some (.bl (eqD a b)) else none
def dNe (a b : D) : Option D := if okD 60 a && okD 60 b then some (.bl (!eqD a b)) else none

/-! ### operators -/
def dAdd : D → D → Option D
  | .int i, .int j => some (.int (i + j))
  | .tup xs, .tup ys => if xs.length + ys.length ≤ lim then some (.tup (xs ++ ys)) else none
  | .lst xs, .lst ys => if xs.length + ys.length ≤ lim then some (.lst (xs ++ ys)) else none
  | _, _ => none
def nAdd : D → D → Option (List D)
  | .lst xs, .lst ys => if xs.length + ys.length ≤ lim then some (xs ++ ys) else none
  | _, _ => none
def dSub : D → D → Option D
  | .int i, .int j => some (.int (i - j))
  | _, _ => none
def small64 (i : Int) : Bool := decide (-(2 ^ 64) < i) && decide (i < 2 ^ 64)
def dMul : D → D → Option D
  | .int i, .int j => if small64 i || small64 j then some (.int (i * j)) else none
  | _, _ => none
def dDiv : D → D → Option D
  | .int i, .int j => if 0 < j ∧ j < 1073741824 then some (.int (i / j)) else none
  | _, _ => none
def dMod : D → D → Option D
  | .int i, .int j => if 0 < j then some (.int (i % j)) else none
  | _, _ => none
def dNeg : D → Option D
  | .int i => some (.int (-i))
  | _ => none
def dLt : D → D → Option D
  | .int i, .int j => some (.bl (decide (i < j)))
  | _, _ => none
def dLe : D → D → Option D
  | .int i, .int j => some (.bl (decide (i ≤ j)))
  | _, _ => none
def dGt : D → D → Option D
  | .int i, .int j => some (.bl (decide (j < i)))
  | _, _ => none
def dGe : D → D → Option D
  | .int i, .int j => some (.bl (decide (j ≤ i)))
  | _, _ => none
def isNonD : D → Bool
  | .non => true
  | _ => false
def dIsN (x : D) : Option D := some (.bl (isNonD x))
def dNotN (x : D) : Option D := some (.bl (!isNonD x))
/-- is, is not of two bools -/
def dIsB : D → D → Option D
  | .bl a, .bl b => some (.bl (decide (a = b)))
  | _, _ => none
def dNotB : D → D → Option D
  | .bl a, .bl b => some (.bl (!decide (a = b)))
  | _, _ => none
def itemsD : D → Option (List D)
  | .lst ds => some ds
  | .tup ds => some ds
  | _ => none
def memD (x : D) (ds : List D) : Bool := ds.any fun z => eqD z x
def flatD : D → Bool
  | .non => true
  | .bl _ => true
  | .int _ => true
  | .str _ => true
  | _ => false
/-- x in xs: a list, or a tuple of flat things -/
def dIn : D → D → Option D
  | x, .lst ds => if okD 50 x && okDs 50 ds then some (.bl (memD x ds)) else none
  | x, .tup ds => if flatD x && ds.all flatD then some (.bl (memD x ds)) else none
  | _, _ => none
def dNotIn : D → D → Option D
  | x, .lst ds => if okD 50 x && okDs 50 ds then some (.bl (!memD x ds)) else none
  | x, .tup ds => if flatD x && ds.all flatD then some (.bl (!memD x ds)) else none
  | _, _ => none
/-- the place of an index -/
def placeN (n : Nat) (i : Int) : Option Nat :=
  if 0 ≤ i then
    if i < n then some i.toNat else none
  else if -(n : Int) ≤ i then some (i + n).toNat else none
def atD (ds : List D) (i : Int) : Option D := (placeN ds.length i).bind fun j => ds[j]?
def dIx : D → D → Option D
  | .lst ds, .int i => atD ds i
  | .tup ds, .int i => atD ds i
  | .scr ns, .int i => (placeN ns.length i).bind fun j => (ns[j]?).map D.int
  | _, _ => none
def dLen : List D → Option D
  | [.lst ds] => some (.int ds.length)
  | [.tup ds] => some (.int ds.length)
  | [.scr ns] => some (.int ns.length)
  | [.dct kvs] => some (.int kvs.length)
  | _ => none
def dAbs : List D → Option D
  | [.int i] => some (.int (if i < 0 then -i else i))
  | _ => none
def asBl : D → Option Bool
  | .bl b => some b
  | _ => none
def dAll : List D → Option D
  | [.lst ds] => (ds.mapM asBl).map fun bs => D.bl (bs.all id)
  | _ => none
def dAny : List D → Option D
  | [.lst ds] => (ds.mapM asBl).map fun bs => D.bl (bs.any id)
  | _ => none
def dTupOf : List D → Option D
  | [.lst ds] => some (.tup ds)
  | [.tup ds] => some (.tup ds)
  | _ => none
def nLstOf : List D → Option (List D)
  | [.lst ds] => some ds
  | [.tup ds] => some ds
  | _ => none
def asInt : D → Option Int
  | .int i => some i
  | _ => none
def maxI : List Int → Int
  | [] => 0
  | x :: xs => xs.foldl max x
def dMax : List D → Option D
  | [.lst ds] => (ds.mapM asInt).bind fun ns => if ns.isEmpty then none else some (.int (maxI ns))
  | _ => none

/-! ### isinstance -/
inductive Ty where
  | int | bool | str | tuple | list | dict
def isTy : Ty → D → Option Bool
  | .int, .int _ => some true
  | .int, .bl _ => some true
  | .bool, .bl _ => some true
  | .str, .str _ => some true
  | .tuple, .tup _ => some true
  | .list, .lst _ => some true
  | .dict, .dct _ => some true
  | _, .scr _ => none
  | _, _ => some false
def dIsi (t : Ty) (x : D) : Option D := (isTy t x).map D.bl

/-! ### slices -/
def clip (n d : Nat) : Option Int → Nat
  | none => d
  | some i => if i < 0 then (i + (n : Int)).toNat else min i.toNat n
def cutD (ds : List D) (lo hi : Option Int) : List D :=
  (ds.drop (clip ds.length 0 lo)).take (clip ds.length ds.length hi - clip ds.length 0 lo)
/-- a part of a slice -/
def oN : M (Option Int) := fun _ => some none
def oS (a : M D) : M (Option Int) := fun g => (a g).bind fun x => match x with
  | .int i => some (some i)
  | _ => none
def nSl (a : M D) (lo hi : M (Option Int)) : M (List D) := fun g => (a g).bind fun x => (lo g).bind fun l => (hi g).bind fun h => match x with
  | .lst ds => some (cutD ds l h)
  | _ => none
def eSlT (a : M D) (lo hi : M (Option Int)) : M D := fun g => (a g).bind fun x => (lo g).bind fun l => (hi g).bind fun h => match x with
  | .tup ds => some (.tup (cutD ds l h))
  | _ => none

/-! ### what is walked -/
def iSeqL (a : M D) : M (List D) := fun g => (a g).bind fun x => match x with
  | .lst ds => some ds
  | _ => none
def iSeqT (a : M D) : M (List D) := fun g => (a g).bind fun x => match x with
  | .tup ds => some ds
  | _ => none
def iSeq (a : M D) : M (List D) := fun g => (a g).bind itemsD
def rangeD (lo : Int) (n : Nat) : List D := (List.range n).map fun (k : Nat) => D.int (lo + k)
def okR (i : Int) : Bool := decide (-(2 ^ 62) ≤ i) && decide (i < 2 ^ 62)
def iRng1 (a : M D) : M (List D) := fun g => (a g).bind fun x => match x with
  | .int j => if okR j then some (rangeD 0 j.toNat) else none
  | _ => none
def iRng2 (a b : M D) : M (List D) := fun g => (a g).bind fun x => (b g).bind fun y => match x, y with
  | .int i, .int j => if okR i && okR j then some (rangeD i (j - i).toNat) else none
  | _, _ => none
def pairs : Nat → List D → List D
  | _, [] => []
  | k, d :: ds => .tup [.int k, d] :: pairs (k + 1) ds
def iEnumLD (a : M D) : M (List D) := fun g => (a g).bind fun x => match x with
  | .lst ds => some (pairs 0 ds)
  | _ => none
def iEnum (a : M D) : M (List D) := fun g => (a g).bind fun x => (itemsD x).map (pairs 0)
def zipD : List D → List D → List D
  | x :: xs, y :: ys => .tup [x, y] :: zipD xs ys
  | _, _ => []
def iZip (a b : M D) : M (List D) := fun g => (a g).bind fun x => (b g).bind fun y => match x, y with
  | .lst xs, .lst ys => some (zipD xs ys)
  | _, _ => none

/-! ### targets -/
abbrev Tg := D → G → Option G
def gN (i : Nat) : Tg := fun d g => if i < g.length then some (g.set i (.dat d)) else none
def gT : List Nat → Tg := fun is d g => match d with
  | .tup ds => if is.length = ds.length ∧ is.all (· < g.length) then some ((is.zip ds).foldl (fun h p => h.set p.1 (.dat p.2)) g) else none
  | _ => none

/-! ### comprehensions -/
def wipeG : G → List Nat → G
  | g, [] => g
  | g, v :: vs => (wipeG g vs).set v .un
def lcGo (tg : Tg) (t : M Bool) (e : M D) (g : G) : List D → List D → Option (List D)
  | [], acc => some acc
  | x :: xs, acc => (tg x g).bind fun g1 => (t g1).bind fun b => if b = true then (e g1).bind fun y => if acc.length < lim then lcGo tg t e g xs (acc ++ [y]) else none else lcGo tg t e g xs acc
def nLc (it : M (List D)) (tg : Tg) (t : M Bool) (e : M D) (vs : List Nat) : M (List D) := fun g => (it g).bind fun xs => lcGo tg t e (wipeG g vs) xs []
def tYes : M Bool := fun _ => some true

/-! ### dicts -/
def keyD : D → Bool
  | .int _ => true
  | .str _ => true
  | _ => false
def keyEq : D → D → Bool
  | .int i, .int j => i == j
  | .str x, .str y => x == y
  | _, _ => false
def getD (kvs : List (D × D)) (k : D) : Option D := (kvs.find? fun kv => keyEq kv.1 k).map (·.2)
def putD (kvs : List (D × D)) (k v : D) : List (D × D) :=
  if kvs.any fun kv => keyEq kv.1 k then kvs.map fun kv => if keyEq kv.1 k then (kv.1, v) else kv else kvs ++ [(k, v)]
/-- k in d, k not in d, d[k] -/
def dInK : D → D → Option D
  | k, .dct kvs => if keyD k then some (.bl (getD kvs k).isSome) else none
  | _, _ => none
def dNotInK : D → D → Option D
  | k, .dct kvs => if keyD k then some (.bl (!(getD kvs k).isSome)) else none
  | _, _ => none
def dGetK : D → D → Option D
  | .dct kvs, k => if keyD k then getD kvs k else none
  | _, _ => none
/-- d.get(k), d.get(k, x) -/
def dGet1 : D → D → Option D
  | .dct kvs, k => if keyD k then some ((getD kvs k).getD .non) else none
  | _, _ => none
/-! ### sorting -/
def insBy {α : Type} (le : α → α → Bool) (x : α) : List α → List α
  | [] => [x]
  | y :: ys => if le x y then x :: y :: ys else y :: insBy le x ys
/-- stable -/
def sortBy {α : Type} (le : α → α → Bool) : List α → List α
  | [] => []
  | x :: xs => insBy le x (sortBy le xs)
def leI (a b : Int) : Bool := decide (a ≤ b)
def sortI (ns : List Int) : List Int := sortBy leI ns
def nSortI : List D → Option (List D)
  | [.lst ds] => (ds.mapM asInt).map fun ns => (sortI ns).map D.int
  | _ => none
/-- sorted(d), keys that are ints -/
def nSortD : List D → Option (List D)
  | [.dct kvs] => if kvs.length < 64 then ((kvs.map (·.1)).mapM asInt).map fun ns => (sortI ns).map D.int else none
  | _ => none
def asPair : D → Option (Int × Int)
  | .tup [.int a, .int b] => some (a, b)
  | _ => none
def pairD (p : Int × Int) : D := .tup [.int p.1, .int p.2]
def leP (a b : Int × Int) : Bool := decide (a.1 < b.1) || (decide (a.1 = b.1) && decide (a.2 ≤ b.2))
def sortP (ps : List (Int × Int)) : List (Int × Int) := sortBy leP ps
def nSortP : List D → Option (List D)
  | [.lst ds] => (ds.mapM asPair).map fun ps => (sortP ps).map pairD
  | _ => none
/-! ### sets -/
def asInts : D → Option (List Int)
  | .tup ds => ds.mapM asInt
  | _ => none
def ddup : List (List Int) → List (List Int)
  | [] => []
  | x :: xs => if x ∈ ddup xs then ddup xs else x :: ddup xs
/-- len(set(t)), t a tuple of tuples of ints -/
def dLenSet : D → Option D
  | .tup ds => (ds.mapM asInts).bind fun ks => if ks.length < 64 then some (.int (ddup ks).length) else none
  | _ => none
/-! ### more -/
def dPow : D → D → Option D
  | .int i, .int j => if 0 ≤ j ∧ j ≤ 1000 ∧ small64 i then some (.int (i ^ j.toNat)) else none
  | _, _ => none
def nRep : D → D → Option (List D)
  | .lst ds, .int k => if -(2 ^ 63) ≤ k ∧ k < 2 ^ 63 ∧ ds.length * k.toNat ≤ lim then some (List.replicate k.toNat ds).flatten else none
  | _, _ => none
def iEnumTD (a : M D) : M (List D) := fun g => (a g).bind fun x => match x with
  | .tup ds => some (pairs 0 ds)
  | _ => none
/-- range(i, j, -1) -/
def iDown (a b : M D) : M (List D) := fun g => (a g).bind fun x => (b g).bind fun y => match x, y with
  | .int i, .int j => if okR i && okR j then some ((List.range (i - j).toNat).map fun (k : Nat) => D.int (i - k)) else none
  | _, _ => none
def lcGo2 (tg : Tg) (t : M Bool) (it1 : M (List D)) (tg1 : Tg) (t1 : M Bool) (e : M D) (vs1 : List Nat) (g : G) : List D → List D → Option (List D)
  | [], acc => some acc
  | x :: xs, acc => (tg x g).bind fun g1 => (t g1).bind fun b => if b = true then (it1 g1).bind fun ys => (lcGo tg1 t1 e (wipeG g1 vs1) ys acc).bind fun acc1 => lcGo2 tg t it1 tg1 t1 e vs1 g xs acc1 else lcGo2 tg t it1 tg1 t1 e vs1 g xs acc
def nLc2 (it : M (List D)) (tg : Tg) (t : M Bool) (it1 : M (List D)) (tg1 : Tg) (t1 : M Bool) (e : M D) (vs vs1 : List Nat) : M (List D) := fun g => (it g).bind fun xs => lcGo2 tg t it1 tg1 t1 e vs1 (wipeG g vs) xs []

/-! ### statements -/
abbrev S := G → Option Out
def sNext : S := fun g => some (.nx g)
def sNever : S := fun _ => none
def sSeq (a b : S) : S := fun g => (a g).bind fun o => match o with
  | .nx g1 => b g1
  | o => some o
def sSet (i : Nat) (e : M D) : S := fun g => (e g).bind fun d => if i < g.length then some (.nx (g.set i (.dat d))) else none
/-- a new list, this frame's own -/
def sOwn (i : Nat) (e : M (List D)) : S := fun g => (e g).bind fun ds => if i < g.length then some (.nx (g.set i (.own ds))) else none
def sNewD (i : Nat) : S := fun g => if i < g.length then some (.nx (g.set i (.odc []))) else none
def sTgt (tg : Tg) (e : M D) : S := fun g => (e g).bind fun d => (tg d g).map Out.nx
def sRet (e : M D) : S := fun g => (e g).map Out.rt
/-- an own list handed back -/
def sRetO (i : Nat) : S := fun g => match g[i]? with
  | some (.own ds) => some (.rtO ds)
  | _ => none
/-- a new list handed back -/
def sRetNL (e : M (List D)) : S := fun g => (e g).map Out.rtO
def sRetN : S := fun _ => some (.rt .non)
def sIf (t : M Bool) (a b : S) : S := fun g => (t g).bind fun x => if x = true then a g else b g
def sDrop (e : M D) : S := fun g => (e g).map fun _ => Out.nx g
def forGo (tg : Tg) (body : S) : List D → G → Option Out
  | [], g => some (.nx g)
  | x :: xs, g => (tg x g).bind fun g1 => (body g1).bind fun o => match o with
    | .nx g2 => forGo tg body xs g2
    | .ct g2 => forGo tg body xs g2
    | .bk g2 => some (.nx g2)
    | o => some o
def sFor (it : M (List D)) (tg : Tg) (body : S) : S := fun g => (it g).bind fun xs => forGo tg body xs g
def whileGo (t : M Bool) (body : S) : Nat → G → Option Out
  | 0, _ => none
  | n + 1, g => (t g).bind fun b => if b = true then (body g).bind fun o => match o with
    | .nx g2 => whileGo t body n g2
    | .ct g2 => whileGo t body n g2
    | .bk g2 => some (.nx g2)
    | o => some o
    else some (.nx g)
def sWhile (n : Nat) (t : M Bool) (body : S) : S := fun g => whileGo t body n g
def sBk : S := fun g => some (.bk g)
def sCt : S := fun g => some (.ct g)
/-- own list: xs.append(e) -/
def sApp (i : Nat) (e : M D) : S := fun g => (e g).bind fun d => match g[i]? with
  | some (.own ds) => if ds.length < lim then some (.nx (g.set i (.own (ds ++ [d])))) else none
  | _ => none
/-- own list: xs += e, a new list -/
def sExt (i : Nat) (e : M D) : S := fun g => (e g).bind fun es => match g[i]?, es with
  | some (.own ds), .lst es => if ds.length + es.length ≤ lim then some (.nx (g.set i (.own (ds ++ es)))) else none
  | _, _ => none
/-- own list: xs[k] = e -/
def sSetL (i : Nat) (k e : M D) : S := fun g => (e g).bind fun d => (k g).bind fun j => match g[i]?, j with
  | some (.own ds), .int j => (placeN ds.length j).bind fun p => some (.nx (g.set i (.own (ds.set p d))))
  | _, _ => none
/-- own list: y = xs.pop() -/
def sPop (y i : Nat) : S := fun g => match g[i]? with
  | some (.own ds) => (ds[ds.length - 1]?).bind fun d => if y < g.length then some (.nx ((g.set i (.own ds.dropLast)).set y (.dat d))) else none
  | _ => none
/-- own list: xs[k] += e, of ints -/
def sAugL (i : Nat) (k e : M D) : S := fun g => (k g).bind fun j => match g[i]?, j with
  | some (.own ds), .int j => (placeN ds.length j).bind fun p => match ds[p]? with
    | some (.int a) => (e g).bind fun d => match d with
      | .int b => some (.nx (g.set i (.own (ds.set p (.int (a + b))))))
      | _ => none
    | _ => none
  | _, _ => none
/-- x += e of ints -/
def sAug (i : Nat) (f : Int → Int → Int) (e : M D) : S := fun g => match g[i]? with
  | some (.dat (.int a)) => (e g).bind fun d => match d with
    | .int b => if i < g.length then some (.nx (g.set i (.dat (.int (f a b))))) else none
    | _ => none
  | _ => none
/-- own dict: d[k] = e -/
def sPutD (i : Nat) (k e : M D) : S := fun g => (e g).bind fun d => (k g).bind fun j => match g[i]? with
  | some (.odc kvs) => if keyD j ∧ kvs.length < lim then some (.nx (g.set i (.odc (putD kvs j d)))) else none
  | _ => none
/-- x, y = a, b -/
def sPar (i j : Nat) (a b : M D) : S := fun g => (a g).bind fun x => (b g).bind fun y => if i < g.length ∧ j < g.length then some (.nx ((g.set i (.dat x)).set j (.dat y))) else none
/-- x, y = a, [..]: y an own list -/
def sParN (i j : Nat) (a : M D) (b : M (List D)) : S := fun g => (a g).bind fun x => (b g).bind fun y => if i < g.length ∧ j < g.length then some (.nx ((g.set i (.dat x)).set j (.own y))) else none
/-- x, y = [..], [..]: own lists -/
def sParNN (i j : Nat) (a b : M (List D)) : S := fun g => (a g).bind fun x => (b g).bind fun y => if i < g.length ∧ j < g.length ∧ i ≠ j then some (.nx ((g.set i (.own x)).set j (.own y))) else none
/-- x, y = [..], {}: an own list, an own dict -/
def sParNK (i j : Nat) (a : M (List D)) : S := fun g => (a g).bind fun x => if i < g.length ∧ j < g.length ∧ i ≠ j then some (.nx ((g.set i (.own x)).set j (.odc []))) else none
def freeze (i : Nat) (g : G) : G := match g[i]? with
  | some (.own ds) => g.set i (.dat (.lst ds))
  | some (.odc kvs) => g.set i (.dat (.dct kvs))
  | _ => g
def forget (i : Nat) (g : G) : G := g.set i .un
/-- no step of the program: what is known is said in another way -/
def sVia (f : G → G) (s : S) : S := fun g => s (f g)

/-! ### defs -/
inductive Rt where
  | d (d : D) | o (ds : List D)
def Rt.val : Rt → D
  | .d x => x
  | .o xs => .lst xs
abbrev Fn := List D → Option Rt
def start (n : Nat) (ds : List D) : G := ds.map Slot.dat ++ List.replicate (n - ds.length) .un
def fin : Option Out → Option Rt
  | some (.rt d) => some (.d d)
  | some (.rtO ds) => some (.o ds)
  | some (.nx _) => some (.d .non)
  | _ => none
/-- a def of p parameters and n slots -/
def fnR (p n : Nat) (body : S) : Fn := fun ds => if ds.length = p then fin (body (start n ds)) else none
def eCall (f : Fn) (a : M (List D)) : M D := fun g => (a g).bind fun ds => (f ds).map Rt.val
def nCall (f : Fn) (a : M (List D)) : M (List D) := fun g => (a g).bind fun ds => (f ds).bind fun r => match r with
  | .o es => some es
  | _ => none
mutual
def noL : D → Bool
  | .tup ds => noLs ds
  | .lst _ => false
  | .dct _ => false
  | .scr _ => false
  | _ => true
def noLs : List D → Bool
  | [] => true
  | d :: ds => noL d && noLs ds
end
/-- a call whose arguments are looked at; what it hands back holds no list -/
def eCallV (f : Fn) (a : M (List D)) : M D := fun g => (a g).bind fun ds => (f ds).bind fun r => match r with
  | .d d => if noL d then some d else none
  | _ => none
def nCallV (f : Fn) (a : M (List D)) : M (List D) := fun g => (a g).bind fun ds => (f ds).bind fun r => match r with
  | .o es => if noLs es then some es else none
  | _ => none
end DL
end
/-! Dl0b -/
section
set_option linter.all false
/-! Dl0b: more meanings. -/
namespace DL
open PySem
def dIsN2 : D → D → Option D := fun x y => if isNonD y then dIsN x else none
def dNotN2 : D → D → Option D := fun x y => if isNonD y then dNotN x else none
def nLen (o : List D → Option (List D)) (f : M (List D)) : M (List D) := fun g => (f g).bind o
def n2 (o : D → D → Option (List D)) (a b : M D) : M (List D) := fun g => (a g).bind fun x => (b g).bind fun y => o x y
def eSl (a : M D) (lo hi : M (Option Int)) : M D := fun g => (a g).bind fun x => (lo g).bind fun l => (hi g).bind fun h => match x with
  | .lst ds => some (.lst (cutD ds l h))
  | .tup ds => some (.tup (cutD ds l h))
  | _ => none
end DL
end
/-! Dm -/
section
set_option linter.all false
/-! Dm: how plain meanings are reckoned. -/
namespace DM
open PySem DL

/-- it ends with something of which P holds -/
def Ob {α : Type} (o : Option α) (P : α → Prop) : Prop := ∃ a, o = some a ∧ P a
theorem ob_some {α : Type} (a : α) (P : α → Prop) : Ob (some a) P = P a := by simp [Ob]
theorem ob_bind {α β : Type} (o : Option α) (f : α → Option β) (P : β → Prop) : Ob (o.bind f) P = Ob o (fun x => Ob (f x) P) := by
  cases o <;> simp [Ob]
theorem ob_map {α β : Type} (o : Option α) (f : α → β) (P : β → Prop) : Ob (o.map f) P = Ob o (fun x => P (f x)) := by
  cases o <;> simp [Ob]
theorem ob_eq {α : Type} {o : Option α} {b : α} (h : Ob o (fun a => a = b)) : o = some b := by
  obtain ⟨a, h1, h2⟩ := h; rw [h1, h2]
theorem eq_ob {α : Type} {o : Option α} {b : α} {P : α → Prop} (h : o = some b) (hp : P b) : Ob o P := ⟨b, h, hp⟩
theorem ob_mono {α : Type} {o : Option α} {P Q : α → Prop} (h : Ob o P) (hq : ∀ a, P a → Q a) : Ob o Q := by
  obtain ⟨a, h1, h2⟩ := h; exact ⟨a, h1, hq a h2⟩
theorem ob_ite_t {α : Type} {c : Prop} [Decidable c] (h : c) (a b : Option α) (P : α → Prop) : Ob a P → Ob (if c then a else b) P := by
  intro x; rw [if_pos h]; exact x
theorem ob_ite {α : Type} (c : Prop) [Decidable c] (a b : Option α) (P : α → Prop) : Ob (if c then a else b) P = if c then Ob a P else Ob b P := by
  split <;> rfl

/-! ### expressions, applied -/
theorem eC_ap (d : D) (g : G) : eC d g = some d := rfl
def slotN : Option Slot → Option D
  | some (.dat d) => some d
  | _ => none
def slotV : Option Slot → Option D
  | some (.dat d) => some d
  | some (.own ds) => some (.lst ds)
  | some (.odc kvs) => some (.dct kvs)
  | _ => none
theorem eN_ap (i : Nat) (g : G) : eN i g = slotN g[i]? := by
  unfold eN slotN; rfl
theorem eV_ap (i : Nat) (g : G) : eV i g = slotV g[i]? := by
  unfold eV slotV; rfl
theorem slotN_dat (d : D) : slotN (some (.dat d)) = some d := rfl
theorem slotV_dat (d : D) : slotV (some (.dat d)) = some d := rfl
theorem slotV_own (d : List D) : slotV (some (.own d)) = some (.lst d) := rfl
theorem slotV_odc (d : List (D × D)) : slotV (some (.odc d)) = some (.dct d) := rfl
theorem e1_ap (op : D → Option D) (a : M D) (g : G) : e1 op a g = (a g).bind op := rfl
theorem e2_ap (op : D → D → Option D) (a b : M D) (g : G) : e2 op a b g = (a g).bind fun x => (b g).bind fun y => op x y := rfl
theorem n2_ap (op : D → D → Option (List D)) (a b : M D) (g : G) : n2 op a b g = (a g).bind fun x => (b g).bind fun y => op x y := rfl
theorem nLen_ap (o : List D → Option (List D)) (f : M (List D)) (g : G) : nLen o f g = (f g).bind o := rfl
theorem aN_ap (g : G) : aN g = some [] := rfl
theorem aC_ap (a : M D) (r : M (List D)) (g : G) : aC a r g = (a g).bind fun x => (r g).bind fun xs => some (x :: xs) := rfl
theorem eApp_ap (f : List D → Option D) (a : M (List D)) (g : G) : eApp f a g = (a g).bind f := rfl
def mkTup (xs : List D) : Option D := if xs.length ≤ lim then some (.tup xs) else none
def mkLst (xs : List D) : Option (List D) := if xs.length ≤ lim then some xs else none
theorem eTup_ap (a : M (List D)) (g : G) : eTup a g = (a g).bind mkTup := rfl
theorem nLst_ap (a : M (List D)) (g : G) : nLst a g = (a g).bind mkLst := rfl
theorem mkTup_0 : mkTup [] = some (.tup []) := rfl
theorem mkTup_1 (a : D) : mkTup [a] = some (.tup [a]) := rfl
theorem mkTup_2 (a b : D) : mkTup [a, b] = some (.tup [a, b]) := rfl
theorem mkTup_3 (a b c : D) : mkTup [a, b, c] = some (.tup [a, b, c]) := rfl
theorem mkTup_4 (a b c d : D) : mkTup [a, b, c, d] = some (.tup [a, b, c, d]) := rfl
theorem mkLst_0 : mkLst [] = some [] := rfl
theorem mkLst_c (a : D) (l : List D) (h : l.length < 100) : mkLst (a :: l) = some (a :: l) := by
  unfold mkLst; rw [if_pos]; simp [lim]; omega
theorem eL_ap (a : M (List D)) (g : G) : eL a g = (a g).bind fun xs => some (.lst xs) := rfl
theorem tV_ap (a : M D) (g : G) : tV a g = (a g).bind asBl := by
  unfold tV; cases a g with
  | none => rfl
  | some x => cases x <;> rfl
theorem asBl_bl (b : Bool) : asBl (.bl b) = some b := rfl
theorem tU_ap (a : M D) (g : G) : tU a g = (a g).bind truth := rfl
def ifB {α : Type} (b : Bool) (x y : Option α) : Option α := if b = true then x else y
theorem ifB_t {α : Type} (x y : Option α) : ifB true x y = x := rfl
theorem ifB_f {α : Type} (x y : Option α) : ifB false x y = y := rfl
theorem tAnd_ap (a b : M Bool) (g : G) : tAnd a b g = (a g).bind fun x => ifB x (b g) (some false) := rfl
theorem tOr_ap (a b : M Bool) (g : G) : tOr a b g = (a g).bind fun x => ifB x (some true) (b g) := rfl
theorem tNot_ap (a : M Bool) (g : G) : tNot a g = (a g).bind fun x => some (!x) := rfl
theorem tYes_ap (g : G) : tYes g = some true := rfl
theorem eIf_ap (t : M Bool) (a b : M D) (g : G) : eIf t a b g = (t g).bind fun x => ifB x (a g) (b g) := rfl
def ifD (d : D) (x y : Option D) : Option D := match d with
  | .bl true => x
  | .bl false => y
  | _ => none
theorem ifD_bl (b : Bool) (x y : Option D) : ifD (.bl b) x y = ifB b x y := by cases b <;> rfl
theorem eAnd_ap (a b : M D) (g : G) : eAnd a b g = (a g).bind fun x => ifD x (b g) (some (.bl false)) := by
  unfold eAnd; cases a g with
  | none => rfl
  | some x => cases x <;> try rfl
theorem eOr_ap (a b : M D) (g : G) : eOr a b g = (a g).bind fun x => ifD x (some (.bl true)) (b g) := by
  unfold eOr; cases a g with
  | none => rfl
  | some x => cases x <;> try rfl
def notD : D → Option D
  | .bl b => some (.bl (!b))
  | _ => none
theorem notD_bl (b : Bool) : notD (.bl b) = some (.bl (!b)) := rfl
theorem eNot_ap (a : M D) (g : G) : eNot a g = (a g).bind notD := by
  unfold eNot; cases a g with
  | none => rfl
  | some x => cases x <;> try rfl
theorem eChain_ap (o o' : D → D → Option D) (a b c : M D) (g : G) : eChain o o' a b c g = (a g).bind fun x => (b g).bind fun y => (o x y).bind fun z => ifD z ((c g).bind fun t => o' y t) (some (.bl false)) := by
  unfold eChain; congr 1

/-! ### operators -/
theorem dAdd_i (i j : Int) : dAdd (.int i) (.int j) = some (.int (i + j)) := rfl
theorem dSub_i (i j : Int) : dSub (.int i) (.int j) = some (.int (i - j)) := rfl
theorem dNeg_i (i : Int) : dNeg (.int i) = some (.int (-i)) := rfl
theorem dLt_i (i j : Int) : dLt (.int i) (.int j) = some (.bl (decide (i < j))) := rfl
theorem dLe_i (i j : Int) : dLe (.int i) (.int j) = some (.bl (decide (i ≤ j))) := rfl
theorem dGt_i (i j : Int) : dGt (.int i) (.int j) = some (.bl (decide (j < i))) := rfl
theorem dGe_i (i j : Int) : dGe (.int i) (.int j) = some (.bl (decide (j ≤ i))) := rfl
theorem dMod_i (i j : Int) (h : 0 < j) : dMod (.int i) (.int j) = some (.int (i % j)) := by simp [dMod, h]
theorem dDiv_i (i j : Int) (h : 0 < j ∧ j < 1073741824) : dDiv (.int i) (.int j) = some (.int (i / j)) := by simp only [dDiv, if_pos h]
theorem dMul_i (i j : Int) (h : small64 j = true) : dMul (.int i) (.int j) = some (.int (i * j)) := by simp [dMul, h]
theorem dMul_i2 (i j : Int) (h : small64 i = true) : dMul (.int i) (.int j) = some (.int (i * j)) := by simp [dMul, h]
theorem dIsN2_n (x : D) : dIsN2 x .non = some (.bl (isNonD x)) := rfl
theorem dNotB_b (a b : Bool) : dNotB (.bl a) (.bl b) = some (.bl (!decide (a = b))) := rfl
theorem dEq_i (i j : Int) : dEq (.int i) (.int j) = some (.bl (i == j)) := by simp [dEq, okD, eqD]
theorem dNe_i (i j : Int) : dNe (.int i) (.int j) = some (.bl (!(i == j))) := by simp [dNe, okD, eqD]
theorem dEq_b (i j : Bool) : dEq (.bl i) (.bl j) = some (.bl (i == j)) := by simp [dEq, okD, eqD]
theorem dNe_b (i j : Bool) : dNe (.bl i) (.bl j) = some (.bl (!(i == j))) := by simp [dNe, okD, eqD]
theorem dEq_s (i j : Str) : dEq (.str i) (.str j) = some (.bl (i == j)) := by simp [dEq, okD, eqD]
theorem dNe_s (i j : Str) : dNe (.str i) (.str j) = some (.bl (!(i == j))) := by simp [dNe, okD, eqD]
theorem dLen_l (ds : List D) : dLen [.lst ds] = some (.int ds.length) := rfl
theorem dLen_t (ds : List D) : dLen [.tup ds] = some (.int ds.length) := rfl
theorem dLen_s (ds : List Int) : dLen [.scr ds] = some (.int ds.length) := rfl
theorem dTupOf_l (ds : List D) : dTupOf [.lst ds] = some (.tup ds) := rfl
theorem dTupOf_t (ds : List D) : dTupOf [.tup ds] = some (.tup ds) := rfl
theorem nLstOf_l (ds : List D) : nLstOf [.lst ds] = some ds := rfl
theorem nLstOf_t (ds : List D) : nLstOf [.tup ds] = some ds := rfl
theorem dAbs_i (i : Int) : dAbs [.int i] = some (.int (i.natAbs : Int)) := by
  simp only [dAbs]; congr 2; split <;> omega
theorem mapM_bl {α : Type} (l : List α) (p : α → Bool) : (l.map fun x => D.bl (p x)).mapM asBl = some (l.map p) := by
  induction l with
  | nil => rfl
  | cons x l ih => simp [List.mapM_cons, ih, asBl]
theorem mapM_int {α : Type} (l : List α) (p : α → Int) : (l.map fun x => D.int (p x)).mapM asInt = some (l.map p) := by
  induction l with
  | nil => rfl
  | cons x l ih => simp [List.mapM_cons, ih, asInt]
theorem dAll_m {α : Type} (l : List α) (p : α → Bool) : dAll [.lst (l.map fun x => D.bl (p x))] = some (.bl (l.all p)) := by
  simp only [dAll, mapM_bl, Option.map_some, List.all_map]; rfl
theorem itemsD_l (ds : List D) : itemsD (.lst ds) = some ds := rfl
theorem itemsD_t (ds : List D) : itemsD (.tup ds) = some ds := rfl
theorem iSeq_ap (a : M D) (g : G) : iSeq a g = (a g).bind itemsD := rfl
theorem iSeqL_ap (a : M D) (g : G) (ds : List D) (h : a g = some (.lst ds)) : iSeqL a g = some ds := by simp [iSeqL, h]
def seqL : D → Option (List D)
  | .lst ds => some ds
  | _ => none
theorem seqL_l (ds : List D) : seqL (.lst ds) = some ds := rfl
theorem iSeqL_ap' (a : M D) (g : G) : iSeqL a g = (a g).bind seqL := by
  unfold iSeqL; congr 1
def rng1 : D → Option (List D)
  | .int j => if okR j then some (rangeD 0 j.toNat) else none
  | _ => none
def rng2 : D → D → Option (List D)
  | .int i, .int j => if okR i && okR j then some (rangeD i (j - i).toNat) else none
  | _, _ => none
def rngDown : D → D → Option (List D)
  | .int i, .int j => if okR i && okR j then some ((List.range (i - j).toNat).map fun (k : Nat) => D.int (i - k)) else none
  | _, _ => none
theorem iRng1_ap (a : M D) (g : G) : iRng1 a g = (a g).bind rng1 := by unfold iRng1; congr 1
theorem iRng2_ap (a b : M D) (g : G) : iRng2 a b g = (a g).bind fun x => (b g).bind fun y => rng2 x y := by
  unfold iRng2; congr 1
theorem iDown_ap (a b : M D) (g : G) : iDown a b g = (a g).bind fun x => (b g).bind fun y => rngDown x y := by
  unfold iDown; congr 1
theorem rng1_i (j : Int) (h : -(2 ^ 62) ≤ j ∧ j < 2 ^ 62) : rng1 (.int j) = some ((List.range j.toNat).map fun k => D.int ((k : Nat) : Int)) := by
  have : okR j = true := by simp only [okR, h.1, h.2, decide_true, Bool.and_self]
  simp only [rng1, this, if_true, rangeD]; simp
theorem rng2_i (i j : Int) (h : -(2 ^ 62) ≤ i ∧ i < 2 ^ 62) (h' : -(2 ^ 62) ≤ j ∧ j < 2 ^ 62) : rng2 (.int i) (.int j) = some ((List.range (j - i).toNat).map fun k => D.int (i + (k : Nat))) := by
  have : okR i = true := by simp only [okR, h.1, h.2, decide_true, Bool.and_self]
  have h2 : okR j = true := by simp only [okR, h'.1, h'.2, decide_true, Bool.and_self]
  simp only [rng2, this, h2, Bool.and_self, if_true, rangeD]
theorem rngDown_i (i j : Int) (h : -(2 ^ 62) ≤ i ∧ i < 2 ^ 62) (h' : -(2 ^ 62) ≤ j ∧ j < 2 ^ 62) : rngDown (.int i) (.int j) = some ((List.range (i - j).toNat).map fun (k : Nat) => D.int (i - k)) := by
  have : okR i = true := by simp only [okR, h.1, h.2, decide_true, Bool.and_self]
  have h2 : okR j = true := by simp only [okR, h'.1, h'.2, decide_true, Bool.and_self]
  simp only [rngDown, this, h2, Bool.and_self, if_true]
theorem iEnum_ap (a : M D) (g : G) : iEnum a g = (a g).bind fun x => (itemsD x).map (pairs 0) := rfl
def zip2 : D → D → Option (List D)
  | .lst xs, .lst ys => some (zipD xs ys)
  | _, _ => none
theorem iZip_ap (a b : M D) (g : G) : iZip a b g = (a g).bind fun x => (b g).bind fun y => zip2 x y := by
  unfold iZip; congr 1
theorem zip2_l (xs ys : List D) : zip2 (.lst xs) (.lst ys) = some (zipD xs ys) := rfl
theorem isi_ap (t : Ty) (x : D) : dIsi t x = (isTy t x).map D.bl := rfl
theorem dIx_l (ds : List D) (i : Int) : dIx (.lst ds) (.int i) = atD ds i := rfl
theorem dIx_t (ds : List D) (i : Int) : dIx (.tup ds) (.int i) = atD ds i := rfl
theorem atD_0 (a : D) (l : List D) : atD (a :: l) 0 = some a := by
  simp [atD, placeN]
theorem atD_of (ds : List D) (i : Int) (d : D) (h0 : 0 ≤ i) (h : ds[i.toNat]? = some d) : atD ds i = some d := by
  have hl : i.toNat < ds.length := by
    rw [List.getElem?_eq_some_iff] at h; exact h.1
  have h2 : i < (ds.length : Int) := by omega
  simp only [atD, placeN, if_pos h0, if_pos h2, Option.bind_some]; exact h
/-- what a literal stands on -/
def gt {α : Type} [Inhabited α] (xs : List α) (l : Int) : α := (xs[l.natAbs - 1]?).getD default
theorem gt_get {α : Type} [Inhabited α] (xs : List α) (l : Int) (h : 1 ≤ l.natAbs) (h2 : l.natAbs ≤ xs.length) : xs[l.natAbs - 1]? = some (gt xs l) := by
  unfold gt; rw [List.getElem?_eq_getElem (by omega)]; rfl
theorem atD_gt {α : Type} [Inhabited α] (enc : α → D) (xs : List α) (l : Int) (h : 1 ≤ l.natAbs) (h2 : l.natAbs ≤ xs.length) : atD (xs.map enc) ((l.natAbs : Int) - 1) = some (enc (gt xs l)) := by
  apply atD_of
  · omega
  · rw [show ((l.natAbs : Int) - 1).toNat = l.natAbs - 1 by omega]
    simp [gt_get xs l h h2]

theorem isTy_int_non : isTy .int (.non) = some false := rfl
theorem isTy_int_bl (x : Bool) : isTy .int (.bl x) = some true := rfl
theorem isTy_int_int (x : Int) : isTy .int (.int x) = some true := rfl
theorem isTy_int_str (x : Str) : isTy .int (.str x) = some false := rfl
theorem isTy_int_lst (x : List D) : isTy .int (.lst x) = some false := rfl
theorem isTy_int_tup (x : List D) : isTy .int (.tup x) = some false := rfl
theorem isTy_int_dct (x : List (D × D)) : isTy .int (.dct x) = some false := rfl
theorem isTy_bool_non : isTy .bool (.non) = some false := rfl
theorem isTy_bool_bl (x : Bool) : isTy .bool (.bl x) = some true := rfl
theorem isTy_bool_int (x : Int) : isTy .bool (.int x) = some false := rfl
theorem isTy_bool_str (x : Str) : isTy .bool (.str x) = some false := rfl
theorem isTy_bool_lst (x : List D) : isTy .bool (.lst x) = some false := rfl
theorem isTy_bool_tup (x : List D) : isTy .bool (.tup x) = some false := rfl
theorem isTy_bool_dct (x : List (D × D)) : isTy .bool (.dct x) = some false := rfl
theorem isTy_str_non : isTy .str (.non) = some false := rfl
theorem isTy_str_bl (x : Bool) : isTy .str (.bl x) = some false := rfl
theorem isTy_str_int (x : Int) : isTy .str (.int x) = some false := rfl
theorem isTy_str_str (x : Str) : isTy .str (.str x) = some true := rfl
theorem isTy_str_lst (x : List D) : isTy .str (.lst x) = some false := rfl
theorem isTy_str_tup (x : List D) : isTy .str (.tup x) = some false := rfl
theorem isTy_str_dct (x : List (D × D)) : isTy .str (.dct x) = some false := rfl
theorem isTy_tuple_non : isTy .tuple (.non) = some false := rfl
theorem isTy_tuple_bl (x : Bool) : isTy .tuple (.bl x) = some false := rfl
theorem isTy_tuple_int (x : Int) : isTy .tuple (.int x) = some false := rfl
theorem isTy_tuple_str (x : Str) : isTy .tuple (.str x) = some false := rfl
theorem isTy_tuple_lst (x : List D) : isTy .tuple (.lst x) = some false := rfl
theorem isTy_tuple_tup (x : List D) : isTy .tuple (.tup x) = some true := rfl
theorem isTy_tuple_dct (x : List (D × D)) : isTy .tuple (.dct x) = some false := rfl
theorem isTy_list_non : isTy .list (.non) = some false := rfl
theorem isTy_list_bl (x : Bool) : isTy .list (.bl x) = some false := rfl
theorem isTy_list_int (x : Int) : isTy .list (.int x) = some false := rfl
theorem isTy_list_str (x : Str) : isTy .list (.str x) = some false := rfl
theorem isTy_list_lst (x : List D) : isTy .list (.lst x) = some true := rfl
theorem isTy_list_tup (x : List D) : isTy .list (.tup x) = some false := rfl
theorem isTy_list_dct (x : List (D × D)) : isTy .list (.dct x) = some false := rfl
theorem isTy_dict_non : isTy .dict (.non) = some false := rfl
theorem isTy_dict_bl (x : Bool) : isTy .dict (.bl x) = some false := rfl
theorem isTy_dict_int (x : Int) : isTy .dict (.int x) = some false := rfl
theorem isTy_dict_str (x : Str) : isTy .dict (.str x) = some false := rfl
theorem isTy_dict_lst (x : List D) : isTy .dict (.lst x) = some false := rfl
theorem isTy_dict_tup (x : List D) : isTy .dict (.tup x) = some false := rfl
theorem isTy_dict_dct (x : List (D × D)) : isTy .dict (.dct x) = some true := rfl
/-! ### comprehensions -/
theorem nLc_ap (it : M (List D)) (tg : Tg) (t : M Bool) (e : M D) (vs : List Nat) (g : G) : nLc it tg t e vs g = (it g).bind fun xs => lcGo tg t e (wipeG g vs) xs [] := rfl
theorem lc_go {α : Type} (enc : α → D) (p : α → Bool) (h : α → D) {tg : Tg} {t : M Bool} {e : M D} {g : G} (l : List α) :
    (∀ x ∈ l, Ob (tg (enc x) g) fun g1 => Ob (t g1) fun b => b = p x ∧ (p x = true → Ob (e g1) fun d => d = h x)) →
    ∀ acc, acc.length + l.length ≤ lim → lcGo tg t e g (l.map enc) acc = some (acc ++ (l.filter p).map h) := by
  induction l with
  | nil => intro _ acc _; simp [lcGo]
  | cons x l ih =>
    intro H acc hl
    obtain ⟨g1, h1, b, h2, rfl, h3⟩ := H x (List.mem_cons_self)
    simp only [List.length_cons] at hl
    simp only [List.map_cons, lcGo, h1, h2, Option.bind_some]
    by_cases hp : p x = true
    · obtain ⟨d, h4, rfl⟩ := h3 hp
      rw [if_pos hp, h4, Option.bind_some, if_pos (by omega), ih (fun y hy => H y (List.mem_cons_of_mem _ hy)) _ (by simp; omega)]
      simp [List.filter_cons, hp]
    · rw [if_neg hp, ih (fun y hy => H y (List.mem_cons_of_mem _ hy)) _ (by omega)]
      simp [List.filter_cons, hp]
theorem ob_lc {α : Type} (enc : α → D) (p : α → Bool) (h : α → D) {tg : Tg} {t : M Bool} {e : M D} {g : G} {l : List α} {P : List D → Prop}
    (H : ∀ x ∈ l, Ob (tg (enc x) g) fun g1 => Ob (t g1) fun b => b = p x ∧ (p x = true → Ob (e g1) fun d => d = h x))
    (hl : l.length ≤ lim) (hP : P ((l.filter p).map h)) : Ob (lcGo tg t e g (l.map enc) []) P :=
  ⟨_, lc_go enc p h l H [] (by simpa using hl), by simpa using hP⟩
theorem ob_lcm {α : Type} (enc : α → D) (h : α → D) {tg : Tg} {t : M Bool} {e : M D} {g : G} {l : List α} {P : List D → Prop}
    (H : ∀ x ∈ l, Ob (tg (enc x) g) fun g1 => Ob (t g1) fun b => b = true ∧ Ob (e g1) fun d => d = h x)
    (hl : l.length ≤ lim) (hP : P (l.map h)) : Ob (lcGo tg t e g (l.map enc) []) P := by
  refine ob_lc enc (fun _ => true) h (fun x hx => ?_) hl ?_
  · refine ob_mono (H x hx) fun g1 h1 => ob_mono h1 fun b h2 => ⟨h2.1, fun _ => h2.2⟩
  · rw [List.filter_eq_self.mpr (fun _ _ => rfl)]; exact hP
theorem ob_lcI (p : D → Bool) (h : D → D) {tg : Tg} {t : M Bool} {e : M D} {g : G} {l : List D} {P : List D → Prop}
    (H : ∀ x ∈ l, Ob (tg x g) fun g1 => Ob (t g1) fun b => b = p x ∧ (p x = true → Ob (e g1) fun d => d = h x))
    (hl : l.length ≤ lim) (hP : P ((l.filter p).map h)) : Ob (lcGo tg t e g l []) P := by
  have e1 : l = l.map id := by simp
  rw [e1]; exact ob_lc id p h H hl hP
theorem ob_lcmI (h : D → D) {tg : Tg} {t : M Bool} {e : M D} {g : G} {l : List D} {P : List D → Prop}
    (H : ∀ x ∈ l, Ob (tg x g) fun g1 => Ob (t g1) fun b => b = true ∧ Ob (e g1) fun d => d = h x)
    (hl : l.length ≤ lim) (hP : P (l.map h)) : Ob (lcGo tg t e g l []) P := by
  have e1 : l = l.map id := by simp
  rw [e1]; exact ob_lcm id h H hl hP
theorem gT_2 (i j : Nat) (a b : D) (g : G) : gT [i, j] (.tup [a, b]) g = if i < g.length ∧ j < g.length then some ((g.set i (.dat a)).set j (.dat b)) else none := by
  simp [gT]
theorem ob_ifB {α : Type} (b : Bool) (x y : Option α) (P : α → Prop) : Ob (ifB b x y) P ↔ ((b = true → Ob x P) ∧ (b = false → Ob y P)) := by
  cases b <;> simp [ifB]
theorem pairs_zip (k : Nat) (ds : List D) : pairs k ds = (ds.zipIdx k).map fun p => .tup [.int (p.2 : Nat), p.1] := by
  induction ds generalizing k with
  | nil => rfl
  | cons d ds ih => simp only [pairs, List.zipIdx_cons, List.map_cons, ih]
theorem gN_ap (i : Nat) (d : D) (g : G) : gN i d g = if i < g.length then some (g.set i (.dat d)) else none := rfl

/-! ### statements -/
def goOn (b : S) (o : Out) : Option Out := match o with
  | .nx g1 => b g1
  | o => some o
theorem goOn_nx (b : S) (g : G) : goOn b (.nx g) = b g := rfl
theorem goOn_rt (b : S) (d : D) : goOn b (.rt d) = some (.rt d) := rfl
theorem goOn_rtO (b : S) (d : List D) : goOn b (.rtO d) = some (.rtO d) := rfl
theorem sSeq_ap (a b : S) (g : G) : sSeq a b g = (a g).bind (goOn b) := by
  unfold sSeq; congr 1
theorem sNext_ap (g : G) : sNext g = some (.nx g) := rfl
theorem sSet_ap (i : Nat) (e : M D) (g : G) : sSet i e g = (e g).bind fun d => if i < g.length then some (.nx (g.set i (.dat d))) else none := rfl
theorem sOwn_ap (i : Nat) (e : M (List D)) (g : G) : sOwn i e g = (e g).bind fun ds => if i < g.length then some (.nx (g.set i (.own ds))) else none := rfl
theorem sTgt_ap (tg : Tg) (e : M D) (g : G) : sTgt tg e g = (e g).bind fun d => (tg d g).map Out.nx := rfl
theorem sRet_ap (e : M D) (g : G) : sRet e g = (e g).map Out.rt := rfl
def retO : Option Slot → Option Out
  | some (.own ds) => some (.rtO ds)
  | _ => none
theorem retO_own (ds : List D) : retO (some (.own ds)) = some (.rtO ds) := rfl
theorem sRetO_ap (i : Nat) (g : G) : sRetO i g = retO g[i]? := by unfold sRetO retO; rfl
theorem sIf_ap (t : M Bool) (a b : S) (g : G) : sIf t a b g = (t g).bind fun x => ifB x (a g) (b g) := rfl
theorem sDrop_ap (e : M D) (g : G) : sDrop e g = (e g).map fun _ => Out.nx g := rfl
theorem sFor_ap (it : M (List D)) (tg : Tg) (body : S) (g : G) : sFor it tg body g = (it g).bind fun xs => forGo tg body xs g := rfl
def appTo (i : Nat) (g : G) (d : D) : Option Slot → Option Out
  | some (.own ds) => if ds.length < lim then some (.nx (g.set i (.own (ds ++ [d])))) else none
  | _ => none
theorem sApp_ap (i : Nat) (e : M D) (g : G) : sApp i e g = (e g).bind fun d => appTo i g d g[i]? := by
  unfold sApp; congr 1
theorem appTo_own (i : Nat) (g : G) (d : D) (ds : List D) (h : ds.length < lim) : appTo i g d (some (.own ds)) = some (.nx (g.set i (.own (ds ++ [d])))) := by
  simp [appTo, h]
theorem sParN_ap (i j : Nat) (a : M D) (b : M (List D)) (g : G) : sParN i j a b g = (a g).bind fun x => (b g).bind fun y => if i < g.length ∧ j < g.length then some (.nx ((g.set i (.dat x)).set j (.own y))) else none := rfl
theorem sParNK_ap (i j : Nat) (a : M (List D)) (g : G) : sParNK i j a g = (a g).bind fun x => if i < g.length ∧ j < g.length ∧ i ≠ j then some (.nx ((g.set i (.own x)).set j (.odc []))) else none := rfl
theorem sVia_ap (f : G → G) (s : S) (g : G) : sVia f s g = s (f g) := rfl
theorem eCall_ap (f : Fn) (a : M (List D)) (g : G) : eCall f a g = (a g).bind fun ds => (f ds).map Rt.val := rfl
theorem nCall_ap (f : Fn) (a : M (List D)) (g : G) : nCall f a g = (a g).bind fun ds => (f ds).bind fun r => match r with
  | .o es => some es
  | _ => none := rfl
def lookAt : Rt → Option D
  | .d d => if noL d then some d else none
  | _ => none
theorem eCallV_ap (f : Fn) (a : M (List D)) (g : G) : eCallV f a g = (a g).bind fun ds => (f ds).bind lookAt := by
  unfold eCallV; congr 1
theorem val_d (d : D) : Rt.val (.d d) = d := rfl
theorem val_o (d : List D) : Rt.val (.o d) = .lst d := rfl
theorem lookAt_d (d : D) (h : noL d = true) : lookAt (.d d) = some d := by simp [lookAt, h]

/-- for: a state of affairs kept from element to element -/
theorem ob_for {α : Type} (enc : α → D) (Inv : List α → G → Prop) {tg : Tg} {body : S} {l : List α} {g : G} {P : Out → Prop}
    (h0 : Inv [] g)
    (hs : ∀ pre x post g, l = pre ++ x :: post → Inv pre g → Ob (tg (enc x) g) fun g1 => Ob (body g1) fun o => ∃ g2, o = .nx g2 ∧ Inv (pre ++ [x]) g2)
    (hP : ∀ g, Inv l g → P (.nx g)) : Ob (forGo tg body (l.map enc) g) P := by
  suffices H : ∀ (post pre : List α) (g : G), l = pre ++ post → Inv pre g → ∃ g', forGo tg body (post.map enc) g = some (.nx g') ∧ Inv l g' by
    obtain ⟨g', h1, h2⟩ := H l [] g rfl h0
    exact ⟨_, h1, hP _ h2⟩
  intro post
  induction post with
  | nil => intro pre g e h; simp at e; subst e; exact ⟨g, rfl, h⟩
  | cons x post ih =>
    intro pre g e h
    obtain ⟨g1, h1, o, h2, g2, rfl, h3⟩ := hs pre x post g e h
    obtain ⟨g', h4, h5⟩ := ih (pre ++ [x]) g2 (by simp [e]) h3
    exact ⟨g', by simp only [List.map_cons, forGo, h1, h2, Option.bind_some]; exact h4, h5⟩

theorem of_fn {p n : Nat} {body : S} {ds : List D} {r : Rt} (hl : ds.length = p) (h : Ob (body (start n ds)) fun o => fin (some o) = some r) : fnR p n body ds = some r := by
  obtain ⟨o, h1, h2⟩ := h
  simp only [fnR, if_pos hl, h1, h2]
theorem ob_fn {p n : Nat} {body : S} {ds : List D} {P : Rt → Prop} (hl : ds.length = p) (h : Ob (body (start n ds)) fun o => Ob (fin (some o)) P) : Ob (fnR p n body ds) P := by
  obtain ⟨o, h1, h2⟩ := h
  simp only [fnR, if_pos hl, h1]; exact h2
theorem fin_rt (d : D) : fin (some (.rt d)) = some (.d d) := rfl
theorem fin_rtO (d : List D) : fin (some (.rtO d)) = some (.o d) := rfl
theorem fin_nx (g : G) : fin (some (.nx g)) = some (.d .non) := rfl

end DM
end
/-! Dl1 -/
section
set_option Elab.async false
set_option linter.all false
set_option maxRecDepth 100000
set_option maxHeartbeats 4000000
/-! Dl1: values stand for data; slots; the judgements over data. -/
namespace DL
open PySem PySem.Spec PyProof.Rows L2
variable {K : PySem.W.Frag}

def Sub (H H' : Hp) : Prop := ∀ a o, H a = some o → H' a = some o
theorem Sub.rfl' (H : Hp) : Sub H H := fun _ _ h => h
theorem Sub.trans {H H1 H2 : Hp} (a : Sub H H1) (b : Sub H1 H2) : Sub H H2 := fun x o h => b x o (a x o h)
theorem Sub.new {H : Hp} {p : Addr} {o : HO} (h : H p = none) : Sub H (upd H p o) := fun a u e => by
  rw [upd_ne (ne_of_none e h)]; exact e
theorem Sub.free {H H' : Hp} (s : Sub H H') {p : Addr} (h : H' p = none) : H p = none := by
  cases q : H p with
  | none => rfl
  | some o => rw [s p o q] at h; cases h
theorem Sub.updR {F H : Hp} (s : Sub F H) {p : Addr} {o : HO} (h : F p = none) : Sub F (upd H p o) := fun a u e => by
  rw [upd_ne (ne_of_none e h)]; exact s a u e

theorem sqL_sub {K : PySem.W.Frag} {F F' : Hp} (s : Sub F F') {a : Addr} {vs : List V} (h : SqL K F a vs) : SqL K F' a vs := by
  rcases h with (h | ⟨o, h⟩) | h
  · exact .inl (.inl (s _ _ h))
  · exact .inl (.inr ⟨o, s _ _ h⟩)
  · exact .inr h
def dKey : Key → D
  | .inl i => .int i
  | .inr s => .str s

mutual
inductive Rp (K : PySem.W.Frag) (F : Hp) : V → D → Prop
  | non : Rp K F .non .non
  | bl (b : Bool) : Rp K F (.bl b) (.bl b)
  | int (i : Int) : Rp K F (.int i) (.int i)
  | str (x : Str) : PySem.PyData.strOk x = true → Rp K F (.str x) (.str x)
  | lst {a : Addr} {vs : List V} {ds : List D} : F a = some (.lst vs) → RpAll K F vs ds → Rp K F (.ref a) (.lst ds)
  | tup {a : Addr} {vs : List V} {ds : List D} : F a = some (.tup vs) → RpAll K F vs ds → Rp K F (.ref a) (.tup ds)
  | dct {a : Addr} {kvs : List (Key × V)} {ds : List (D × D)} : F a = some (.dK kvs) → RpKv K F kvs ds → Rp K F (.ref a) (.dct ds)
  | scr {a : Addr} {ns : List Int} : SqL K F a (ns.map V.int) → Rp K F (.ref a) (.scr ns)
inductive RpAll (K : PySem.W.Frag) (F : Hp) : List V → List D → Prop
  | nil : RpAll K F [] []
  | cons {v : V} {vs : List V} {d : D} {ds : List D} : Rp K F v d → RpAll K F vs ds → RpAll K F (v :: vs) (d :: ds)
inductive RpKv (K : PySem.W.Frag) (F : Hp) : List (Key × V) → List (D × D) → Prop
  | nil : RpKv K F [] []
  | cons {k : Key} {v : V} {kvs : List (Key × V)} {d : D} {ds : List (D × D)} : Rp K F v d → RpKv K F kvs ds → RpKv K F ((k, v) :: kvs) ((dKey k, d) :: ds)
end

mutual
theorem Rp.mono {F F' : Hp} (s : Sub F F') : ∀ {v : V} {d : D}, Rp K F v d → Rp K F' v d
  | _, _, .non => .non
  | _, _, .bl b => .bl b
  | _, _, .int i => .int i
  | _, _, .str x h => .str x h
  | _, _, .lst h r => .lst (s _ _ h) (RpAll.mono s r)
  | _, _, .tup h r => .tup (s _ _ h) (RpAll.mono s r)
  | _, _, .dct h r => .dct (s _ _ h) (RpKv.mono s r)
  | _, _, .scr h => .scr (sqL_sub s h)
theorem RpAll.mono {F F' : Hp} (s : Sub F F') : ∀ {v : List V} {d : List D}, RpAll K F v d → RpAll K F' v d
  | _, _, .nil => .nil
  | _, _, .cons h r => .cons (Rp.mono s h) (RpAll.mono s r)
theorem RpKv.mono {F F' : Hp} (s : Sub F F') : ∀ {v : List (Key × V)} {d : List (D × D)}, RpKv K F v d → RpKv K F' v d
  | _, _, .nil => .nil
  | _, _, .cons h r => .cons (Rp.mono s h) (RpKv.mono s r)
end
theorem RpAll.len {F : Hp} : ∀ {v : List V} {d : List D}, RpAll K F v d → v.length = d.length
  | _, _, .nil => rfl
  | _, _, .cons _ r => by simp [RpAll.len r]
theorem RpAll.get {F : Hp} : ∀ {vs : List V} {ds : List D} {i : Nat} {d : D}, RpAll K F vs ds → ds[i]? = some d → ∃ v, vs[i]? = some v ∧ Rp K F v d
  | _, _, _, _, .nil, e => by simp at e
  | _, _, 0, _, .cons h _, e => by simp at e; subst e; exact ⟨_, rfl, h⟩
  | _, _, i + 1, _, .cons _ r, e => by
    obtain ⟨v, h1, h2⟩ := RpAll.get (i := i) r (by simpa using e)
    exact ⟨v, by simpa using h1, h2⟩
theorem RpAll.getV {F : Hp} {vs : List V} {ds : List D} {i : Nat} {v : V} (r : RpAll K F vs ds) (e : vs[i]? = some v) : ∃ d, ds[i]? = some d ∧ Rp K F v d := by
  have hl : i < ds.length := by
    have := r.len
    have h2 := (List.getElem?_eq_some_iff.mp e).1
    omega
  obtain ⟨w, h1, h2⟩ := r.get (List.getElem?_eq_getElem hl)
  rw [e] at h1; cases h1
  exact ⟨_, List.getElem?_eq_getElem hl, h2⟩
theorem RpAll.app {F : Hp} : ∀ {vs ws : List V} {ds es : List D}, RpAll K F vs ds → RpAll K F ws es → RpAll K F (vs ++ ws) (ds ++ es)
  | _, _, _, _, .nil, s => s
  | _, _, _, _, .cons h r, s => .cons h (RpAll.app r s)
theorem RpAll.take {F : Hp} : ∀ {vs : List V} {ds : List D} (n : Nat), RpAll K F vs ds → RpAll K F (vs.take n) (ds.take n)
  | _, _, 0, _ => .nil
  | _, _, _ + 1, .nil => .nil
  | _, _, n + 1, .cons h r => .cons h (RpAll.take n r)
theorem RpAll.drop {F : Hp} : ∀ {vs : List V} {ds : List D} (n : Nat), RpAll K F vs ds → RpAll K F (vs.drop n) (ds.drop n)
  | _, _, 0, r => r
  | _, _, _ + 1, .nil => .nil
  | _, _, n + 1, .cons _ r => RpAll.drop n r
theorem RpAll.set {F : Hp} {v : V} {d : D} (h : Rp K F v d) : ∀ {vs : List V} {ds : List D} (i : Nat), RpAll K F vs ds → RpAll K F (vs.set i v) (ds.set i d)
  | _, _, _, .nil => .nil
  | _, _, 0, .cons _ r => .cons h r
  | _, _, i + 1, .cons q r => .cons q (RpAll.set h i r)
theorem RpAll.dropLast {F : Hp} {vs : List V} {ds : List D} (r : RpAll K F vs ds) : RpAll K F vs.dropLast ds.dropLast := by
  rw [List.dropLast_eq_take, List.dropLast_eq_take, r.len]
  exact r.take _
theorem RpAll.rep {F : Hp} {vs : List V} {ds : List D} (r : RpAll K F vs ds) : ∀ n : Nat, RpAll K F (List.replicate n vs).flatten (List.replicate n ds).flatten
  | 0 => .nil
  | n + 1 => by
    rw [List.replicate_succ, List.replicate_succ, List.flatten_cons, List.flatten_cons]
    exact r.app (RpAll.rep r n)
theorem RpAll.ints {F : Hp} : ∀ (ns : List Int), RpAll K F (ns.map V.int) (ns.map D.int)
  | [] => .nil
  | n :: ns => .cons (.int n) (RpAll.ints ns)
theorem RpAll.ofInts {F : Hp} : ∀ {vs : List V} {ds : List D} {ns : List Int}, RpAll K F vs ds → ds.mapM asInt = some ns → vs = ns.map V.int ∧ ds = ns.map D.int
  | _, _, ns, .nil, e => by
    have : ns = [] := by simpa using e.symm
    subst this; exact ⟨rfl, rfl⟩
  | _, _, ns, .cons (d := d) (ds := ds) h r, e => by
    rw [List.mapM_cons] at e
    cases h with
    | int i =>
      simp only [asInt] at e
      cases q : ds.mapM asInt with
      | none => rw [q] at e; cases e
      | some ms =>
        rw [q] at e
        cases e
        obtain ⟨h1, h2⟩ := RpAll.ofInts r q
        subst h1
        exact ⟨rfl, by rw [h2]; rfl⟩
    | _ => cases e
theorem RpAll.ofBls {F : Hp} : ∀ {vs : List V} {ds : List D} {ns : List Bool}, RpAll K F vs ds → ds.mapM asBl = some ns → vs = ns.map V.bl ∧ ds = ns.map D.bl
  | _, _, ns, .nil, e => by
    have : ns = [] := by simpa using e.symm
    subst this; exact ⟨rfl, rfl⟩
  | _, _, ns, .cons (d := d) (ds := ds) h r, e => by
    rw [List.mapM_cons] at e
    cases h with
    | bl i =>
      simp only [asBl] at e
      cases q : ds.mapM asBl with
      | none => rw [q] at e; cases e
      | some ms =>
        rw [q] at e
        cases e
        obtain ⟨h1, h2⟩ := RpAll.ofBls r q
        subst h1
        exact ⟨rfl, by rw [h2]; rfl⟩
    | _ => cases e

/-- the heap and its frozen part have grown -/
structure Grow (F H F' H' : Hp) : Prop where
  h : Sub H H'
  f : Sub F' H'
  k : ∀ p o, H p = some o → F' p = F p
theorem Grow.refl {F H : Hp} (s : Sub F H) : Grow F H F H := ⟨Sub.rfl' H, s, fun _ _ _ => rfl⟩
theorem Grow.trans {F H F1 H1 F2 H2 : Hp} (a : Grow F H F1 H1) (b : Grow F1 H1 F2 H2) : Grow F H F2 H2 :=
  ⟨a.h.trans b.h, b.f, fun p o e => (b.k p o (a.h p o e)).trans (a.k p o e)⟩
theorem Grow.sub {F H F1 H1 : Hp} (a : Grow F H F1 H1) (s : Sub F H) : Sub F F1 := fun p o e => (a.k p o (s p o e)).trans e
/-- a new object, frozen at once -/
theorem Grow.new {F H : Hp} (s : Sub F H) {p : Addr} {o : HO} (h : H p = none) : Grow F H (upd F p o) (upd H p o) := by
  refine ⟨Sub.new h, fun a u e => ?_, fun q u e => ?_⟩
  · by_cases hq : a = p
    · subst hq; rw [upd_same] at e ⊢; exact e
    · rw [upd_ne hq] at e ⊢; exact s _ _ e
  · exact upd_ne (ne_of_none e h)
/-- a new object, not frozen -/
theorem Grow.newU {F H : Hp} (s : Sub F H) {p : Addr} {o : HO} (h : H p = none) : Grow F H F (upd H p o) :=
  ⟨Sub.new h, s.trans (Sub.new h), fun _ _ _ => rfl⟩
/-- what was new is frozen -/
theorem Grow.freeze {F H F1 H1 : Hp} (a : Grow F H F1 H1) {p : Addr} {o : HO} (h : H p = none) (h1 : H1 p = some o) : Grow F H (upd F1 p o) H1 := by
  refine ⟨a.h, fun q u e => ?_, fun q u e => ?_⟩
  · by_cases hq : q = p
    · subst hq; rw [upd_same] at e; cases e; exact h1
    · rw [upd_ne hq] at e; exact a.f _ _ e
  · rw [upd_ne (ne_of_none e h)]; exact a.k q u e
theorem Sub.newF {F : Hp} {p : Addr} {o : HO} (h : F p = none) : Sub F (upd F p o) := Sub.new h

/-- a value that is looked at -/
inductive Rv (K : PySem.W.Frag) (F H : Hp) : V → D → Prop
  | rp {v : V} {d : D} : Rp K F v d → Rv K F H v d
  | own {p : Addr} {vs : List V} {ds : List D} : H p = some (.lst vs) → RpAll K F vs ds → Rv K F H (.ref p) (.lst ds)
  | odc {p : Addr} {kvs : List (Key × V)} {ds : List (D × D)} : H p = some (.dK kvs) → RpKv K F kvs ds → Rv K F H (.ref p) (.dct ds)
theorem Rv.grow {F H F1 H1 : Hp} (s : Sub F H) (a : Grow F H F1 H1) {v : V} {d : D} : Rv K F H v d → Rv K F1 H1 v d
  | .rp h => .rp (h.mono (a.sub s))
  | .own h r => .own (a.h _ _ h) (r.mono (a.sub s))
  | .odc h r => .odc (a.h _ _ h) (r.mono (a.sub s))
/-- values that are looked at -/
inductive RvAll (K : PySem.W.Frag) (F H : Hp) : List V → List D → Prop
  | nil : RvAll K F H [] []
  | cons {v : V} {vs : List V} {d : D} {ds : List D} : Rv K F H v d → RvAll K F H vs ds → RvAll K F H (v :: vs) (d :: ds)
theorem RvAll.grow {F H F1 H1 : Hp} (s : Sub F H) (a : Grow F H F1 H1) : ∀ {v : List V} {d : List D}, RvAll K F H v d → RvAll K F1 H1 v d
  | _, _, .nil => .nil
  | _, _, .cons h r => .cons (h.grow s a) (RvAll.grow s a r)
theorem RpAll.look {F H : Hp} : ∀ {v : List V} {d : List D}, RpAll K F v d → RvAll K F H v d
  | _, _, .nil => .nil
  | _, _, .cons h r => .cons (.rp h) (RpAll.look r)
/-- what a looked at list is -/
theorem Rv.lst {F H : Hp} (s : Sub F H) {v : V} {ds : List D} (h : Rv K F H v (.lst ds)) : ∃ p vs, v = .ref p ∧ H p = some (.lst vs) ∧ RpAll K F vs ds := by
  cases h with
  | rp h => cases h with
    | lst h r => exact ⟨_, _, rfl, s _ _ h, r⟩
  | own h r => exact ⟨_, _, rfl, h, r⟩
theorem Rv.tup {F H : Hp} (s : Sub F H) {v : V} {ds : List D} (h : Rv K F H v (.tup ds)) : ∃ p vs, v = .ref p ∧ H p = some (.tup vs) ∧ F p = some (.tup vs) ∧ RpAll K F vs ds := by
  cases h with
  | rp h => cases h with
    | tup h r => exact ⟨_, _, rfl, s _ _ h, h, r⟩
theorem Rv.scr {F H : Hp} (s : Sub F H) {v : V} {ns : List Int} (h : Rv K F H v (.scr ns)) : ∃ p, v = .ref p ∧ SqL K H p (ns.map V.int) := by
  cases h with
  | rp h => cases h with
    | scr h => exact ⟨_, rfl, sqL_sub s h⟩
theorem Rv.dct {F H : Hp} (s : Sub F H) {v : V} {ds : List (D × D)} (h : Rv K F H v (.dct ds)) : ∃ p kvs, v = .ref p ∧ H p = some (.dK kvs) ∧ RpKv K F kvs ds := by
  cases h with
  | rp h => cases h with
    | dct h r => exact ⟨_, _, rfl, s _ _ h, r⟩
  | odc h r => exact ⟨_, _, rfl, h, r⟩
theorem Rv.int {F H : Hp} {v : V} {i : Int} (h : Rv K F H v (.int i)) : v = .int i := by
  cases h with
  | rp h => cases h; rfl
theorem Rv.bl {F H : Hp} {v : V} {i : Bool} (h : Rv K F H v (.bl i)) : v = .bl i := by
  cases h with
  | rp h => cases h; rfl
theorem Rv.non {F H : Hp} {v : V} (h : Rv K F H v .non) : v = .non := by
  cases h with
  | rp h => cases h; rfl
theorem Rv.str {F H : Hp} {v : V} {x : Str} (h : Rv K F H v (.str x)) : v = .str x ∧ PySem.PyData.strOk x = true := by
  cases h with
  | rp h => cases h with
    | str _ e => exact ⟨rfl, e⟩
theorem Rp.intV {F : Hp} {v : V} {i : Int} (h : Rp K F v (.int i)) : v = .int i := by cases h; rfl
theorem Rp.blV {F : Hp} {v : V} {i : Bool} (h : Rp K F v (.bl i)) : v = .bl i := by cases h; rfl

/-! ### slots -/
def SlotOk (K : PySem.W.Frag) (O : Addr → Option Nat) (F H : Hp) (i : Nat) (o : Option (Option V)) : Slot → Prop
  | .un => True
  | .dat d => ∃ v, o = some (some v) ∧ Rp K F v d
  | .own ds => ∃ p vs, o = some (some (.ref p)) ∧ O p = some i ∧ H p = some (.lst vs) ∧ RpAll K F vs ds
  | .odc ds => ∃ p kvs, o = some (some (.ref p)) ∧ O p = some i ∧ H p = some (.dK kvs) ∧ RpKv K F kvs ds
structure Env (K : PySem.W.Frag) (O : Addr → Option Nat) (F H : Hp) (σ : L2.St) (g : G) : Prop where
  sub : Sub F H
  len : σ.length = g.length
  at' : ∀ i s, g[i]? = some s → SlotOk K O F H i σ[i]? s
  own : ∀ p i, O p = some i → (∃ o, H p = some o) ∧ F p = none
theorem SlotOk.grow {O : Addr → Option Nat} {F H F1 H1 : Hp} (s : Sub F H) (a : Grow F H F1 H1) {i : Nat} {o : Option (Option V)} : ∀ {t : Slot}, SlotOk K O F H i o t → SlotOk K O F1 H1 i o t
  | .un, _ => trivial
  | .dat d, ⟨v, e, h⟩ => ⟨v, e, h.mono (a.sub s)⟩
  | .own ds, ⟨p, vs, e, ho, h, r⟩ => ⟨p, vs, e, ho, a.h _ _ h, r.mono (a.sub s)⟩
  | .odc ds, ⟨p, vs, e, ho, h, r⟩ => ⟨p, vs, e, ho, a.h _ _ h, r.mono (a.sub s)⟩
theorem Env.grow {O : Addr → Option Nat} {F H F1 H1 : Hp} {σ : L2.St} {g : G} (e : Env K O F H σ g) (a : Grow F H F1 H1) : Env K O F1 H1 σ g :=
  ⟨a.f, e.len, fun i s h => (e.at' i s h).grow e.sub a, fun p i h => by
    obtain ⟨⟨o, ho⟩, hf⟩ := e.own p i h
    exact ⟨⟨o, a.h _ _ ho⟩, (a.k p o ho).trans hf⟩⟩
/-- a slot gets a value that stays -/
theorem Env.set {O : Addr → Option Nat} {F H : Hp} {σ : L2.St} {g : G} (e : Env K O F H σ g) {i : Nat} (hi : i < g.length) {v : V} {d : D} (h : Rp K F v d) : Env K O F H (σ.set i (some v)) (g.set i (.dat d)) := by
  refine ⟨e.sub, by simp [e.len], fun j s hj => ?_, e.own⟩
  by_cases hij : j = i
  · subst hij
    rw [List.getElem?_set_self (by exact hi)] at hj
    cases hj
    exact ⟨v, List.getElem?_set_self (by rw [e.len]; exact hi), h⟩
  · rw [List.getElem?_set_ne (Ne.symm hij)] at hj
    rw [List.getElem?_set_ne (Ne.symm hij)]
    exact e.at' j s hj
/-- less is known of a slot -/
theorem Env.un {O : Addr → Option Nat} {F H : Hp} {σ : L2.St} {g : G} (e : Env K O F H σ g) (i : Nat) (o : Option V) : Env K O F H (σ.set i o) (g.set i .un) := by
  refine ⟨e.sub, by simp [e.len], fun j s hj => ?_, e.own⟩
  by_cases hij : j = i
  · subst hij
    by_cases hl : j < g.length
    · rw [List.getElem?_set_self hl] at hj
      cases hj; trivial
    · rw [List.getElem?_eq_none (by simp; omega)] at hj; cases hj
  · rw [List.getElem?_set_ne (Ne.symm hij)] at hj
    rw [List.getElem?_set_ne (Ne.symm hij)]
    exact e.at' j s hj
theorem Env.forget {O : Addr → Option Nat} {F H : Hp} {σ : L2.St} {g : G} (e : Env K O F H σ g) (i : Nat) : Env K O F H σ (g.set i .un) := by
  refine ⟨e.sub, by simp [e.len], fun j s hj => ?_, e.own⟩
  by_cases hij : j = i
  · subst hij
    by_cases hl : j < g.length
    · rw [List.getElem?_set_self hl] at hj
      cases hj; trivial
    · rw [List.getElem?_eq_none (by simp; omega)] at hj; cases hj
  · rw [List.getElem?_set_ne (Ne.symm hij)] at hj
    exact e.at' j s hj
theorem Env.wipe {O : Addr → Option Nat} {F H : Hp} {σ : L2.St} {g : G} (e : Env K O F H σ g) : ∀ vs : List Nat, Env K O F H (wipe σ vs) (wipeG g vs)
  | [] => e
  | v :: vs => (Env.wipe e vs).un v none
/-- the object at an own slot is changed -/
theorem Env.write {O : Addr → Option Nat} {F H : Hp} {σ : L2.St} {g : G} (e : Env K O F H σ g) {i : Nat} {p : Addr} {o : HO} {s : Slot} (hp : O p = some i) (hs : SlotOk K O F (upd H p o) i σ[i]? s) : Env K O F (upd H p o) σ (g.set i s) := by
  refine ⟨e.sub.updR (e.own p i hp).2, by simp [e.len], fun j t hj => ?_, fun q j hq => ⟨?_, (e.own q j hq).2⟩⟩
  · by_cases hij : j = i
    · subst hij
      by_cases hl : j < g.length
      · rw [List.getElem?_set_self hl] at hj
        cases hj; exact hs
      · rw [List.getElem?_eq_none (by simp; omega)] at hj; cases hj
    · rw [List.getElem?_set_ne (Ne.symm hij)] at hj
      have h := e.at' j t hj
      have ne : ∀ q, O q = some j → q ≠ p := fun q hq z => by
        rw [z, hp] at hq
        exact hij (Option.some.inj hq).symm
      cases t with
      | un => trivial
      | dat d => exact h
      | own ds =>
        obtain ⟨q, vs, e1, e2, e3, e4⟩ := h
        exact ⟨q, vs, e1, e2, by rw [upd_ne (ne q e2)]; exact e3, e4⟩
      | odc ds =>
        obtain ⟨q, vs, e1, e2, e3, e4⟩ := h
        exact ⟨q, vs, e1, e2, by rw [upd_ne (ne q e2)]; exact e3, e4⟩
  · by_cases hqp : q = p
    · subst hqp; exact ⟨_, upd_same⟩
    · rw [upd_ne hqp]; exact (e.own q j hq).1
/-- a new object becomes slot i's own -/
def claim (O : Addr → Option Nat) (p : Addr) (i : Nat) : Addr → Option Nat := fun q => if q = p then some i else O q
theorem Env.take {O : Addr → Option Nat} {F H : Hp} {σ : L2.St} {g : G} (e : Env K O F H σ g) {i : Nat} (hi : i < g.length) {p : Addr} {s : Slot} {o : HO} (hp : H p = some o) (hf : F p = none) (ho : O p = none)
    (hs : SlotOk K (claim O p i) F H i (some (some (.ref p))) s) : Env K (claim O p i) F H (σ.set i (some (.ref p))) (g.set i s) := by
  refine ⟨e.sub, by simp [e.len], fun j t hj => ?_, fun q j hq => ?_⟩
  · by_cases hij : j = i
    · subst hij
      rw [List.getElem?_set_self (by exact hi)] at hj
      cases hj
      rw [List.getElem?_set_self (by rw [e.len]; exact hi)]
      exact hs
    · rw [List.getElem?_set_ne (Ne.symm hij)] at hj
      rw [List.getElem?_set_ne (Ne.symm hij)]
      have h := e.at' j t hj
      have ne : ∀ q, O q = some j → claim O p i q = some j := fun q hq => by
        unfold claim
        rw [if_neg (fun z => by rw [z, ho] at hq; cases hq)]
        exact hq
      cases t with
      | un => trivial
      | dat d => exact h
      | own ds =>
        obtain ⟨q, vs, e1, e2, e3, e4⟩ := h
        exact ⟨q, vs, e1, ne q e2, e3, e4⟩
      | odc ds =>
        obtain ⟨q, vs, e1, e2, e3, e4⟩ := h
        exact ⟨q, vs, e1, ne q e2, e3, e4⟩
  · unfold claim at hq
    by_cases hqp : q = p
    · subst hqp; exact ⟨⟨o, hp⟩, hf⟩
    · rw [if_neg hqp] at hq; exact e.own q j hq
/-- an own object becomes a value that stays -/
theorem Env.freeze {O : Addr → Option Nat} {F H : Hp} {σ : L2.St} {g : G} (e : Env K O F H σ g) {i : Nat} {p : Addr} {o : HO} {d : D} (hp : O p = some i) (hh : H p = some o) (hσ : σ[i]? = some (some (.ref p)))
    (hd : Rp K (upd F p o) (.ref p) d) : Env K (fun q => if q = p then none else O q) (upd F p o) H σ (g.set i (.dat d)) := by
  have hf := (e.own p i hp).2
  have hs : Sub F (upd F p o) := Sub.new hf
  refine ⟨fun q u hq => ?_, by simp [e.len], fun j t hj => ?_, fun q j hq => ?_⟩
  · by_cases hqp : q = p
    · subst hqp; rw [upd_same] at hq; cases hq; exact hh
    · rw [upd_ne hqp] at hq; exact e.sub q u hq
  · by_cases hij : j = i
    · subst hij
      by_cases hl : j < g.length
      · rw [List.getElem?_set_self hl] at hj
        cases hj
        exact ⟨_, hσ, hd⟩
      · rw [List.getElem?_eq_none (by simp; omega)] at hj; cases hj
    · rw [List.getElem?_set_ne (Ne.symm hij)] at hj
      have h := e.at' j t hj
      have ne : ∀ q, O q = some j → (if q = p then none else O q) = some j := fun q hq => by
        rw [if_neg (fun z => by rw [z, hp] at hq; exact hij (Option.some.inj hq).symm)]
        exact hq
      cases t with
      | un => trivial
      | dat d =>
        obtain ⟨v, e1, e2⟩ := h
        exact ⟨v, e1, e2.mono hs⟩
      | own ds =>
        obtain ⟨q, vs, e1, e2, e3, e4⟩ := h
        exact ⟨q, vs, e1, ne q e2, e3, e4.mono hs⟩
      | odc ds =>
        obtain ⟨q, vs, e1, e2, e3, e4⟩ := h
        exact ⟨q, vs, e1, ne q e2, e3, e4.mono hs⟩
  · have hqp : q ≠ p := fun z => by rw [z, if_pos rfl] at hq; cases hq
    rw [if_neg hqp] at hq
    rw [upd_ne hqp]
    exact e.own q j hq

/-- what stood at the def's entry stands; Fl: what was frozen at some earlier point stays so -/
structure Old (H0 F0 Fl : Hp) (O : Addr → Option Nat) (F H : Hp) : Prop where
  h : Sub H0 H
  k : ∀ p o, H0 p = some o → F p = F0 p
  n : ∀ p i, O p = some i → H0 p = none
  fl : Sub Fl F
theorem Old.grow {H0 F0 Fl : Hp} {O : Addr → Option Nat} {F H F1 H1 : Hp} (x : Old H0 F0 Fl O F H) (s : Sub F H) (a : Grow F H F1 H1) : Old H0 F0 Fl O F1 H1 :=
  ⟨x.h.trans a.h, fun p o e => (a.k p o (x.h p o e)).trans (x.k p o e), x.n, x.fl.trans (a.sub s)⟩
theorem Old.gr {H0 F0 Fl : Hp} {O : Addr → Option Nat} {F H : Hp} (x : Old H0 F0 Fl O F H) (s : Sub F H) : Grow F0 H0 F H := ⟨x.h, s, x.k⟩

/-! ### judgements -/
/-- an expression: the value may be kept -/
def tD (K : PySem.W.Frag) (f : M D) : TE := fun σ H Q => ∃ g F O d, Env K O F H σ g ∧ f g = some d ∧ ∀ v F' H', Grow F H F' H' → Rp K F' v d → Q v H'
/-- .. is looked at -/
def tW (K : PySem.W.Frag) (f : M D) : TE := fun σ H Q => ∃ g F O d, Env K O F H σ g ∧ f g = some d ∧ ∀ v F' H', Grow F H F' H' → Rv K F' H' v d → Q v H'
/-- a new list -/
def tN (K : PySem.W.Frag) (f : M (List D)) : TE := fun σ H Q => ∃ g F O ds, Env K O F H σ g ∧ f g = some ds ∧ ∀ p vs F' H', Grow F H F' H' → H p = none → F' p = none → H' p = some (.lst vs) → RpAll K F' vs ds → Q (.ref p) H'
def tA (K : PySem.W.Frag) (f : M (List D)) : TA := fun σ H Q => ∃ g F O ds, Env K O F H σ g ∧ f g = some ds ∧ ∀ vs F' H', Grow F H F' H' → RpAll K F' vs ds → Q vs H'
/-- arguments that are looked at -/
def tAW (K : PySem.W.Frag) (f : M (List D)) : TA := fun σ H Q => ∃ g F O ds, Env K O F H σ g ∧ f g = some ds ∧ ∀ vs F' H', Grow F H F' H' → RvAll K F' H' vs ds → Q vs H'
def tT (K : PySem.W.Frag) (f : M Bool) : TT := fun σ H Q => ∃ g F O b, Env K O F H σ g ∧ f g = some b ∧ ∀ F' H', Grow F H F' H' → Q b H'
def tO (K : PySem.W.Frag) (f : M (Option Int)) : TO := fun σ H Q => ∃ g F O b, Env K O F H σ g ∧ f g = some b ∧ ∀ F' H', Grow F H F' H' → Q b H'

section
variable {X : Cx}
theorem _root_.L2.PE.to {e : Expr} {t t' : TE} (h : PE X e t) (i : ∀ σ H Q, t' σ H Q → t σ H Q) : PE X e t' := ⟨fun pins s σ H Q I hw => h.run pins s σ H Q I (i σ H Q hw)⟩
theorem _root_.L2.PT.to {e : Expr} {t t' : TT} (h : PT X e t) (i : ∀ σ H Q, t' σ H Q → t σ H Q) : PT X e t' := ⟨fun pins s σ H Q I hw => h.run pins s σ H Q I (i σ H Q hw)⟩
theorem _root_.L2.PW.to {e : Expr} {t t' : TT} (h : PW X e t) (i : ∀ σ H Q, t' σ H Q → t σ H Q) : PW X e t' := ⟨fun w pins s σ H Q I hw => h.run w pins s σ H Q I (i σ H Q hw)⟩
theorem _root_.L2.PTs.to {e : List Expr} {t t' : TT} (h : PTs X e t) (i : ∀ σ H Q, t' σ H Q → t σ H Q) : PTs X e t' := ⟨fun pins s σ H Q I hw => h.run pins s σ H Q I (i σ H Q hw)⟩
theorem _root_.L2.PA.to {e : List Expr} {t t' : TA} (h : PA X e t) (i : ∀ σ H Q, t' σ H Q → t σ H Q) : PA X e t' := ⟨fun p pins s σ H Q I hw => h.run p pins s σ H Q I (i σ H Q hw)⟩
theorem _root_.L2.PS.to {e : Stmt} {t t' : TS} (h : PS X e t) (i : ∀ D σ H, t' D σ H → t D σ H) : PS X e t' := ⟨fun pins s σ H D I hw => h.run pins s σ H D I (i D σ H hw)⟩
theorem _root_.L2.PSs.to {e : List Stmt} {t t' : TS} (h : PSs X e t) (i : ∀ D σ H, t' D σ H → t D σ H) : PSs X e t' := ⟨fun pins s σ H D I hw => h.run pins s σ H D I (i D σ H hw)⟩
theorem _root_.L2.PI.to {tg e : Expr} {t t' : TI} (h : PI X tg e t) (i : ∀ σ H R, t' σ H R → t σ H R) : PI X tg e t' := ⟨fun pins s σ H R I hw => h.run pins s σ H R I (i σ H R hw)⟩
theorem _root_.L2.PG.to {tg : Expr} {t t' : TG} (h : PG X tg t) (i : ∀ v σ H Q, t' v σ H Q → t v σ H Q) : PG X tg t' := ⟨fun pins s σ H v u Q I r hw => h.run pins s σ H v u Q I r (i v σ H Q hw)⟩
theorem _root_.L2.PO.to {e : Option Expr} {t t' : TO} (h : PO X e t) (i : ∀ σ H Q, t' σ H Q → t σ H Q) : PO X e t' := ⟨fun pins s σ H Q I hw => h.run pins s σ H Q I (i σ H Q hw)⟩
end
end DL
end
/-! Dl2 -/
section
set_option Elab.async false
set_option linter.all false
set_option maxRecDepth 100000
set_option maxHeartbeats 4000000
/-! Dl2: expressions and tests over data. -/
namespace DL
open PySem PySem.Spec PyProof.Rows L2
variable {K : PySem.W.Frag}

theorem bindS {α β : Type} {o : Option α} {f : α → Option β} {b : β} (h : o.bind f = some b) : ∃ a, o = some a ∧ f a = some b := by
  cases o with
  | none => cases h
  | some a => exact ⟨a, rfl, h⟩
theorem mapS {α β : Type} {o : Option α} {f : α → β} {b : β} (h : o.map f = some b) : ∃ a, o = some a ∧ f a = b := by
  cases o with
  | none => cases h
  | some a => exact ⟨a, rfl, Option.some.inj h⟩
theorem RpAll.emp {F : Hp} {vs : List V} {ds : List D} (r : RpAll K F vs ds) : vs.isEmpty = ds.isEmpty := by
  cases r <;> rfl
theorem lim_is : lim = sizeLine := by decide +kernel

section
variable {X : Cx} {a b c e : Expr} {pos : Pos} {fa fb fc : M D}

/-! ### from one judgement to another -/
theorem wOf (h : PE X e (tD K fa)) : PE X e (tW K fa) := h.to fun σ H Q ⟨g, F, O, d, E, hd, q⟩ => ⟨g, F, O, d, E, hd, fun v F' H' G R => q v F' H' G (.rp R)⟩
theorem dOfN {f : M (List D)} (h : PE X e (tN K f)) : PE X e (tD K (eL f)) := h.to fun σ H Q ⟨g, F, O, d, E, hd, q⟩ => by
  obtain ⟨ds, h1, h2⟩ := bindS hd
  cases h2
  refine ⟨g, F, O, ds, E, h1, fun p vs F' H' G hp hf hh R => q _ (upd F' p (.lst vs)) H' (G.freeze hp hh) (.lst upd_same (R.mono (Sub.new hf)))⟩
theorem wOfN {f : M (List D)} (h : PE X e (tN K f)) : PE X e (tW K (eL f)) := wOf (dOfN h)

/-! ### names, constants -/
theorem dn (i : Nat) {x : Str} (hN : X.N[i]? = some x := by rfl) (hv : Vis X.env.scope x := by first | exact Or.inl rfl | exact Or.inr (Or.inl rfl) | exact Or.inr (Or.inr rfl)) (hd : (x == ("__debug__" : Str)) = false := by decide)
    (hcd : (x == ("__classdict__" : Str)) = false := by decide) : PE X (.Name x pos) (tD K (eN i)) := (pe_var hN hv hd hcd).to fun σ H Q ⟨g, F, O, d, E, hd, q⟩ => by
  unfold eN at hd
  split at hd
  · rename_i d' hg
    cases hd
    obtain ⟨v, e1, e2⟩ := E.at' i _ hg
    exact ⟨v, e1, q v F H (Grow.refl E.sub) e2⟩
  · cases hd
theorem wn (i : Nat) {x : Str} (hN : X.N[i]? = some x := by rfl) (hv : Vis X.env.scope x := by first | exact Or.inl rfl | exact Or.inr (Or.inl rfl) | exact Or.inr (Or.inr rfl)) (hd : (x == ("__debug__" : Str)) = false := by decide)
    (hcd : (x == ("__classdict__" : Str)) = false := by decide) : PE X (.Name x pos) (tW K (eV i)) := (pe_var hN hv hd hcd).to fun σ H Q ⟨g, F, O, d, E, hd, q⟩ => by
  unfold eV at hd
  split at hd
  · rename_i d' hg
    cases hd
    obtain ⟨v, e1, e2⟩ := E.at' i _ hg
    exact ⟨v, e1, q v F H (Grow.refl E.sub) (.rp e2)⟩
  · rename_i d' hg
    cases hd
    obtain ⟨p, vs, e1, e2, e3, e4⟩ := E.at' i _ hg
    exact ⟨_, e1, q _ F H (Grow.refl E.sub) (.own e3 e4)⟩
  · rename_i d' hg
    cases hd
    obtain ⟨p, vs, e1, e2, e3, e4⟩ := E.at' i _ hg
    exact ⟨_, e1, q _ F H (Grow.refl E.sub) (.odc e3 e4)⟩
  · cases hd
theorem cOf {v : V} {d : D} (h : PE X e (tC v)) (r : ∀ F : Hp, Rp K F v d) : PE X e (tD K (eC d)) := h.to fun σ H Q ⟨g, F, O, d', E, hd, q⟩ => by
  cases hd
  exact q v F H (Grow.refl E.sub) (r F)
theorem cInt {i : Int} {j} : PE X (.Constant (.int i) j pos) (tD K (eC (.int i))) := cOf pe_int fun _ => .int i
theorem cBl {i : Bool} {j} : PE X (.Constant (.bool i) j pos) (tD K (eC (.bl i))) := cOf pe_bl fun _ => .bl i
theorem cNon {j} : PE X (.Constant .none j pos) (tD K (eC .non)) := cOf pe_non fun _ => .non
theorem cStr {x : Str} {j} (h : PySem.PyData.strOk x = true := by decide +kernel) : PE X (.Constant (.str x) j pos) (tD K (eC (.str x))) := cOf pe_str fun _ => .str x h
/-- a constant of the module: an int -/
theorem cGlob {x : Str} {i : Int} {t : Tok} (hg : Gl X x) (hm : X.mg x = some (.int i t)) (hd : (x == ("__debug__" : Str)) = false := by decide) : PE X (.Name x pos) (tD K (eC (.int i))) :=
  cOf (pe_glob (v := .int i) hg hm ⟨t, rfl⟩ hd) fun _ => .int i

/-! ### operations on values -/
def Op2 (K : PySem.W.Frag) (r : R2) (op : D → D → Option D) : Prop := ∀ (F H : Hp) (x y : D) (v w : V) (z : D) (Q : VK), Sub F H → Rv K F H v x → Rv K F H w y → op x y = some z → (∀ u F' H', Grow F H F' H' → Rp K F' u z → Q u H') → r v w H Q
def Op2N (K : PySem.W.Frag) (r : R2) (op : D → D → Option (List D)) : Prop := ∀ (F H : Hp) (x y : D) (v w : V) (z : List D) (Q : VK), Sub F H → Rv K F H v x → Rv K F H w y → op x y = some z → (∀ p vs F' H', Grow F H F' H' → H p = none → F' p = none → H' p = some (.lst vs) → RpAll K F' vs z → Q (.ref p) H') → r v w H Q
def Op1 (K : PySem.W.Frag) (r : V → Hp → VK → Prop) (op : D → Option D) : Prop := ∀ (F H : Hp) (x : D) (v : V) (z : D) (Q : VK), Sub F H → Rv K F H v x → op x = some z → (∀ u F' H', Grow F H F' H' → Rp K F' u z → Q u H') → r v H Q
def OpA (K : PySem.W.Frag) (r : List V → Hp → VK → Prop) (op : List D → Option D) : Prop := ∀ (F H : Hp) (xs : List D) (vs : List V) (z : D) (Q : VK), Sub F H → RvAll K F H vs xs → op xs = some z → (∀ u F' H', Grow F H F' H' → Rp K F' u z → Q u H') → r vs H Q
def OpAN (K : PySem.W.Frag) (r : List V → Hp → VK → Prop) (op : List D → Option (List D)) : Prop := ∀ (F H : Hp) (xs : List D) (vs : List V) (z : List D) (Q : VK), Sub F H → RvAll K F H vs xs → op xs = some z →
  (∀ p us F' H', Grow F H F' H' → H p = none → F' p = none → H' p = some (.lst us) → RpAll K F' us z → Q (.ref p) H') → r vs H Q

theorem run2 {r : R2} {op : D → D → Option D} (h : Op2 K r op) : ∀ σ H Q, tD K (e2 op fa fb) σ H Q → tOp r (tW K fa) (tW K fb) σ H Q := fun σ H Q ⟨g, F, O, d, E, hd, q⟩ => by
  obtain ⟨x, hx, hd⟩ := bindS hd
  obtain ⟨y, hy, hd⟩ := bindS hd
  exact ⟨g, F, O, x, E, hx, fun v F1 H1 G1 R1 => ⟨g, F1, O, y, E.grow G1, hy, fun w F2 H2 G2 R2 => h F2 H2 x y v w d Q G2.f (R1.grow G1.f G2) R2 hd fun u F3 H3 G3 R3 => q u F3 H3 ((G1.trans G2).trans G3) R3⟩⟩
theorem run2N {r : R2} {op : D → D → Option (List D)} (h : Op2N K r op) : ∀ σ H Q, tN K (fun g => (fa g).bind fun x => (fb g).bind fun y => op x y) σ H Q → tOp r (tW K fa) (tW K fb) σ H Q := fun σ H Q ⟨g, F, O, d, E, hd, q⟩ => by
  obtain ⟨x, hx, hd⟩ := bindS hd
  obtain ⟨y, hy, hd⟩ := bindS hd
  exact ⟨g, F, O, x, E, hx, fun v F1 H1 G1 R1 => ⟨g, F1, O, y, E.grow G1, hy, fun w F2 H2 G2 R2 => h F2 H2 x y v w d Q G2.f (R1.grow G1.f G2) R2 hd fun p us F3 H3 G3 hp hf hh R3 =>
    q p us F3 H3 ((G1.trans G2).trans G3) (Sub.free (G1.h.trans G2.h) hp) hf hh R3⟩⟩
theorem run1 {r : V → Hp → VK → Prop} {op : D → Option D} (h : Op1 K r op) : ∀ σ H Q, tD K (e1 op fa) σ H Q → tUn r (tW K fa) σ H Q := fun σ H Q ⟨g, F, O, d, E, hd, q⟩ => by
  obtain ⟨x, hx, hd⟩ := bindS hd
  exact ⟨g, F, O, x, E, hx, fun v F1 H1 G1 R1 => h F1 H1 x v d Q G1.f R1 hd fun u F3 H3 G3 R3 => q u F3 H3 (G1.trans G3) R3⟩
theorem runA {r : List V → Hp → VK → Prop} {op : List D → Option D} {f : M (List D)} (h : OpA K r op) : ∀ σ H Q, tD K (eApp op f) σ H Q → tCB r (tAW K f) σ H Q := fun σ H Q ⟨g, F, O, d, E, hd, q⟩ => by
  obtain ⟨x, hx, hd⟩ := bindS hd
  exact ⟨g, F, O, x, E, hx, fun v F1 H1 G1 R1 => h F1 H1 x v d Q G1.f R1 hd fun u F3 H3 G3 R3 => q u F3 H3 (G1.trans G3) R3⟩
theorem runAN {r : List V → Hp → VK → Prop} {op : List D → Option (List D)} {f : M (List D)} (h : OpAN K r op) : ∀ σ H Q, tN K (fun g => (f g).bind op) σ H Q → tCB r (tAW K f) σ H Q := fun σ H Q ⟨g, F, O, d, E, hd, q⟩ => by
  obtain ⟨x, hx, hd⟩ := bindS hd
  exact ⟨g, F, O, x, E, hx, fun v F1 H1 G1 R1 => h F1 H1 x v d Q G1.f R1 hd fun p us F3 H3 G3 hp hf hh R3 => q p us F3 H3 (G1.trans G3) (Sub.free G1.h hp) hf hh R3⟩

/-! ### argument lists, displays -/
theorem aNil : PA X [] (tA K aN) := pa_nil.to fun σ H Q ⟨g, F, O, d, E, hd, q⟩ => by
  cases hd
  exact q [] F H (Grow.refl E.sub) .nil
theorem aCons {es : List Expr} {f : M D} {fr : M (List D)} (ha : PE X e (tD K f)) (hr : PA X es (tA K fr)) (hs : starEach (e :: es) X.env = (false, eval e X.env) :: starEach es X.env := by rfl) : PA X (e :: es) (tA K (aC f fr)) :=
  (pa_cons ha hr hs).to fun σ H Q ⟨g, F, O, d, E, hd, q⟩ => by
    obtain ⟨x, hx, hd⟩ := bindS hd
    obtain ⟨xs, hxs, hd⟩ := bindS hd
    cases hd
    exact ⟨g, F, O, x, E, hx, fun v F1 H1 G1 R1 => ⟨g, F1, O, xs, E.grow G1, hxs, fun vs F2 H2 G2 R2 => q _ F2 H2 (G1.trans G2) (.cons (R1.mono (G2.sub G1.f)) R2)⟩⟩
theorem wNil : PA X [] (tAW K aN) := pa_nil.to fun σ H Q ⟨g, F, O, d, E, hd, q⟩ => by
  cases hd
  exact q [] F H (Grow.refl E.sub) .nil
theorem wCons {es : List Expr} {f : M D} {fr : M (List D)} (ha : PE X e (tW K f)) (hr : PA X es (tAW K fr)) (hs : starEach (e :: es) X.env = (false, eval e X.env) :: starEach es X.env := by rfl) : PA X (e :: es) (tAW K (aC f fr)) :=
  (pa_cons ha hr hs).to fun σ H Q ⟨g, F, O, d, E, hd, q⟩ => by
    obtain ⟨x, hx, hd⟩ := bindS hd
    obtain ⟨xs, hxs, hd⟩ := bindS hd
    cases hd
    exact ⟨g, F, O, x, E, hx, fun v F1 H1 G1 R1 => ⟨g, F1, O, xs, E.grow G1, hxs, fun vs F2 H2 G2 R2 => q _ F2 H2 (G1.trans G2) (.cons (R1.grow G1.f G2) R2)⟩⟩
theorem dTup {es : List Expr} {k : Nat} {f : M (List D)} (h : PA X es (tA K f)) : PE X (.Tuple es k pos) (tD K (eTup f)) := (pe_tup h).to fun σ H Q ⟨g, F, O, d, E, hd, q⟩ => by
  obtain ⟨xs, hx, hd⟩ := bindS hd
  split at hd
  · rename_i hl
    cases hd
    refine ⟨g, F, O, xs, E, hx, fun vs F1 H1 G1 R1 => ⟨by rw [R1.len, ← lim_is]; exact hl, fun p hp => ?_⟩⟩
    exact q _ _ _ (G1.trans (Grow.new G1.f hp)) (.tup upd_same (R1.mono (Sub.new (Sub.free G1.f hp))))
  · cases hd
theorem nLstD {es : List Expr} {f : M (List D)} (h : PA X es (tA K f)) : PE X (.List es pos) (tN K (nLst f)) := (pe_lst h).to fun σ H Q ⟨g, F, O, d, E, hd, q⟩ => by
  obtain ⟨xs, hx, hd⟩ := bindS hd
  split at hd
  · rename_i hl
    cases hd
    refine ⟨g, F, O, d, E, hx, fun vs F1 H1 G1 R1 => ⟨by rw [R1.len, ← lim_is]; exact hl, fun p hp => ?_⟩⟩
    exact q p vs F1 _ (G1.trans (Grow.newU G1.f hp)) (Sub.free G1.h hp) (Sub.free G1.f hp) upd_same R1
  · cases hd

/-! ### operators -/
theorem OpR.or {f : Value → Value → Sem Value} {r r' : R2} (h : OpR X f r) (h' : OpR X f r') : OpR X f (fun x y H Q => r x y H Q ∨ r' x y H Q) := fun pins s σ H x y v u Q I rx ry hr => by
  rcases hr with hr | hr
  · exact h pins s σ H x y v u Q I rx ry hr
  · exact h' pins s σ H x y v u Q I rx ry hr
theorem dBin {op : Operator} {r : R2} {o : D → D → Option D} (ho : OpR X (binaryOp op) r) (h : Op2 K r o) (ha : PE X a (tW K fa)) (hb : PE X b (tW K fb)) : PE X (.BinOp a op b pos) (tD K (e2 o fa fb)) := (pe_op ho ha hb).to (run2 h)
theorem nBin {op : Operator} {r : R2} {o : D → D → Option (List D)} (ho : OpR X (binaryOp op) r) (h : Op2N K r o) (ha : PE X a (tW K fa)) (hb : PE X b (tW K fb)) : PE X (.BinOp a op b pos) (tN K (fun g => (fa g).bind fun x => (fb g).bind fun y => o x y)) := (pe_op ho ha hb).to (run2N h)
theorem dCmp {op : CmpOp} {r : R2} {o : D → D → Option D} (ho : OpR X (compareOp op) r) (h : Op2 K r o) (ha : PE X a (tW K fa)) (hb : PE X b (tW K fb)) (hm : behindInMarks op b = false) : PE X (.Compare a [op] [b] pos) (tD K (e2 o fa fb)) := (pe_cmpR ho ha hb hm).to (run2 h)
theorem dUn {op : UnaryOp} {r : V → Hp → VK → Prop} {o : D → Option D} (ho : UnR X (unaryOp op) r) (h : Op1 K r o) (ha : PE X a (tW K fa)) : PE X (.UnaryOp op a pos) (tD K (e1 o fa)) := (pe_un ho ha).to (run1 h)
theorem dIxE {r : R2} {o : D → D → Option D} (ho : IxR X r) (h : Op2 K r o) (ha : PE X a (tW K fa)) (hb : PE X b (tW K fb)) (hs : PlainIx b) : PE X (.Subscript a b pos) (tD K (e2 o fa fb)) := (pe_ix ho ha hb hs).to (run2 h)
theorem dCallB {x : Str} {id : String} {r : List V → Hp → VK → Prop} {o : List D → Option D} {es : List Expr} {f : M (List D)} {p : Pos} (hc : CallR X (.builtin id) r) (h : OpA K r o) (hg : Gl X x) (hm : X.mg x = none) (hv : bootBuiltins x = some (.builtin id)) (ha : PA X (e :: es) (tAW K f))
    (hn : x ≠ "__name__" := by decide) (hdb : (x == ("__debug__" : Str)) = false := by decide) (he : starEach (e :: es) X.env = (false, eval e X.env) :: starEach es X.env := by rfl) (hpl : (backTo pos (starEach es X.env)).any (·.1) = false := by rfl) :
    PE X (.Call (.Name x p) (e :: es) [] pos) (tD K (eApp o f)) := (pe_callB hc hg hm hv ha hn hdb he hpl).to (runA h)
theorem dCallTy {x : Str} {T : String} {r : List V → Hp → VK → Prop} {o : List D → Option D} {es : List Expr} {f : M (List D)} {p : Pos} (hc : CallR X (.type T) r) (h : OpA K r o) (hg : Gl X x) (hm : X.mg x = none) (hv : bootBuiltins x = some (.type T)) (ha : PA X (e :: es) (tAW K f))
    (hn : x ≠ "__name__" := by decide) (hdb : (x == ("__debug__" : Str)) = false := by decide) (he : starEach (e :: es) X.env = (false, eval e X.env) :: starEach es X.env := by rfl) (hpl : (backTo pos (starEach es X.env)).any (·.1) = false := by rfl) :
    PE X (.Call (.Name x p) (e :: es) [] pos) (tD K (eApp o f)) := (pe_callTy hc hg hm hv ha hn hdb he hpl).to (runA h)
theorem nCallB {x : Str} {id : String} {r : List V → Hp → VK → Prop} {o : List D → Option (List D)} {es : List Expr} {f : M (List D)} {p : Pos} (hc : CallR X (.builtin id) r) (h : OpAN K r o) (hg : Gl X x) (hm : X.mg x = none) (hv : bootBuiltins x = some (.builtin id)) (ha : PA X (e :: es) (tAW K f))
    (hn : x ≠ "__name__" := by decide) (hdb : (x == ("__debug__" : Str)) = false := by decide) (he : starEach (e :: es) X.env = (false, eval e X.env) :: starEach es X.env := by rfl) (hpl : (backTo pos (starEach es X.env)).any (·.1) = false := by rfl) :
    PE X (.Call (.Name x p) (e :: es) [] pos) (tN K (fun g => (f g).bind o)) := (pe_callB hc hg hm hv ha hn hdb he hpl).to (runAN h)
theorem nCallTy {x : Str} {T : String} {r : List V → Hp → VK → Prop} {o : List D → Option (List D)} {es : List Expr} {f : M (List D)} {p : Pos} (hc : CallR X (.type T) r) (h : OpAN K r o) (hg : Gl X x) (hm : X.mg x = none) (hv : bootBuiltins x = some (.type T)) (ha : PA X (e :: es) (tAW K f))
    (hn : x ≠ "__name__" := by decide) (hdb : (x == ("__debug__" : Str)) = false := by decide) (he : starEach (e :: es) X.env = (false, eval e X.env) :: starEach es X.env := by rfl) (hpl : (backTo pos (starEach es X.env)).any (·.1) = false := by rfl) :
    PE X (.Call (.Name x p) (e :: es) [] pos) (tN K (fun g => (f g).bind o)) := (pe_callTy hc hg hm hv ha hn hdb he hpl).to (runAN h)

/-! ### tests -/
section
variable {ta tb : M Bool}
theorem teV (h : PE X e (tD K fa)) (he : ∀ whole, isTrue e X.env whole = (do let v ← whole; standAt e.pos; holding [v] (truthy v)) := by intro _; rfl) : PT X e (tT K (tV fa)) := (pt_val h he).to fun σ H Q ⟨g, F, O, d, E, hd, q⟩ => by
  obtain ⟨x, hx, hd⟩ := bindS hd
  cases x <;> first | cases hd | skip
  exact ⟨g, F, O, _, E, hx, fun v F1 H1 G1 R1 => ⟨_, R1.blV, q F1 H1 G1⟩⟩
theorem teCmp {op : CmpOp} {r : R2} {o : D → D → Option D} (ho : OpR X (compareOp op) r) (h : Op2 K r o) (ha : PE X a (tW K fa)) (hb : PE X b (tW K fb)) (hm : behindInMarks op b = false) : PT X (.Compare a [op] [b] pos) (tT K (tV (e2 o fa fb))) :=
  (pt_cmpR ho ha hb hm).to fun σ H Q ⟨g, F, O, d, E, hd, q⟩ => by
    obtain ⟨x, hx, hd⟩ := bindS hd
    cases x <;> first | cases hd | skip
    exact run2 h σ H _ ⟨g, F, O, _, E, hx, fun v F1 H1 G1 R1 => ⟨_, R1.blV, q F1 H1 G1⟩⟩
theorem teNot (h : PT X e (tT K ta)) : PT X (.UnaryOp .Not e pos) (tT K (tNot ta)) := (pt_not h).to fun σ H Q ⟨g, F, O, d, E, hd, q⟩ => by
  obtain ⟨x, hx, hd⟩ := bindS hd
  cases hd
  exact ⟨g, F, O, x, E, hx, q⟩
theorem twAnd1 (h : PT X a (tT K ta)) : PW X (.BoolOp .And [a] pos) (tT K ta) := pw_and1 h
theorem twOr1 (h : PT X a (tT K ta)) : PW X (.BoolOp .Or [a] pos) (tT K ta) := pw_or1 h
theorem twAnd {rest : List Expr} (ha : PT X a (tT K ta)) (hb : PW X (.BoolOp .And (b :: rest) pos) (tT K tb)) : PW X (.BoolOp .And (a :: b :: rest) pos) (tT K (tAnd ta tb)) := (pw_and ha hb).to fun σ H Q ⟨g, F, O, d, E, hd, q⟩ => by
  obtain ⟨x, hx, hd⟩ := bindS hd
  refine ⟨g, F, O, x, E, hx, fun F1 H1 G1 => ?_⟩
  cases x with
  | true =>
    rw [if_pos rfl] at hd ⊢
    exact ⟨g, F1, O, d, E.grow G1, hd, fun F2 H2 G2 => q F2 H2 (G1.trans G2)⟩
  | false =>
    rw [if_neg (by decide)] at hd ⊢
    cases hd
    exact q F1 H1 G1
theorem twOr {rest : List Expr} (ha : PT X a (tT K ta)) (hb : PW X (.BoolOp .Or (b :: rest) pos) (tT K tb)) : PW X (.BoolOp .Or (a :: b :: rest) pos) (tT K (tOr ta tb)) := (pw_or ha hb).to fun σ H Q ⟨g, F, O, d, E, hd, q⟩ => by
  obtain ⟨x, hx, hd⟩ := bindS hd
  refine ⟨g, F, O, x, E, hx, fun F1 H1 G1 => ?_⟩
  cases x with
  | true =>
    rw [if_pos rfl] at hd ⊢
    cases hd
    exact q F1 H1 G1
  | false =>
    rw [if_neg (by decide)] at hd ⊢
    exact ⟨g, F1, O, d, E.grow G1, hd, fun F2 H2 G2 => q F2 H2 (G1.trans G2)⟩
theorem deIf (hc : PT X c (tT K ta)) (ha : PE X a (tD K fa)) (hb : PE X b (tD K fb)) : PE X (.IfExp c a b pos) (tD K (eIf ta fa fb)) := (pe_ifExp hc ha hb).to fun σ H Q ⟨g, F, O, d, E, hd, q⟩ => by
  obtain ⟨x, hx, hd⟩ := bindS hd
  refine ⟨g, F, O, x, E, hx, fun F1 H1 G1 => ?_⟩
  cases x with
  | true =>
    rw [if_pos rfl] at hd ⊢
    exact ⟨g, F1, O, d, E.grow G1, hd, fun v F2 H2 G2 => q v F2 H2 (G1.trans G2)⟩
  | false =>
    rw [if_neg (by decide)] at hd ⊢
    exact ⟨g, F1, O, d, E.grow G1, hd, fun v F2 H2 G2 => q v F2 H2 (G1.trans G2)⟩
theorem deOne {op : BoolOp} (h : PE X a (tD K fa)) : PE X (.BoolOp op [a] pos) (tD K fa) := pe_one h
theorem deAnd {rest : List Expr} (ha : PE X a (tD K fa)) (hb : PE X (.BoolOp .And (b :: rest) pos) (tD K fb)) : PE X (.BoolOp .And (a :: b :: rest) pos) (tD K (eAnd fa fb)) := (pe_and ha hb).to fun σ H Q ⟨g, F, O, d, E, hd, q⟩ => by
  obtain ⟨x, hx, hd⟩ := bindS hd
  refine ⟨g, F, O, x, E, hx, fun v F1 H1 G1 R1 => ?_⟩
  cases R1 <;> first | cases hd | skip
  rename_i k
  refine ⟨k, rfl, ?_⟩
  cases k with
  | true =>
    rw [if_pos rfl]
    exact ⟨g, F1, O, d, E.grow G1, hd, fun v F2 H2 G2 => q v F2 H2 (G1.trans G2)⟩
  | false =>
    rw [if_neg (by decide)]
    cases hd
    exact q _ F1 H1 G1 (.bl false)
theorem deOr {rest : List Expr} (ha : PE X a (tD K fa)) (hb : PE X (.BoolOp .Or (b :: rest) pos) (tD K fb)) : PE X (.BoolOp .Or (a :: b :: rest) pos) (tD K (eOr fa fb)) := (pe_or ha hb).to fun σ H Q ⟨g, F, O, d, E, hd, q⟩ => by
  obtain ⟨x, hx, hd⟩ := bindS hd
  refine ⟨g, F, O, x, E, hx, fun v F1 H1 G1 R1 => ?_⟩
  cases R1 <;> first | cases hd | skip
  rename_i k
  refine ⟨k, rfl, ?_⟩
  cases k with
  | true =>
    rw [if_pos rfl]
    cases hd
    exact q _ F1 H1 G1 (.bl true)
  | false =>
    rw [if_neg (by decide)]
    exact ⟨g, F1, O, d, E.grow G1, hd, fun v F2 H2 G2 => q v F2 H2 (G1.trans G2)⟩
theorem deNot (ha : PE X a (tD K fa)) : PE X (.UnaryOp .Not a pos) (tD K (eNot fa)) := (pe_not ha).to fun σ H Q ⟨g, F, O, d, E, hd, q⟩ => by
  obtain ⟨x, hx, hd⟩ := bindS hd
  refine ⟨g, F, O, x, E, hx, fun v F1 H1 G1 R1 => ?_⟩
  cases R1 <;> first | cases hd | skip
  rename_i k
  exact ⟨k, rfl, q _ F1 H1 G1 (.bl _)⟩
theorem teU (h : PE X e (tW K fa)) (he : ∀ whole, isTrue e X.env whole = (do let v ← whole; standAt e.pos; holding [v] (truthy v)) := by intro _; rfl) : PT X e (tT K (tU fa)) := (pt_truth h he).to fun σ H Q ⟨g, F, O, d, E, hd, q⟩ => by
  obtain ⟨x, hx, hd⟩ := bindS hd
  refine ⟨g, F, O, x, E, hx, fun v F1 H1 G1 R1 => ⟨d, ?_, q F1 H1 G1⟩⟩
  cases x <;> first | cases hd | skip
  · rw [R1.non]; rfl
  · rw [R1.bl]; rfl
  · rw [R1.int]; rfl
  · obtain ⟨p, vs, rfl, hh, r⟩ := R1.lst G1.f
    refine .inl ⟨vs, SqL.of hh, ?_⟩
    rw [r.emp]
  · obtain ⟨p, vs, rfl, hh, _, r⟩ := R1.tup G1.f
    refine .inr (.inl ⟨vs, SqT.of hh, ?_⟩)
    rw [r.emp]
end
end
end DL
end
/-! Dl3 -/
section
set_option Elab.async false
set_option linter.all false
set_option maxRecDepth 100000
set_option maxHeartbeats 4000000
/-! Dl3: the operators, the built-ins. -/
namespace DL
open PySem PySem.Spec PyProof.Rows L2
variable {K : PySem.W.Frag}

/-! ### numbers -/
theorem Op2.or1 {r r' : R2} {o : D → D → Option D} (h : Op2 K r o) : Op2 K (fun x y H Q => r x y H Q ∨ r' x y H Q) o := fun F H x y v w z Q s a b e q => .inl (h F H x y v w z Q s a b e q)
theorem o_add : Op2 K (fun x y H Q => (rI0 (fun i j => V.int (i + j)) x y H Q ∨ rCat x y H Q)) dAdd ∨ True := .inr trivial
section
def rAdd (K : PySem.W.Frag) : R2 := fun x y H Q => rI0 (fun i j => V.int (i + j)) x y H Q ∨ (rCatA K x y H Q ∨ rCat x y H Q)
theorem oAdd : Op2 K (rAdd K) dAdd := fun F H x y v w z Q s a b e q => by
  cases x with
  | int i =>
    cases y with
    | int j =>
      cases e
      exact .inl ⟨i, j, a.int, b.int, q _ F H (Grow.refl s) (.int _)⟩
    | _ => cases e
  | tup xs =>
    cases y with
    | tup ys =>
      obtain ⟨p, vs, rfl, h1, f1, r1⟩ := a.tup s
      obtain ⟨p2, ws, rfl, h2, f2, r2⟩ := b.tup s
      simp only [dAdd] at e
      split at e
      · rename_i hl
        cases e
        refine .inr (.inl ⟨p, p2, vs, ws, rfl, rfl, SqT.of h1, SqT.of h2, by rw [r1.len, r2.len, ← lim_is]; exact hl, fun z => ?_, fun _ z => ?_, fun _ _ t ht => ?_⟩)
        · subst z
          refine q _ F H (Grow.refl s) (.tup f2 ?_)
          cases r1; exact r2
        · subst z
          refine q _ F H (Grow.refl s) (.tup f1 ?_)
          cases r2; rw [List.append_nil]; exact r1
        · exact q _ _ _ (Grow.new s ht) (.tup upd_same ((r1.app r2).mono (Sub.new (Sub.free s ht))))
      · cases e
    | _ => cases e
  | lst xs =>
    cases y with
    | lst ys =>
      obtain ⟨p, vs, rfl, h1, r1⟩ := a.lst s
      obtain ⟨p2, ws, rfl, h2, r2⟩ := b.lst s
      simp only [dAdd] at e
      split at e
      · rename_i hl
        cases e
        exact .inr (.inr ⟨p, p2, vs, ws, rfl, rfl, h1, h2, by rw [r1.len, r2.len, ← lim_is]; exact hl, fun t ht => q _ _ _ (Grow.new s ht) (.lst upd_same ((r1.app r2).mono (Sub.new (Sub.free s ht))))⟩)
      · cases e
    | _ => cases e
  | _ => cases e
theorem oAddN : Op2N K rCat nAdd := fun F H x y v w z Q s a b e q => by
  cases x with
  | lst xs =>
    cases y with
    | lst ys =>
      obtain ⟨p, vs, rfl, h1, r1⟩ := a.lst s
      obtain ⟨p2, ws, rfl, h2, r2⟩ := b.lst s
      simp only [nAdd] at e
      split at e
      · rename_i hl
        cases e
        exact ⟨p, p2, vs, ws, rfl, rfl, h1, h2, by rw [r1.len, r2.len, ← lim_is]; exact hl, fun t ht => q _ _ _ _ (Grow.newU s ht) ht (Sub.free s ht) upd_same (r1.app r2)⟩
      · cases e
    | _ => cases e
  | _ => cases e
theorem oI0 {g : Int → Int → V} {o : D → D → Option D} (h : ∀ x y z, o x y = some z → ∃ i j, x = .int i ∧ y = .int j ∧ ∀ F : Hp, Rp K F (g i j) z) : Op2 K (rI0 g) o := fun F H x y v w z Q s a b e q => by
  obtain ⟨i, j, rfl, rfl, r⟩ := h x y z e
  exact ⟨i, j, a.int, b.int, q _ F H (Grow.refl s) (r F)⟩
theorem oI {C : Int → Int → Prop} {g : Int → Int → V} {o : D → D → Option D} (h : ∀ x y z, o x y = some z → ∃ i j, x = .int i ∧ y = .int j ∧ C i j ∧ ∀ F : Hp, Rp K F (g i j) z) : Op2 K (rI C g) o := fun F H x y v w z Q s a b e q => by
  obtain ⟨i, j, rfl, rfl, c, r⟩ := h x y z e
  exact ⟨i, j, a.int, b.int, c, q _ F H (Grow.refl s) (r F)⟩
theorem oSub : Op2 K (rI0 fun i j => .int (i - j)) dSub := oI0 fun x y z e => by
  cases x <;> cases y <;> cases e
  exact ⟨_, _, rfl, rfl, fun F => .int _⟩
theorem oMul : Op2 K (rI CMul fun i j => .int (i * j)) dMul := oI fun x y z e => by
  cases x <;> cases y <;> try (cases e; done)
  simp only [dMul] at e
  split at e
  · rename_i hc
    cases e
    refine ⟨_, _, rfl, rfl, ?_, fun F => .int _⟩
    simp only [small64, Bool.or_eq_true, Bool.and_eq_true, decide_eq_true_eq] at hc
    exact hc
  · cases e
theorem oDiv : Op2 K (rI CDiv fun i j => .int (i / j)) dDiv := oI fun x y z e => by
  cases x <;> cases y <;> try (cases e; done)
  simp only [dDiv] at e
  split at e
  · rename_i hc
    cases e
    exact ⟨_, _, rfl, rfl, hc, fun F => .int _⟩
  · cases e
theorem oMod : Op2 K (rI (fun _ j => 0 < j) fun i j => .int (i % j)) dMod := oI fun x y z e => by
  cases x <;> cases y <;> try (cases e; done)
  simp only [dMod] at e
  split at e
  · rename_i hc
    cases e
    exact ⟨_, _, rfl, rfl, hc, fun F => .int _⟩
  · cases e
theorem oNeg : Op1 K (rU fun i => .int (-i)) dNeg := fun F H x v z Q s a e q => by
  cases x <;> cases e
  exact ⟨_, a.int, q _ F H (Grow.refl s) (.int _)⟩
theorem oLt : Op2 K (rI0 fun i j => .bl (decide (i < j))) dLt := oI0 fun x y z e => by
  cases x <;> cases y <;> cases e
  exact ⟨_, _, rfl, rfl, fun F => .bl _⟩
theorem oLe : Op2 K (rI0 fun i j => .bl (decide (i ≤ j))) dLe := oI0 fun x y z e => by
  cases x <;> cases y <;> cases e
  exact ⟨_, _, rfl, rfl, fun F => .bl _⟩
theorem oGt : Op2 K (rI0 fun i j => .bl (decide (j < i))) dGt := oI0 fun x y z e => by
  cases x <;> cases y <;> cases e
  exact ⟨_, _, rfl, rfl, fun F => .bl _⟩
theorem oGe : Op2 K (rI0 fun i j => .bl (decide (j ≤ i))) dGe := oI0 fun x y z e => by
  cases x <;> cases y <;> cases e
  exact ⟨_, _, rfl, rfl, fun F => .bl _⟩

/-! ### None, bools -/
theorem non_iff {F H : Hp} {v : V} {x : D} (a : Rv K F H v x) : decide (v = V.non) = isNonD x := by
  cases a with
  | rp h => cases h <;> simp [isNonD]
  | own _ _ => simp [isNonD]
  | odc _ _ => simp [isNonD]
theorem oIsN : Op2 K (fun x y H Q => y = .non ∧ Q (.bl (decide (x = .non))) H) (fun x y => if isNonD y then dIsN x else none) := fun F H x y v w z Q s a b e q => by
  cases y <;> simp only [isNonD, Bool.false_eq_true, if_false, if_true] at e <;> try (cases e; done)
  cases e
  refine ⟨b.non, ?_⟩
  rw [non_iff a]
  exact q _ F H (Grow.refl s) (.bl _)
theorem oNotN : Op2 K (fun x y H Q => y = .non ∧ Q (.bl (!decide (x = .non))) H) (fun x y => if isNonD y then dNotN x else none) := fun F H x y v w z Q s a b e q => by
  cases y <;> simp only [isNonD, Bool.false_eq_true, if_false, if_true] at e <;> try (cases e; done)
  cases e
  refine ⟨b.non, ?_⟩
  rw [non_iff a]
  exact q _ F H (Grow.refl s) (.bl _)
theorem oIsB : Op2 K (fun x y H Q => ∃ a b, x = .bl a ∧ y = .bl b ∧ Q (.bl (decide (a = b))) H) dIsB := fun F H x y v w z Q s a b e q => by
  cases x <;> cases y <;> cases e
  exact ⟨_, _, a.bl, b.bl, q _ F H (Grow.refl s) (.bl _)⟩
theorem oNotB : Op2 K (fun x y H Q => ∃ a b, x = .bl a ∧ y = .bl b ∧ Q (.bl (!decide (a = b))) H) dNotB := fun F H x y v w z Q s a b e q => by
  cases x <;> cases y <;> cases e
  exact ⟨_, _, a.bl, b.bl, q _ F H (Grow.refl s) (.bl _)⟩

/-! ### == -/
mutual
def toPy : D → PyData
  | .non => .none
  | .bl b => .bool b
  | .int i => .int i
  | .str s => .str s
  | .lst ds => .list (toPys ds)
  | .tup ds => .tuple (toPys ds)
  | _ => .none
def toPys : List D → List PyData
  | [] => []
  | d :: ds => toPy d :: toPys ds
end
mutual
theorem eqD_py : ∀ (n m : Nat) (a b : D), okD n a = true → okD m b = true → eqD a b = PyData.eqv (toPy a) (toPy b)
  | n, m, .lst xs, b, h, k => by
    cases b with
    | lst ys =>
      cases n with
      | zero => simp [okD] at h
      | succ n =>
        cases m with
        | zero => simp [okD] at k
        | succ m =>
          simp only [eqD, toPy, PyData.eqv]
          exact eqDs_py n m xs ys (by simpa [okD] using h) (by simpa [okD] using k)
    | _ => first | (simp only [eqD, toPy, PyData.eqv]; done) | (simp [okD] at k; done)
  | n, m, .tup xs, b, h, k => by
    cases b with
    | tup ys =>
      cases n with
      | zero => simp [okD] at h
      | succ n =>
        cases m with
        | zero => simp [okD] at k
        | succ m =>
          simp only [eqD, toPy, PyData.eqv]
          exact eqDs_py n m xs ys (by simpa [okD] using h) (by simpa [okD] using k)
    | _ => first | (simp only [eqD, toPy, PyData.eqv]; done) | (simp [okD] at k; done)
  | n, m, .non, b, h, k => by
    cases b <;> first | (simp only [eqD, toPy, PyData.eqv]; done) | (simp [okD] at k; done)
  | n, m, .bl _, b, h, k => by
    cases b <;> first | (simp only [eqD, toPy, PyData.eqv]; done) | (simp [okD] at k; done)
  | n, m, .int _, b, h, k => by
    cases b <;> first | (simp only [eqD, toPy, PyData.eqv]; done) | (simp [okD] at k; done)
  | n, m, .str _, b, h, k => by
    cases b <;> first | (simp only [eqD, toPy, PyData.eqv]; done) | (simp [okD] at k; done)
  | n, _, .dct _, _, h, _ => by cases n <;> simp [okD] at h
  | n, _, .scr _, _, h, _ => by cases n <;> simp [okD] at h
theorem eqDs_py : ∀ (n m : Nat) (a b : List D), okDs n a = true → okDs m b = true → eqDs a b = PyData.eqvAll (toPys a) (toPys b)
  | _, _, [], [], _, _ => rfl
  | _, _, [], _ :: _, _, _ => rfl
  | _, _, _ :: _, [], _, _ => rfl
  | n, m, x :: xs, y :: ys, h, k => by
    simp only [okDs, Bool.and_eq_true] at h k
    simp only [eqDs, toPys, PyData.eqvAll]
    rw [eqD_py n m x y h.1 k.1, eqDs_py n m xs ys h.2 k.2]
end

mutual
theorem Rp.dp {F H : Hp} (s : Sub F H) : ∀ {v : V} {d : D} {n : Nat}, Rp K F v d → okD n d = true → Dp K H v (toPy d) ∧ PyData.canLay0 (toPy d) = true ∧ (toPy d).depth ≤ n
  | _, _, _, .non, _ => ⟨.non, rfl, Nat.zero_le _⟩
  | _, _, _, .bl b, _ => ⟨.bl b, rfl, Nat.zero_le _⟩
  | _, _, _, .int i, _ => ⟨.int i, rfl, Nat.zero_le _⟩
  | _, _, _, .str x h, _ => ⟨.str x, h, Nat.zero_le _⟩
  | _, _, n, .lst h r, k => by
    cases n with
    | zero => simp [okD] at k
    | succ n =>
      obtain ⟨h1, h2, h3⟩ := RpAll.dp s r (n := n) (by simpa [okD] using k)
      exact ⟨.lst (SqL.of (s _ _ h)) h1, h2, Nat.succ_le_succ h3⟩
  | _, _, n, .tup h r, k => by
    cases n with
    | zero => simp [okD] at k
    | succ n =>
      obtain ⟨h1, h2, h3⟩ := RpAll.dp s r (n := n) (by simpa [okD] using k)
      exact ⟨.tup (SqT.of (s _ _ h)) h1, h2, Nat.succ_le_succ h3⟩
  | _, _, n, .dct _ _, k => by cases n <;> simp [okD] at k
  | _, _, n, .scr _, k => by cases n <;> simp [okD] at k
theorem RpAll.dp {F H : Hp} (s : Sub F H) : ∀ {v : List V} {d : List D} {n : Nat}, RpAll K F v d → okDs n d = true → DpAll K H v (toPys d) ∧ PyData.canLayAll0 (toPys d) = true ∧ PyData.depthAll (toPys d) ≤ n
  | _, _, _, .nil, _ => ⟨.nil, rfl, Nat.zero_le _⟩
  | _, _, n, .cons h r, k => by
    simp only [okDs, Bool.and_eq_true] at k
    obtain ⟨h1, h2, h3⟩ := Rp.dp s h k.1
    obtain ⟨k1, k2, k3⟩ := RpAll.dp s r k.2
    refine ⟨.cons h1 k1, ?_, ?_⟩
    · show (PyData.canLay0 _ && PyData.canLayAll0 _) = true
      rw [h2, k2]; rfl
    · show max _ _ ≤ n
      omega
end
theorem Rv.dp {F H : Hp} (s : Sub F H) {v : V} {d : D} {n : Nat} (h : Rv K F H v d) (k : okD n d = true) : Dp K H v (toPy d) ∧ PyData.canLay0 (toPy d) = true ∧ (toPy d).depth ≤ n := by
  cases h with
  | rp h => exact h.dp s k
  | own h r =>
    cases n with
    | zero => simp [okD] at k
    | succ n =>
      obtain ⟨h1, h2, h3⟩ := RpAll.dp (K := K) s r (n := n) (by simpa [okD] using k)
      exact ⟨.lst (SqL.of h) h1, h2, Nat.succ_le_succ h3⟩
  | odc _ _ => cases n <;> simp [okD] at k
theorem shaped_of {d : PyData} {n : Nat} (h : PyData.canLay0 d = true) (k : d.depth ≤ n) (hn : n ≤ 64) : SeqAt.shaped d = true := by
  unfold SeqAt.shaped
  rw [h, decide_eq_true (by omega)]; rfl
theorem oEq : Op2 K (rEqD K) dEq := fun F H x y v w z Q s a b e q => by
  simp only [dEq] at e
  split at e
  · rename_i hk
    cases e
    rw [Bool.and_eq_true] at hk
    obtain ⟨a1, a2, a3⟩ := a.dp (K := K) s hk.1
    obtain ⟨b1, b2, b3⟩ := b.dp (K := K) s hk.2
    refine ⟨_, _, a1, b1, shaped_of a2 a3 (by decide), shaped_of b2 b3 (by decide), ?_⟩
    rw [← eqD_py 60 60 x y hk.1 hk.2]
    exact q _ F H (Grow.refl s) (.bl _)
  · cases e
theorem oNe : Op2 K (rNeD K) dNe := fun F H x y v w z Q s a b e q => by
  simp only [dNe] at e
  split at e
  · rename_i hk
    cases e
    rw [Bool.and_eq_true] at hk
    obtain ⟨a1, a2, a3⟩ := a.dp (K := K) s hk.1
    obtain ⟨b1, b2, b3⟩ := b.dp (K := K) s hk.2
    refine ⟨_, _, a1, b1, shaped_of a2 a3 (by decide), shaped_of b2 b3 (by decide), ?_⟩
    rw [← eqD_py 60 60 x y hk.1 hk.2]
    exact q _ F H (Grow.refl s) (.bl _)
  · cases e

/-! ### in -/
theorem any_py : ∀ (ds : List D) (x : D), okDs 50 ds = true → okD 50 x = true → ((toPys ds).any fun z => PyData.eqv z (toPy x)) = memD x ds
  | [], _, _, _ => rfl
  | d :: ds, x, h, k => by
    simp only [okDs, Bool.and_eq_true] at h
    show (PyData.eqv (toPy d) (toPy x) || (toPys ds).any fun z => PyData.eqv z (toPy x)) = (eqD d x || memD x ds)
    rw [any_py ds x h.2 k, eqD_py 50 50 d x h.1 k]
theorem flat_v {F H : Hp} {v : V} {d : D} (h : Rv K F H v d) (k : flatD d = true) : flatV v = true := by
  cases h with
  | rp h => cases h <;> first | rfl | cases k
  | own _ _ => cases k
  | odc _ _ => cases k
theorem flat_eq {F H F1 H1 : Hp} {v w : V} {d e : D} (h : Rv K F H v d) (k : Rv K F1 H1 w e) (hf : flatD d = true) (kf : flatD e = true) : eqV v w = eqD d e := by
  cases h with
  | rp h =>
    cases k with
    | rp k => cases h <;> cases k <;> first | (cases hf; done) | (cases kf; done) | (simp only [eqV, eqD]; done) | (simp only [eqV, eqD]; rfl)
    | own _ _ => cases kf
    | odc _ _ => cases kf
  | own _ _ => cases hf
  | odc _ _ => cases hf
theorem flat_all {F : Hp} : ∀ {vs : List V} {ds : List D}, RpAll K F vs ds → ds.all flatD = true → vs.all flatV = true
  | _, _, .nil, _ => rfl
  | _, _, .cons h r, k => by
    simp only [List.all_cons, Bool.and_eq_true] at k ⊢
    exact ⟨flat_v (H := F) (.rp h) k.1, flat_all r k.2⟩
theorem flat_mem {F F1 H1 : Hp} {w : V} {e : D} (k : Rv K F1 H1 w e) (kf : flatD e = true) : ∀ {vs : List V} {ds : List D}, RpAll K F vs ds → ds.all flatD = true → inV w vs = memD e ds
  | _, _, .nil, _ => rfl
  | _, _, .cons (v := v) (vs := vs) (d := d) (ds := ds) h r, q => by
    simp only [List.all_cons, Bool.and_eq_true] at q
    show (eqV v w || inV w vs) = (eqD d e || memD e ds)
    rw [flat_eq (H := F) (.rp h) k q.1 kf, flat_mem k kf r q.2]
def rInAll (K : PySem.W.Frag) : R2 := fun x y H Q => rInD K x y H Q ∨ rIn K false x y H Q
def rNotInAll (K : PySem.W.Frag) : R2 := fun x y H Q => rNotInD K x y H Q ∨ rIn K true x y H Q
theorem oIn : Op2 K (rInAll K) dIn := fun F H x y v w z Q s a b e q => by
  cases y with
  | lst ds =>
    simp only [dIn] at e
    split at e
    · rename_i hk
      cases e
      rw [Bool.and_eq_true] at hk
      obtain ⟨a1, a2, a3⟩ := a.dp (K := K) s hk.1
      obtain ⟨b1, b2, b3⟩ := b.dp (K := K) (n := 51) s (by simp only [okD]; exact hk.2)
      refine .inl ⟨_, _, a1, b1, shaped_of a2 a3 (by decide), shaped_of b2 b3 (by decide), ?_⟩
      rw [any_py ds x hk.2 hk.1]
      exact q _ F H (Grow.refl s) (.bl _)
    · cases e
  | tup ds =>
    simp only [dIn] at e
    split at e
    · rename_i hk
      cases e
      rw [Bool.and_eq_true] at hk
      obtain ⟨p, vs, rfl, h1, f1, r1⟩ := b.tup s
      refine .inr ⟨p, vs, rfl, .inr (SqT.of h1), flat_v a hk.1, flat_all r1 hk.2, ?_⟩
      rw [flat_mem a hk.1 r1 hk.2]
      exact q _ F H (Grow.refl s) (.bl _)
    · cases e
  | _ => cases e
theorem oNotIn : Op2 K (rNotInAll K) dNotIn := fun F H x y v w z Q s a b e q => by
  cases y with
  | lst ds =>
    simp only [dNotIn] at e
    split at e
    · rename_i hk
      cases e
      rw [Bool.and_eq_true] at hk
      obtain ⟨a1, a2, a3⟩ := a.dp (K := K) s hk.1
      obtain ⟨b1, b2, b3⟩ := b.dp (K := K) (n := 51) s (by simp only [okD]; exact hk.2)
      refine .inl ⟨_, _, a1, b1, shaped_of a2 a3 (by decide), shaped_of b2 b3 (by decide), ?_⟩
      rw [any_py ds x hk.2 hk.1]
      exact q _ F H (Grow.refl s) (.bl _)
    · cases e
  | tup ds =>
    simp only [dNotIn] at e
    split at e
    · rename_i hk
      cases e
      rw [Bool.and_eq_true] at hk
      obtain ⟨p, vs, rfl, h1, f1, r1⟩ := b.tup s
      refine .inr ⟨p, vs, rfl, .inr (SqT.of h1), flat_v a hk.1, flat_all r1 hk.2, ?_⟩
      rw [flat_mem a hk.1 r1 hk.2]
      exact q _ F H (Grow.refl s) (.bl _)
    · cases e
  | _ => cases e

/-! ### subscripts -/
theorem place_is (n : Nat) (i : Int) : placeN n i = ixN n i := rfl
theorem at_rp {F : Hp} {vs : List V} {ds : List D} {i : Int} {d : D} (r : RpAll K F vs ds) (h : atD ds i = some d) : ∃ v, atI vs i = some v ∧ Rp K F v d := by
  obtain ⟨j, h1, h2⟩ := bindS h
  obtain ⟨v, h3, h4⟩ := r.get h2
  refine ⟨v, ?_, h4⟩
  unfold atI
  rw [r.len, ← place_is, h1]
  exact h3
def rIxAll (K : PySem.W.Frag) : R2 := fun x y H Q => rIxL K x y H Q ∨ rIxT K x y H Q
theorem ixAll {X : Cx} : IxR X (rIxAll X.K) := fun v sl pins s σ H x y v u Q I rx ry hr hs => by
  rcases hr with hr | hr
  · exact ix_list _ _ _ _ _ _ _ _ _ _ _ I rx ry hr hs
  · exact ix_tup _ _ _ _ _ _ _ _ _ _ _ I rx ry hr hs
theorem oIx : Op2 K (rIxAll K) dIx := fun F H x y v w z Q s a b e q => by
  cases y with
  | int i =>
    obtain rfl := b.int
    cases x with
    | lst ds =>
      obtain ⟨p, vs, rfl, h1, r1⟩ := a.lst s
      obtain ⟨u, hu, ru⟩ := at_rp r1 e
      exact .inl ⟨p, vs, i, u, rfl, rfl, SqL.of h1, hu, q _ F H (Grow.refl s) ru⟩
    | tup ds =>
      obtain ⟨p, vs, rfl, h1, _, r1⟩ := a.tup s
      obtain ⟨u, hu, ru⟩ := at_rp r1 e
      exact .inr ⟨p, vs, i, u, rfl, rfl, SqT.of h1, hu, q _ F H (Grow.refl s) ru⟩
    | scr ns =>
      obtain ⟨p, rfl, h1⟩ := a.scr s
      obtain ⟨j, h2, h3⟩ := bindS e
      obtain ⟨k, h4, rfl⟩ := mapS h3
      refine .inl ⟨p, _, i, .int k, rfl, rfl, h1, ?_, q _ F H (Grow.refl s) (.int k)⟩
      unfold atI
      rw [List.length_map, ← place_is, h2]
      show (ns.map V.int)[j]? = _
      rw [List.getElem?_map, h4]; rfl
    | _ => cases e
  | _ => cases x <;> cases e

/-! ### built-ins -/
theorem rvl1 {F H : Hp} {vs : List V} {x : D} (h : RvAll K F H vs [x]) : ∃ v, vs = [v] ∧ Rv K F H v x := by
  cases h with
  | cons h r => cases r; exact ⟨_, rfl, h⟩
theorem rvl2 {F H : Hp} {vs : List V} {x y : D} (h : RvAll K F H vs [x, y]) : ∃ v w, vs = [v, w] ∧ Rv K F H v x ∧ Rv K F H w y := by
  cases h with
  | cons h r => cases r with
    | cons h' r => cases r; exact ⟨_, _, rfl, h, h'⟩
def rLen (K : PySem.W.Frag) : List V → Hp → VK → Prop := fun xs H Q => ∃ p ys, xs = [.ref p] ∧ (SqL K H p ys ∨ SqT K H p ys) ∧ Q (.int ys.length) H
def rLenD : List V → Hp → VK → Prop := fun xs H Q => ∃ a kvs, xs = [V.ref a] ∧ H a = some (.dK kvs) ∧ Q (.int (kvs.length : Nat)) H
theorem RpKv.len {F : Hp} : ∀ {v : List (Key × V)} {d : List (D × D)}, RpKv K F v d → v.length = d.length
  | _, _, .nil => rfl
  | _, _, .cons _ r => by simp [RpKv.len r]
theorem oLen : OpA K (fun xs H Q => rLen K xs H Q ∨ rLenD xs H Q) dLen := fun F H xs vs z Q s a e q => by
  match xs, a, e with
  | [.lst ds], a, e =>
    obtain ⟨v, rfl, a'⟩ := rvl1 a
    cases e
    obtain ⟨p, vs, rfl, h1, r1⟩ := a'.lst s
    refine .inl ⟨p, vs, rfl, .inl (SqL.of h1), ?_⟩
    rw [r1.len]; exact q _ F H (Grow.refl s) (.int _)
  | [.tup ds], a, e =>
    obtain ⟨v, rfl, a'⟩ := rvl1 a
    cases e
    obtain ⟨p, vs, rfl, h1, _, r1⟩ := a'.tup s
    refine .inl ⟨p, vs, rfl, .inr (SqT.of h1), ?_⟩
    rw [r1.len]; exact q _ F H (Grow.refl s) (.int _)
  | [.scr ns], a, e =>
    obtain ⟨v, rfl, a'⟩ := rvl1 a
    cases e
    obtain ⟨p, rfl, h1⟩ := a'.scr s
    refine .inl ⟨p, _, rfl, .inl h1, ?_⟩
    rw [List.length_map]; exact q _ F H (Grow.refl s) (.int _)
  | [.dct ds], a, e =>
    obtain ⟨v, rfl, a'⟩ := rvl1 a
    cases e
    obtain ⟨p, vs, rfl, h1, r1⟩ := a'.dct s
    refine .inr ⟨p, vs, rfl, h1, ?_⟩
    rw [r1.len]; exact q _ F H (Grow.refl s) (.int _)
theorem oAbs : OpA K (fun xs H Q => ∃ i, xs = [.int i] ∧ Q (.int (if i < 0 then -i else i)) H) dAbs := fun F H xs vs z Q s a e q => by
  match xs, a, e with
  | [.int i], a, e =>
    obtain ⟨v, rfl, a'⟩ := rvl1 a
    cases e
    obtain rfl := a'.int
    exact ⟨i, rfl, q _ F H (Grow.refl s) (.int _)⟩
theorem oAll : OpA K (rAll K) dAll := fun F H xs vs z Q s a e q => by
  match xs, a, e with
  | [.lst ds], a, e =>
    obtain ⟨v, rfl, a'⟩ := rvl1 a
    obtain ⟨bs, h1, rfl⟩ := mapS e
    obtain ⟨p, vs, rfl, h2, r⟩ := a'.lst s
    obtain ⟨rfl, _⟩ := r.ofBls h1
    exact ⟨p, bs, rfl, SqL.of h2, q _ F H (Grow.refl s) (.bl _)⟩
theorem oAny : OpA K (rAny K) dAny := fun F H xs vs z Q s a e q => by
  match xs, a, e with
  | [.lst ds], a, e =>
    obtain ⟨v, rfl, a'⟩ := rvl1 a
    obtain ⟨bs, h1, rfl⟩ := mapS e
    obtain ⟨p, vs, rfl, h2, r⟩ := a'.lst s
    obtain ⟨rfl, _⟩ := r.ofBls h1
    exact ⟨p, bs, rfl, SqL.of h2, q _ F H (Grow.refl s) (.bl _)⟩
def rTupOf (K : PySem.W.Frag) : List V → Hp → VK → Prop := fun xs H Q => ∃ p ys, xs = [.ref p] ∧ ((SqL K H p ys ∧ ∀ l, H l = none → Q (.ref l) (upd H l (.tup ys))) ∨ (SqT K H p ys ∧ Q (.ref p) H))
theorem oTupOf : OpA K (rTupOf K) dTupOf := fun F H xs vs z Q s a e q => by
  match xs, a, e with
  | [.lst ds], a, e =>
    obtain ⟨v, rfl, a'⟩ := rvl1 a
    cases e
    obtain ⟨p, vs, rfl, h2, r⟩ := a'.lst s
    exact ⟨p, vs, rfl, .inl ⟨SqL.of h2, fun l hl => q _ _ _ (Grow.new s hl) (.tup upd_same (r.mono (Sub.new (Sub.free s hl))))⟩⟩
  | [.tup ds], a, e =>
    obtain ⟨v, rfl, a'⟩ := rvl1 a
    cases e
    obtain ⟨p, vs, rfl, h2, h3, r⟩ := a'.tup s
    exact ⟨p, vs, rfl, .inr ⟨SqT.of h2, q _ F H (Grow.refl s) (.tup h3 r)⟩⟩
def rLstOf (K : PySem.W.Frag) : List V → Hp → VK → Prop := fun xs H Q => ∃ p ys, xs = [.ref p] ∧ (SqL K H p ys ∨ SqT K H p ys) ∧ ∀ l, H l = none → Q (.ref l) (upd H l (.lst ys))
theorem oLstOf : OpAN K (rLstOf K) nLstOf := fun F H xs vs z Q s a e q => by
  match xs, a, e with
  | [.lst ds], a, e =>
    obtain ⟨v, rfl, a'⟩ := rvl1 a
    cases e
    obtain ⟨p, vs, rfl, h2, r⟩ := a'.lst s
    exact ⟨p, vs, rfl, .inl (SqL.of h2), fun l hl => q _ _ _ _ (Grow.newU s hl) hl (Sub.free s hl) upd_same r⟩
  | [.tup ds], a, e =>
    obtain ⟨v, rfl, a'⟩ := rvl1 a
    cases e
    obtain ⟨p, vs, rfl, h2, h3, r⟩ := a'.tup s
    exact ⟨p, vs, rfl, .inr (SqT.of h2), fun l hl => q _ _ _ _ (Grow.newU s hl) hl (Sub.free s hl) upd_same r⟩
theorem foldl_max_mem : ∀ (xs : List Int) (x : Int), xs.foldl max x ∈ x :: xs
  | [], x => by simp
  | y :: ys, x => by
    have h := foldl_max_mem ys (max x y)
    rw [List.foldl_cons]
    rcases List.mem_cons.mp h with h | h
    · rw [h]
      rcases Int.le_total x y with k | k
      · rw [Int.max_eq_right k]; simp
      · rw [Int.max_eq_left k]; simp
    · exact List.mem_cons_of_mem _ (List.mem_cons_of_mem _ h)
theorem foldl_max_le : ∀ (xs : List Int) (x : Int), x ≤ xs.foldl max x ∧ ∀ y ∈ xs, y ≤ xs.foldl max x
  | [], x => ⟨Int.le_refl _, fun _ h => by simp at h⟩
  | y :: ys, x => by
    obtain ⟨h1, h2⟩ := foldl_max_le ys (max x y)
    rw [List.foldl_cons]
    refine ⟨Int.le_trans (Int.le_max_left _ _) h1, fun z hz => ?_⟩
    rcases List.mem_cons.mp hz with h | h
    · rw [h]; exact Int.le_trans (Int.le_max_right _ _) h1
    · exact h2 z h
theorem maxI_spec {ns : List Int} {m : Int} (h : m ∈ ns) (k : ∀ y ∈ ns, y ≤ m) : m = maxI ns := by
  cases ns with
  | nil => simp at h
  | cons x xs =>
    have a := foldl_max_mem xs x
    obtain ⟨b, c⟩ := foldl_max_le xs x
    have h1 := k _ a
    have h2 : m ≤ xs.foldl max x := by
      rcases List.mem_cons.mp h with h | h
      · rw [h]; exact b
      · exact c m h
    show m = xs.foldl max x
    omega
theorem oMax : OpA K (rMax K) dMax := fun F H xs vs z Q s a e q => by
  match xs, a, e with
  | [.lst ds], a, e =>
    obtain ⟨v, rfl, a'⟩ := rvl1 a
    obtain ⟨ns, h1, e⟩ := bindS e
    obtain ⟨p, vs, rfl, h2, r⟩ := a'.lst s
    obtain ⟨rfl, _⟩ := r.ofInts h1
    split at e
    · cases e
    · rename_i hne
      cases e
      refine ⟨p, ns, rfl, SqL.of h2, ?_, fun m hm hk => ?_⟩
      · cases ns with
        | nil => simp at hne
        | cons _ _ => simp
      · rw [maxI_spec hm hk]; exact q _ F H (Grow.refl s) (.int _)
end
end DL
end
/-! Dl4 -/
section
set_option Elab.async false
set_option linter.all false
set_option maxRecDepth 100000
set_option maxHeartbeats 4000000
/-! Dl4: chains, isinstance, slices, what is walked, comprehensions. -/
namespace DL
open PySem PySem.Spec PyProof.Rows L2
variable {K : PySem.W.Frag}

section
variable {X : Cx} {a b c e : Expr} {pos : Pos} {fa fb fc : M D}

/-! ### a < b < c -/
theorem runChain {r r' : R2} {o o' : D → D → Option D} (h : Op2 K r o) (h' : Op2 K r' o') : ∀ σ H Q, tD K (eChain o o' fa fb fc) σ H Q → tChain r r' (tW K fa) (tW K fb) (tW K fc) σ H Q := fun σ H Q ⟨g, F, O, d, E, hd, q⟩ => by
  obtain ⟨x, hx, hd⟩ := bindS hd
  obtain ⟨y, hy, hd⟩ := bindS hd
  obtain ⟨z, hz, hd⟩ := bindS hd
  refine ⟨g, F, O, x, E, hx, fun v F1 H1 G1 R1 => ⟨g, F1, O, y, E.grow G1, hy, fun w F2 H2 G2 R2 => h F2 H2 x y v w z _ G2.f (R1.grow G1.f G2) R2 hz fun u F3 H3 G3 R3 => ?_⟩⟩
  cases R3 <;> first | cases hd | skip
  rename_i k
  refine ⟨k, rfl, ?_⟩
  cases k with
  | true =>
    rw [if_pos rfl]
    obtain ⟨t, ht, hd⟩ := bindS hd
    exact ⟨g, F3, O, t, ((E.grow G1).grow G2).grow G3, ht, fun u4 F4 H4 G4 R4 => h' F4 H4 y t w u4 d Q G4.f (R2.grow G2.f (G3.trans G4)) R4 hd fun u5 F5 H5 G5 R5 => q u5 F5 H5 ((((G1.trans G2).trans G3).trans G4).trans G5) R5⟩
  | false =>
    rw [if_neg (by decide)]
    cases hd
    exact q _ F3 H3 ((G1.trans G2).trans G3) (.bl false)
theorem dChain {op op' : CmpOp} {r r' : R2} {o o' : D → D → Option D} (ho : OpR X (compareOp op) r) (ho' : OpR X (compareOp op') r') (h : Op2 K r o) (h' : Op2 K r' o') (ha : PE X a (tW K fa)) (hb : PE X b (tW K fb)) (hc : PE X c (tW K fc))
    (hm : lastMarks [op, op'] [b, c] = false := by with_unfolding_all rfl) : PE X (.Compare a [op, op'] [b, c] pos) (tD K (eChain o o' fa fb fc)) := (pe_chain ho ho' ha hb hc hm).to (runChain h h')
theorem teChain {op op' : CmpOp} {r r' : R2} {o o' : D → D → Option D} (ho : OpR X (compareOp op) r) (ho' : OpR X (compareOp op') r') (h : Op2 K r o) (h' : Op2 K r' o') (ha : PE X a (tW K fa)) (hb : PE X b (tW K fb)) (hc : PE X c (tW K fc))
    (hm : lastMarks [op, op'] [b, c] = false := by with_unfolding_all rfl) : PT X (.Compare a [op, op'] [b, c] pos) (tT K (tV (eChain o o' fa fb fc))) := (pt_chain ho ho' ha hb hc hm).to fun σ H Q ⟨g, F, O, d, E, hd, q⟩ => by
  obtain ⟨x, hx, hd⟩ := bindS hd
  cases x <;> first | cases hd | skip
  exact runChain h h' σ H _ ⟨g, F, O, _, E, hx, fun v F1 H1 G1 R1 => ⟨_, R1.blV, q F1 H1 G1⟩⟩

/-! ### isinstance -/
def Ty.name : Ty → String
  | .int => "int"
  | .bool => "bool"
  | .str => "str"
  | .tuple => "tuple"
  | .list => "list"
  | .dict => "dict"
def tyOfD : D → Option String
  | .non => some "NoneType"
  | .bl _ => some "bool"
  | .int _ => some "int"
  | .str _ => some "str"
  | .lst _ => some "list"
  | .tup _ => some "tuple"
  | .dct _ => some "dict"
  | .scr _ => none
def isTab (a : String) (t : Ty) : Bool := match t with
  | .int => a == "int" || a == "bool"
  | .bool => a == "bool"
  | .str => a == "str"
  | .tuple => a == "tuple"
  | .list => a == "list"
  | .dict => a == "dict"
theorem kit_tab : ∀ a ∈ ["NoneType", "bool", "int", "str", "list", "tuple", "dict"], ∀ t ∈ [Ty.int, Ty.bool, Ty.str, Ty.tuple, Ty.list, Ty.dict], kitB a t.name = some (isTab a t) := by decide +kernel
theorem mem_ty (t : Ty) : t ∈ [Ty.int, Ty.bool, Ty.str, Ty.tuple, Ty.list, Ty.dict] := by cases t <;> simp
theorem rv_ty {K' : PySem.W.Frag} {F H : Hp} (s : Sub F H) {v : V} {d : D} (h : Rv K F H v d) {n : String} (hn : tyOfD d = some n) : TyX K' H v (.type n) := by
  cases d with
  | non => cases hn; rw [h.non]; exact .base .non
  | bl b => cases hn; rw [h.bl]; exact .base (.bl b)
  | int i => cases hn; rw [h.int]; exact .base (.int i)
  | str x => cases hn; rw [h.str.1]; exact .base (.str x)
  | lst ds => cases hn; obtain ⟨p, vs, rfl, h1, _⟩ := h.lst s; exact .base (.lst h1)
  | tup ds => cases hn; obtain ⟨p, vs, rfl, h1, _⟩ := h.tup s; exact .base (.tup h1)
  | dct ds => cases hn; obtain ⟨p, vs, rfl, h1, _⟩ := h.dct s; exact .base (.dK h1)
  | scr ns => cases hn
theorem isTy_tab {t : Ty} {d : D} {b : Bool} (h : isTy t d = some b) : ∃ n, tyOfD d = some n ∧ isTab n t = b ∧ n ∈ ["NoneType", "bool", "int", "str", "list", "tuple", "dict"] := by
  cases d <;> cases t <;> first | (cases h; done) | (cases h; exact ⟨_, rfl, by decide, by decide⟩)
theorem dIsiE (t : Ty) {x : Str} {p p2 : Pos} (hg : Gl X "isinstance") (hm : X.mg "isinstance" = none) (he : PE X e (tW K fa)) (hT : PE X (.Name x p2) (tC (.ty t.name)))
    (hs : starEach [e, .Name x p2] X.env = (false, eval e X.env) :: starEach [.Name x p2] X.env := by rfl) (hs2 : starEach [.Name x p2] X.env = (false, eval (.Name x p2) X.env) :: starEach [] X.env := by rfl)
    (hpl : (backTo pos (starEach [.Name x p2] X.env)).any (·.1) = false := by rfl) :
    PE X (.Call (.Name "isinstance" p) [e, .Name x p2] [] pos) (tD K (e1 (dIsi t) fa)) :=
  (pe_callB call_isi hg hm PyProof.Rows.boot_isinstance (pa_cons he (pa_cons hT pa_nil hs2) hs) (by decide) (by decide) hs hpl).to fun σ H Q ⟨g, F, O, d, E, hd, q⟩ => by
    obtain ⟨x, hx, hd⟩ := bindS hd
    obtain ⟨b, hb, rfl⟩ := mapS hd
    obtain ⟨n, h1, h2, h3⟩ := isTy_tab hb
    refine ⟨g, F, O, x, E, hx, fun v F1 H1 G1 R1 => ⟨v, .ty t.name, .type n, .type t.name, b, rfl, .ty _, rv_ty G1.f R1 h1, kit_ty ?_, q _ F1 H1 G1 (.bl b)⟩⟩
    rw [← h2]
    exact kit_tab n h3 t (mem_ty t)

/-! ### slices -/
theorem clip_is (n d : Nat) (o : Option Int) : HT.sIx n d o = clip n d o := by
  cases o <;> rfl
theorem RpAll.cut {F : Hp} {vs : List V} {ds : List D} (r : RpAll K F vs ds) (lo hi : Option Int) : RpAll K F (cutV vs lo hi) (cutD ds lo hi) := by
  unfold cutV cutD
  rw [r.len, clip_is, clip_is]
  exact (r.drop _).take _
theorem oNone : PO X none (tO K oN) := po_none.to fun σ H Q ⟨g, F, O, d, E, hd, q⟩ => by
  cases hd
  exact q F H (Grow.refl E.sub)
theorem oSome (h : PE X e (tD K fa)) : PO X (some e) (tO K (oS fa)) := (po_some h).to fun σ H Q ⟨g, F, O, d, E, hd, q⟩ => by
  obtain ⟨x, hx, hd⟩ := bindS hd
  refine ⟨g, F, O, x, E, hx, fun v F1 H1 G1 R1 => ?_⟩
  cases R1 <;> first | cases hd | skip
  exact ⟨_, rfl, q F1 H1 G1⟩
theorem nSlE {lo hi : Option Expr} {l h : M (Option Int)} {p2 : Pos} (he : PE X e (tW K fa)) (hl : PO X lo (tO K l)) (hh : PO X hi (tO K h)) : PE X (.Subscript e (.Slice lo hi none p2) pos) (tN K (nSl fa l h)) :=
  (pe_slice sl_list he hl hh).to fun σ H Q ⟨g, F, O, d, E, hd, q⟩ => by
    obtain ⟨x, hx, hd⟩ := bindS hd
    obtain ⟨i, hi, hd⟩ := bindS hd
    obtain ⟨j, hj, hd⟩ := bindS hd
    refine ⟨g, F, O, x, E, hx, fun v F1 H1 G1 R1 => ⟨g, F1, O, i, E.grow G1, hi, fun F2 H2 G2 => ⟨g, F2, O, j, (E.grow G1).grow G2, hj, fun F3 H3 G3 => ?_⟩⟩⟩
    cases x <;> first | cases hd | skip
    have R3 := (R1.grow G1.f G2).grow G2.f G3
    obtain ⟨p, vs, rfl, h1, r1⟩ := R3.lst G3.f
    exact ⟨p, vs, rfl, SqL.of h1, fun t ht => q t _ _ _ (((G1.trans G2).trans G3).trans (Grow.newU G3.f ht)) (Sub.free ((G1.h.trans G2.h).trans G3.h) ht) (Sub.free G3.f ht) upd_same (r1.cut i j)⟩
theorem dSlT {lo hi : Option Expr} {l h : M (Option Int)} {p2 : Pos} (he : PE X e (tW K fa)) (hl : PO X lo (tO K l)) (hh : PO X hi (tO K h)) : PE X (.Subscript e (.Slice lo hi none p2) pos) (tD K (eSlT fa l h)) :=
  (pe_slice sl_tupA he hl hh).to fun σ H Q ⟨g, F, O, d, E, hd, q⟩ => by
    obtain ⟨x, hx, hd⟩ := bindS hd
    obtain ⟨i, hi, hd⟩ := bindS hd
    obtain ⟨j, hj, hd⟩ := bindS hd
    refine ⟨g, F, O, x, E, hx, fun v F1 H1 G1 R1 => ⟨g, F1, O, i, E.grow G1, hi, fun F2 H2 G2 => ⟨g, F2, O, j, (E.grow G1).grow G2, hj, fun F3 H3 G3 => ?_⟩⟩⟩
    cases x <;> first | cases hd | skip
    have R3 := (R1.grow G1.f G2).grow G2.f G3
    obtain ⟨p, vs, rfl, h1, f1, r1⟩ := R3.tup G3.f
    refine ⟨p, vs, rfl, SqT.of h1, fun z => ?_, fun _ t ht => ?_⟩
    · refine q _ _ _ ((G1.trans G2).trans G3) (.tup f1 ?_)
      have r2 := r1.cut i j
      have : cutV vs i j = vs := by
        unfold cutV
        rw [z.1, z.2]
        simp
      rw [this] at r2
      exact r2
    · exact q _ _ _ (((G1.trans G2).trans G3).trans (Grow.new G3.f ht)) (.tup upd_same ((r1.cut i j).mono (Sub.new (Sub.free G3.f ht))))

/-! ### what is walked -/
def WD (K : PySem.W.Frag) (P : Hp → Prop) (J : It) (F1 : Hp) (xs : List D) : Prop :=
  Walk J xs.length (fun H => (∃ F2, Sub F1 F2 ∧ Sub F2 H) ∧ P H) (fun i H x H' => ∀ F2, Sub F1 F2 → Sub F2 H → ∃ F3, Grow F2 H F3 H' ∧ ∃ d, xs[i]? = some d ∧ Rp K F3 x d)
/-- the things stay while the frame changes what is its own -/
def tI (K : PySem.W.Frag) (f : M (List D)) : TI := fun σ H R => ∃ g F O xs, Env K O F H σ g ∧ f g = some xs ∧ ∀ J F1 H1, Grow F H F1 H1 → WD K (fun _ => True) J F1 xs → R J H1
/-- .. while nothing of what there is changes -/
def tIW (K : PySem.W.Frag) (f : M (List D)) : TI := fun σ H R => ∃ g F O xs, Env K O F H σ g ∧ f g = some xs ∧ ∀ J F1 H1, Grow F H F1 H1 → WD K (Sub H1) J F1 xs → R J H1
theorem iwOf {tg it : Expr} {f : M (List D)} (h : PI X tg it (tI K f)) : PI X tg it (tIW K f) := h.to fun σ H R ⟨g, F, O, xs, E, hx, q⟩ => ⟨g, F, O, xs, E, hx, fun J F1 H1 G1 w => q J F1 H1 G1 (w.mono (fun H h => ⟨h.1, trivial⟩) fun i H x H' hi h y => y)⟩
theorem wdL {K' : PySem.W.Frag} {P : Hp → Prop} {F1 : Hp} {p : Addr} {vs : List V} {ds : List D} (h : ∀ H, (∃ F2, Sub F1 F2 ∧ Sub F2 H) → P H → SqL K' H p vs) (r : RpAll K F1 vs ds) : WD K P (Itl K' p) F1 ds := by
  unfold WD
  rw [← r.len]
  refine walk_list.mono (fun H hH => h H hH.1 hH.2) fun i H x H' hi hH y F2 s1 s2 => ?_
  obtain ⟨rfl, hx⟩ := y
  obtain ⟨d, hd, rd⟩ := r.getV hx
  exact ⟨F2, Grow.refl s2, d, hd, rd.mono s1⟩
theorem wdT {K' : PySem.W.Frag} {P : Hp → Prop} {F1 : Hp} {p : Addr} {vs : List V} {ds : List D} (h : F1 p = some (.tup vs)) (r : RpAll K F1 vs ds) : WD K P (Itt K' p) F1 ds := by
  unfold WD
  rw [← r.len]
  refine walk_tup.mono (fun H hH => ?_) fun i H x H' hi hH y F2 s1 s2 => ?_
  · obtain ⟨F2, s1, s2⟩ := hH.1
    exact SqT.of (s2 _ _ (s1 _ _ h))
  · obtain ⟨rfl, hx⟩ := y
    obtain ⟨d, hd, rd⟩ := r.getV hx
    exact ⟨F2, Grow.refl s2, d, hd, rd.mono s1⟩
theorem wdR {P : Hp → Prop} {F1 : Hp} {lo : Int} {n : Nat} : WD K P (Itr lo n) F1 (rangeD lo n) := by
  unfold WD
  have e : (rangeD lo n).length = n := by simp [rangeD]
  rw [e]
  refine walk_range.mono (fun _ _ => trivial) fun i H x H' hi hH y F2 s1 s2 => ?_
  obtain ⟨rfl, rfl⟩ := y
  exact ⟨F2, Grow.refl s2, .int (lo + i), by simp [rangeD, hi], .int _⟩
theorem pairs_len : ∀ (k : Nat) (ds : List D), (pairs k ds).length = ds.length
  | _, [] => rfl
  | k, _ :: ds => by simp [pairs, pairs_len (k + 1) ds]
theorem pairs_get : ∀ (k : Nat) (ds : List D) (i : Nat) (d : D), ds[i]? = some d → (pairs k ds)[i]? = some (.tup [.int ((k + i : Nat) : Int), d])
  | _, [], _, _, h => by simp at h
  | k, d :: ds, 0, _, h => by simp at h; subst h; simp [pairs]
  | k, _ :: ds, i + 1, d, h => by
    have := pairs_get (k + 1) ds i d (by simpa using h)
    simp only [pairs, List.getElem?_cons_succ]
    rw [this, show k + 1 + i = k + (i + 1) by omega]
theorem wdPair {P : Hp → Prop} {J : It} {F1 : Hp} {n : Nat} {G : Hp → Prop} {xs ys : Nat → Option V} {ds : List D} (w : Walk J n G (YPair xs ys)) (hn : n = ds.length) (hG : ∀ H, (∃ F2, Sub F1 F2 ∧ Sub F2 H) → P H → G H)
    (hd : ∀ i x y, i < n → xs i = some x → ys i = some y → ∃ d e, ds[i]? = some (.tup [d, e]) ∧ Rp K F1 x d ∧ Rp K F1 y e) : WD K P J F1 ds := by
  unfold WD
  rw [← hn]
  refine w.mono (fun H hH => hG H hH.1 hH.2) fun i H x H' hi hH y F2 s1 s2 => ?_
  obtain ⟨T, u, v, rfl, hT, rfl, hu, hv⟩ := y
  obtain ⟨d, e, h1, h2, h3⟩ := hd i u v hi hu hv
  exact ⟨_, Grow.new s2 hT, _, h1, .tup upd_same (.cons ((h2.mono s1).mono (Sub.new (Sub.free s2 hT))) (.cons ((h3.mono s1).mono (Sub.new (Sub.free s2 hT))) .nil))⟩
theorem zip_len : ∀ (xs ys : List D), (zipD xs ys).length = min xs.length ys.length
  | [], _ => by simp [zipD]
  | _ :: _, [] => by simp [zipD]
  | _ :: xs, _ :: ys => by simp [zipD, zip_len xs ys]
theorem zip_get : ∀ (xs ys : List D) (i : Nat) (x y : D), xs[i]? = some x → ys[i]? = some y → (zipD xs ys)[i]? = some (.tup [x, y])
  | [], _, _, _, _, h, _ => by simp at h
  | _ :: _, [], _, _, _, _, h => by simp at h
  | x :: xs, y :: ys, 0, _, _, h, k => by simp at h k; subst h k; simp [zipD]
  | _ :: xs, _ :: ys, i + 1, x, y, h, k => by simpa [zipD] using zip_get xs ys i x y (by simpa using h) (by simpa using k)

/-- over a list (a value that stays), a tuple -/
theorem iLst {tg : Expr} (h : PE X e (tD K fa)) : PI X tg e (tI K (iSeqL fa)) := (pi_list h).to fun σ H R ⟨g, F, O, xs, E, hx, q⟩ => by
  obtain ⟨x, h1, h2⟩ := bindS hx
  refine ⟨g, F, O, x, E, h1, fun v F1 H1 G1 R1 => ?_⟩
  cases x <;> first | cases h2 | skip
  cases R1 with
  | lst hf r => exact ⟨_, rfl, ⟨_, SqL.of (G1.f _ _ hf)⟩, q _ F1 H1 G1 (wdL (fun H2 ⟨F2, s1, s2⟩ _ => SqL.of (s2 _ _ (s1 _ _ hf))) r)⟩
theorem iTupE {tg : Expr} (h : PE X e (tD K fa)) : PI X tg e (tI K (iSeqT fa)) := (pi_tup h).to fun σ H R ⟨g, F, O, xs, E, hx, q⟩ => by
  obtain ⟨x, h1, h2⟩ := bindS hx
  refine ⟨g, F, O, x, E, h1, fun v F1 H1 G1 R1 => ?_⟩
  cases x <;> first | cases h2 | skip
  cases R1 with
  | tup hf r => exact ⟨_, rfl, ⟨_, SqT.of (G1.f _ _ hf)⟩, q _ F1 H1 G1 (wdT hf r)⟩
/-- a list that is looked at -/
theorem iwLst {tg : Expr} (h : PE X e (tW K fa)) : PI X tg e (tIW K (iSeqL fa)) := (pi_list h).to fun σ H R ⟨g, F, O, xs, E, hx, q⟩ => by
  obtain ⟨x, h1, h2⟩ := bindS hx
  refine ⟨g, F, O, x, E, h1, fun v F1 H1 G1 R1 => ?_⟩
  cases x <;> first | cases h2 | skip
  obtain ⟨p, vs, rfl, hh, r⟩ := R1.lst G1.f
  exact ⟨_, rfl, ⟨_, SqL.of hh⟩, q _ F1 H1 G1 (wdL (fun H2 _ s => SqL.of (s _ _ hh)) r)⟩
/-- a list or a tuple: by what it is -/
theorem PI.or {tg it : Expr} {t t' : TI} (h : PI X tg it t) (h' : PI X tg it t') : PI X tg it (fun σ H R => t σ H R ∨ t' σ H R) := ⟨fun pins s σ H R I hw => by
  rcases hw with hw | hw
  · exact h.run pins s σ H R I hw
  · exact h'.run pins s σ H R I hw⟩
theorem iSeqE {tg : Expr} (h : PE X e (tD K fa)) : PI X tg e (tI K (iSeq fa)) := (PI.or (iLst h) (iTupE h)).to fun σ H R ⟨g, F, O, xs, E, hx, q⟩ => by
  obtain ⟨x, h1, h2⟩ := bindS hx
  cases x <;> first | cases h2 | skip
  · exact .inl ⟨g, F, O, _, E, by unfold iSeqL; rw [h1]; rfl, q⟩
  · exact .inr ⟨g, F, O, _, E, by unfold iSeqT; rw [h1]; rfl, q⟩
theorem iwSeqE {tg : Expr} (h : PE X e (tW K fa)) (h' : PE X e (tD K fa)) : PI X tg e (tIW K (iSeq fa)) := (PI.or (iwLst h) (iwOf (iTupE h'))).to fun σ H R ⟨g, F, O, xs, E, hx, q⟩ => by
  obtain ⟨x, h1, h2⟩ := bindS hx
  cases x <;> first | cases h2 | skip
  · exact .inl ⟨g, F, O, _, E, by unfold iSeqL; rw [h1]; rfl, q⟩
  · exact .inr ⟨g, F, O, _, E, by unfold iSeqT; rw [h1]; rfl, q⟩
theorem okR_is {i : Int} (h : okR i = true) : -(2 ^ 62) ≤ i ∧ i < 2 ^ 62 := by
  simpa [okR] using h
theorem iRange1 {tg : Expr} {p : Pos} (hg : Gl X "range") (hm : X.mg "range" = none) (ha : PE X a (tD K fa)) (hs : starEach [a] X.env = (false, eval a X.env) :: starEach [] X.env := by rfl) (hs' : starEach [a] X.env = [(false, eval a X.env)] := by rfl) : PI X tg (.Call (.Name "range" p) [a] [] pos) (tI K (iRng1 fa)) :=
  (pi_range1 hg hm (pa_cons ha pa_nil hs) hs').to fun σ H R ⟨g, F, O, xs, E, hx, q⟩ => by
    obtain ⟨x, h1, h2⟩ := bindS hx
    refine ⟨g, F, O, x, E, h1, fun v F1 H1 G1 R1 => ?_⟩
    cases R1 <;> first | cases h2 | skip
    rename_i j
    simp only at h2
    split at h2
    · rename_i hk
      cases h2
      exact ⟨j, rfl, (okR_is hk).1, (okR_is hk).2, q _ F1 H1 G1 wdR⟩
    · cases h2
theorem iRange2 {tg : Expr} {p : Pos} (hg : Gl X "range") (hm : X.mg "range" = none) (ha : PE X a (tD K fa)) (hb : PE X b (tD K fb)) (hs : starEach [a, b] X.env = [(false, eval a X.env), (false, eval b X.env)] := by rfl) (hs2 : starEach [b] X.env = [(false, eval b X.env)] := by rfl)
    (hs3 : starEach [a, b] X.env = (false, eval a X.env) :: starEach [b] X.env := by rfl) (hs4 : starEach [b] X.env = (false, eval b X.env) :: starEach [] X.env := by rfl) : PI X tg (.Call (.Name "range" p) [a, b] [] pos) (tI K (iRng2 fa fb)) :=
  (pi_range2 hg hm (pa_cons ha (pa_cons hb pa_nil hs4) hs3) hs hs2).to fun σ H R ⟨g, F, O, xs, E, hx, q⟩ => by
    obtain ⟨x, h1, hx⟩ := bindS hx
    obtain ⟨y, h2, hx⟩ := bindS hx
    refine ⟨g, F, O, x, E, h1, fun v F1 H1 G1 R1 => ⟨g, F1, O, y, E.grow G1, h2, fun w F2 H2 G2 R2 => ?_⟩⟩
    match x, y, hx, R1, R2 with
    | .int i, .int j, hy, R1, R2 =>
    obtain rfl := R1.intV
    obtain rfl := R2.intV
    simp only at hy
    split at hy
    · rename_i hk
      cases hy
      rw [Bool.and_eq_true] at hk
      exact ⟨i, j, rfl, ⟨(okR_is hk.1).1, (okR_is hk.1).2, (okR_is hk.2).1, (okR_is hk.2).2⟩, q _ F2 H2 (G1.trans G2) wdR⟩
    · cases hy
theorem iEnumL {p pos' : Pos} {elts : List Expr} {kk : Nat} (hg : Gl X "enumerate") (hm : X.mg "enumerate" = none) (ha : PE X a (tD K fa)) (hs : starEach [a] X.env = (false, eval a X.env) :: starEach [] X.env := by rfl) (hs' : starEach [a] X.env = [(false, eval a X.env)] := by rfl) :
    PI X (.Tuple elts kk pos') (.Call (.Name "enumerate" p) [a] [] pos) (tI K (iEnumLD fa)) := (pi_enum hg hm (pa_cons ha pa_nil hs) hs').to fun σ H R ⟨g, F, O, xs, E, hx, q⟩ => by
  obtain ⟨x, h1, h2⟩ := bindS hx
  refine ⟨g, F, O, x, E, h1, fun v F1 H1 G1 R1 => ?_⟩
  cases x <;> first | cases h2 | skip
  rename_i ds
  cases R1 with
  | lst hf r =>
    refine ⟨_, _, rfl, SqL.of (G1.f _ _ hf), q _ F1 H1 G1 (wdPair walk_enum (by rw [pairs_len, r.len]) (fun H2 ⟨F2, s1, s2⟩ _ => SqL.of (s2 _ _ (s1 _ _ hf))) fun i x y hi h3 h4 => ?_)⟩
    obtain ⟨d, h5, h6⟩ := r.getV h4
    cases h3
    refine ⟨.int i, d, ?_, .int _, h6⟩
    have := pairs_get 0 ds i d h5
    simpa using this
theorem iZipL {p pos' : Pos} {elts : List Expr} {kk : Nat} (hg : Gl X "zip") (hm : X.mg "zip" = none) (ha : PE X a (tD K fa)) (hb : PE X b (tD K fb)) (hs : starEach [a, b] X.env = (false, eval a X.env) :: starEach [b] X.env := by rfl) (hs2 : starEach [b] X.env = (false, eval b X.env) :: starEach [] X.env := by rfl)
    (hpl : (backTo pos (starEach [b] X.env)).any (·.1) = false := by rfl) : PI X (.Tuple elts kk pos') (.Call (.Name "zip" p) [a, b] [] pos) (tI K (iZip fa fb)) := (pi_zip hg hm (pa_cons ha (pa_cons hb pa_nil hs2) hs) hs hpl).to fun σ H R ⟨g, F, O, xs, E, hx, q⟩ => by
  obtain ⟨x, h1, hx⟩ := bindS hx
  obtain ⟨y, h2, hx⟩ := bindS hx
  refine ⟨g, F, O, x, E, h1, fun v F1 H1 G1 R1 => ⟨g, F1, O, y, E.grow G1, h2, fun w F2 H2 G2 R2 => ?_⟩⟩
  cases x <;> first | (cases hx; done) | skip
  cases y <;> first | (cases hx; done) | skip
  rename_i ds es
  cases hx
  cases R1.mono (G2.sub G1.f) with
  | lst hf r =>
    cases R2 with
    | lst hf2 r2 =>
      refine ⟨_, _, _, _, rfl, SqL.of (G2.f _ _ hf), SqL.of (G2.f _ _ hf2), q _ F2 H2 (G1.trans G2) (wdPair (walk_zip rfl) (by rw [zip_len, r.len, r2.len]) (fun H3 ⟨F3, s1, s2⟩ _ => ⟨SqL.of (s2 _ _ (s1 _ _ hf)), SqL.of (s2 _ _ (s1 _ _ hf2))⟩) fun i x y hi h3 h4 => ?_)⟩
      obtain ⟨d, h5, h6⟩ := r.getV h3
      obtain ⟨d2, h7, h8⟩ := r2.getV h4
      exact ⟨d, d2, zip_get _ _ _ _ _ h5 h7, h6, h8⟩

/-! ### targets -/
def SameOff (js : List Nat) (σ σ' : L2.St) : Prop := σ'.length = σ.length ∧ ∀ i, i ∉ js → σ'[i]? = σ[i]?
def tGd (K : PySem.W.Frag) (js : List Nat) (a : Tg) : TG := fun v σ H Q => ∃ g F O d g', Env K O F H σ g ∧ Rp K F v d ∧ a d g = some g' ∧ ∀ σ', SameOff js σ σ' → Env K O F H σ' g' → Q σ' H
theorem gNm {x : Str} (i : Nat) (hN : X.N.Nodup) (hi : X.N[i]? = some x := by rfl) (hx : Loc X.env.scope x := by first | exact Or.inl rfl | exact Or.inr rfl) (hf : X.fn x = true ∨ X.env.scope.names.lookup x = some .local := by first | exact .inl rfl | exact .inr rfl | assumption) : PG X (.Name x pos) (tGd K [i] (gN i)) :=
  (pg_name hN hi hx hf).to fun v σ H Q ⟨g, F, O, d, g', E, r, ha, q⟩ => by
    simp only [gN] at ha
    split at ha
    · rename_i hl
      cases ha
      refine q _ ⟨by simp, fun j hj => List.getElem?_set_ne (fun z => hj (by simp [z]))⟩ (E.set hl r)
    · cases ha
/-- several names in a tuple -/
def tGs (K : PySem.W.Frag) (js : List Nat) : TGs := fun vs σ H Q => ∃ g F O ds, Env K O F H σ g ∧ RpAll K F vs ds ∧ js.length = ds.length ∧ (∀ j ∈ js, j < g.length) ∧ ∀ σ', SameOff js σ σ' → Env K O F H σ' ((js.zip ds).foldl (fun h p => h.set p.1 (.dat p.2)) g) → Q σ' H
theorem gsNil : PGs X [] (tGs K []) := ⟨fun pins s σ H vs us Q I r ⟨g, F, O, ds, E, rr, hl, _, q⟩ => by
  refine pgs_nil.run pins s σ H vs us Q I r ?_
  have : ds = [] := List.eq_nil_of_length_eq_zero hl.symm
  subst this
  cases rr
  exact ⟨rfl, q σ ⟨rfl, fun _ _ => rfl⟩ E⟩⟩
theorem gsCons {x : Str} {es : List Expr} {js : List Nat} (i : Nat) (hN : X.N.Nodup) (hr : PGs X es (tGs K js)) (hi : X.N[i]? = some x := by rfl) (hx : Loc X.env.scope x := by first | exact Or.inl rfl | exact Or.inr rfl) (hf : X.fn x = true ∨ X.env.scope.names.lookup x = some .local := by first | exact .inl rfl | exact .inr rfl | assumption) :
    PGs X (.Name x pos :: es) (tGs K (i :: js)) := ⟨fun pins s σ H vs us Q I r ⟨g, F, O, ds, E, rr, hl, hlt, q⟩ => by
  refine (pgs_cons (pg_name hN hi hx hf) hr).run pins s σ H vs us Q I r ?_
  match vs, ds, rr, hl, q with
  | [], [], .nil, hl, q => simp at hl
  | v :: ws, d :: es', .cons h rr, hl, q =>
    refine ⟨_, _, rfl, ?_⟩
    show tGs K js ws (σ.set i (some v)) H Q
    refine ⟨_, F, O, es', E.set (hlt i (by simp)) h, rr, by simpa using hl, fun j hj => by simpa using hlt j (by simp [hj]), fun σ' hs E' => q σ' ⟨?_, fun j hj => ?_⟩ E'⟩
    · rw [hs.1]; simp
    · rw [hs.2 j (fun z => hj (by simp [z]))]
      exact List.getElem?_set_ne (fun z => hj (by simp [z]))⟩
theorem gTp {es : List Expr} {js : List Nat} {k : Nat} (hc : X.calm = true) (h : PGs X es (tGs K js)) (hn : (assignEach es X.env).length = js.length := by rfl) (hst : (assignEach es X.env).findIdx? (·.1) = none := by rfl) : PG X (.Tuple es k pos) (tGd K js (gT js)) :=
  (pg_tup hc h hn hst).to fun v σ H Q ⟨g, F, O, d, g', E, r, ha, q⟩ => by
    cases d <;> simp only [gT] at ha <;> first | (cases ha; done) | skip
    split at ha
    · rename_i hk
      cases ha
      cases r with
      | tup hf r =>
        refine ⟨_, _, rfl, SqT.of (E.sub _ _ hf), by rw [r.len, hk.1], g, F, O, _, E, r, hk.1, fun j hj => by simpa using (List.all_eq_true.mp hk.2) j hj, q⟩
    · cases ha

/-! ### comprehensions -/
theorem wipe_get (σ : L2.St) : ∀ (vs : List Nat) (i : Nat), (wipe σ vs)[i]? = if i ∈ vs ∧ i < σ.length then some none else σ[i]?
  | [], i => by simp [wipe]
  | v :: vs, i => by
    have ih := wipe_get σ vs i
    have hl := wipe_length σ vs
    show ((wipe σ vs).set v none)[i]? = _
    by_cases hv : v = i
    · subst hv
      by_cases hs : v < σ.length
      · rw [List.getElem?_set_self (by omega), if_pos ⟨by simp, hs⟩]
      · rw [List.getElem?_eq_none (by simp; omega), if_neg (fun z => hs z.2), List.getElem?_eq_none (by omega)]
    · rw [List.getElem?_set_ne hv, ih]
      by_cases hm : i ∈ vs
      · simp [hm, Ne.symm hv]
      · simp [hm, Ne.symm hv]
theorem wipe_same {σ σ' : L2.St} {js vs : List Nat} (h : SameOff js (wipe σ vs) σ') (hj : ∀ j ∈ js, j ∈ vs) : wipe σ' vs = wipe σ vs := by
  apply List.ext_getElem?
  intro i
  have hl : σ'.length = σ.length := by rw [h.1, wipe_length]
  rw [wipe_get, wipe_get, hl]
  by_cases hm : i ∈ vs ∧ i < σ.length
  · rw [if_pos hm, if_pos hm]
  · rw [if_neg hm, if_neg hm]
    by_cases hk : i ∈ vs
    · rw [List.getElem?_eq_none (by rw [hl]; by_cases h2 : i < σ.length <;> simp_all), List.getElem?_eq_none (by by_cases h2 : i < σ.length <;> simp_all)]
    · rw [h.2 i (fun z => hk (hj i z)), wipe_get, if_neg hm]
theorem runLc {js vs : List Nat} {it : M (List D)} {tg : Tg} {t : M Bool} {f : M D} (hj : ∀ j ∈ js, j ∈ vs) : ∀ σ H Q, tN K (nLc it tg t f vs) σ H Q → tLc (tIW K it) (tGd K js tg) (tT K t) (tD K f) vs σ H Q := fun σ H Q ⟨g, F, O, ds, E, hd, q⟩ => by
  obtain ⟨xs, h1, h2⟩ := bindS hd
  refine ⟨g, F, O, xs, E, h1, fun J F1 H1 G1 w Dl hD => ?_⟩
  have EW := fun (F2 H2 : Hp) (G2 : Grow F1 H1 F2 H2) => ((E.grow G1).grow G2).wipe vs
  refine lc_it w (D := Dl) (fun i H' => ∃ F2 us acc, Grow F1 H1 F2 H' ∧ H' Dl = some (.lst us) ∧ F2 Dl = none ∧ RpAll K F2 us acc ∧ lcGo tg t f (wipeG g vs) (xs.drop i) acc = some ds) ?_ ?_ ?_ ?_
  · exact ⟨F1, [], [], Grow.newU G1.f hD, upd_same, Sub.free G1.f hD, .nil, h2⟩
  · rintro i H' hi ⟨F2, us, acc, G2, _⟩
    exact ⟨⟨F2, G2.sub G1.f, G2.f⟩, G2.h⟩
  · rintro i x H2 H3 hi ⟨F2, us, acc, G2, hl, hf, hr, hg⟩ y
    obtain ⟨F3, G3, d, hx, rd⟩ := y F2 (G2.sub G1.f) G2.f
    have hdr : xs.drop i = d :: xs.drop (i + 1) := by
      have hlt := (List.getElem?_eq_some_iff.mp hx)
      obtain ⟨h4, h5⟩ := hlt
      rw [← h5]
      exact List.drop_eq_getElem_cons h4
    rw [hdr] at hg
    obtain ⟨g1, hg1, hg⟩ := bindS hg
    obtain ⟨b, hb, hg⟩ := bindS hg
    have G13 := G2.trans G3
    have hl3 : H3 Dl = some (.lst us) := G3.h _ _ hl
    have hf3 : F3 Dl = none := (G3.k _ _ hl).trans hf
    refine ⟨wipeG g vs, F3, O, d, g1, EW F3 H3 G13, rd, hg1, fun σ' so E' => ⟨wipe_same so hj, g1, F3, O, b, E', hb, fun F4 H4 G4 => ?_⟩⟩
    have hl4 : H4 Dl = some (.lst us) := G4.h _ _ hl3
    have hf4 : F4 Dl = none := (G4.k _ _ hl3).trans hf3
    show if b = true then _ else _
    cases b with
    | true =>
      rw [if_pos rfl] at hg ⊢
      obtain ⟨y, hy, hg⟩ := bindS hg
      refine ⟨g1, F4, O, y, E'.grow G4, hy, fun v F5 H5 G5 R5 => ?_⟩
      have hl5 : H5 Dl = some (.lst us) := G5.h _ _ hl4
      have hf5 : F5 Dl = none := (G5.k _ _ hl4).trans hf4
      have r5 : RpAll K F5 us acc := hr.mono (((G3.trans G4).trans G5).sub G2.f)
      split at hg
      · rename_i hz
        refine ⟨us, hl5, by rw [r5.len, ← lim_is]; exact hz, F5, us ++ [v], acc ++ [y], ?_, upd_same, hf5, r5.app (.cons R5 .nil), hg⟩
        have G15 := (G13.trans G4).trans G5
        exact ⟨fun p o e => by rw [upd_ne (ne_of_none e hD)]; exact G15.h p o e, G15.f.updR hf5, G15.k⟩
      · cases hg
    | false =>
      rw [if_neg (by decide)] at hg ⊢
      exact ⟨F4, us, acc, G13.trans G4, hl4, hf4, hr.mono ((G3.trans G4).sub G2.f), hg⟩
  · rintro H' ⟨F2, us, acc, G2, hl, hf, hr, hg⟩
    rw [List.drop_length] at hg
    cases hg
    exact q Dl us F2 H' (G1.trans G2) (Sub.free G1.h hD) hf hl hr
theorem ptsNil : PTs X [] (tT K DL.tYes) := pts_nil.to fun σ H Q ⟨g, F, O, b, E, hb, q⟩ => by
  cases hb
  exact q F H (Grow.refl E.sub)
theorem nLcE {elt tg iter : Expr} {ifs : List Expr} {scope : Scope} {own : List (Str × Nat)} {js : List Nat} {it : M (List D)} {tgd : Tg} {t : M Bool} {f : M D} (hc : X.calm = true) (hN : X.N.Nodup) (ok : BlkOk X.N X.env.scope scope own) (hi : PI X tg iter (tIW K it))
    (hg : ∀ (s : Shared) (H : Hp) (C : Addr) (cl : List (Str × Addr)) (fp : List Addr), PG (X.blk s H scope (compEnvC scope cl C X.env) fp) tg (tGd K js tgd)) (ht : ∀ (s : Shared) (H : Hp) (C : Addr) (cl : List (Str × Addr)) (fp : List Addr), PTs (X.blk s H scope (compEnvC scope cl C X.env) fp) ifs (tT K t))
    (he : ∀ (s : Shared) (H : Hp) (C : Addr) (cl : List (Str × Addr)) (fp : List Addr), PE (X.blk s H scope (compEnvC scope cl C X.env) fp) elt (tD K f)) (hj : ∀ j ∈ js, j ∈ own.map (·.2)) (hs : ∀ x, foldedSetIterable iter X.env x = pure x := by intro _; rfl) :
    PE X (.ListComp elt [⟨tg, iter, ifs, 0⟩] scope pos) (tN K (nLc it tgd t f (own.map (·.2)))) := (pe_lc hc hN hi ok hg ht he hs).to (runLc hj)
end
end DL
end
/-! Dl5 -/
section
set_option Elab.async false
set_option linter.all false
set_option maxRecDepth 100000
set_option maxHeartbeats 4000000
/-! Dl5: statements, defs, calls. -/
namespace DL
open PySem PySem.Spec PyProof.Rows L2
variable {K : PySem.W.Frag}

def Sat (K : PySem.W.Frag) (H0 F0 Fl : Hp) (Dn : Ends) : Out → Prop
  | .nx g => ∀ σ' O' F' H', Env K O' F' H' σ' g → Old H0 F0 Fl O' F' H' → Dn.nx σ' H'
  | .bk g => ∀ σ' O' F' H', Env K O' F' H' σ' g → Old H0 F0 Fl O' F' H' → Dn.bk σ' H'
  | .ct g => ∀ σ' O' F' H', Env K O' F' H' σ' g → Old H0 F0 Fl O' F' H' → Dn.ct σ' H'
  | .rt d => ∀ v F' H', Grow F0 H0 F' H' → Rp K F' v d → Dn.rt v H'
  | .rtO ds => ∀ p vs F' H', Grow F0 H0 F' H' → H0 p = none → F' p = none → H' p = some (.lst vs) → RpAll K F' vs ds → Dn.rt (.ref p) H'
def tS (K : PySem.W.Frag) (f : S) : TS := fun Dn σ H => ∃ g F O H0 F0 Fl out, Env K O F H σ g ∧ Old H0 F0 Fl O F H ∧ f g = some out ∧ Sat K H0 F0 Fl Dn out

section
variable {X : Cx} {a b c e : Expr} {pos : Pos} {fa fb fc : M D} {st : Stmt} {sts : List Stmt} {s t : S}

theorem ssNil : PSs X [] (tS K sNext) := pss_nil.to fun Dn σ H ⟨g, F, O, H0, F0, Fl, out, E, Od, h, q⟩ => by
  cases h
  exact q σ O F H E Od
theorem sPass : PS X (.Pass pos) (tS K sNext) := ps_pass.to fun Dn σ H ⟨g, F, O, H0, F0, Fl, out, E, Od, h, q⟩ => by
  cases h
  exact q σ O F H E Od
theorem sBreak : PS X (.Break pos) (tS K sBk) := ps_break.to fun Dn σ H ⟨g, F, O, H0, F0, Fl, out, E, Od, h, q⟩ => by
  cases h
  exact q σ O F H E Od
theorem sContinue : PS X (.Continue pos) (tS K sCt) := ps_continue.to fun Dn σ H ⟨g, F, O, H0, F0, Fl, out, E, Od, h, q⟩ => by
  cases h
  exact q σ O F H E Od
theorem sNeverE : PS X st (tS K sNever) := ps_never.to fun Dn σ H ⟨g, F, O, H0, F0, Fl, out, E, Od, h, q⟩ => by cases h
theorem ssCons (h1 : PS X st (tS K s)) (h2 : PSs X sts (tS K t)) : PSs X (st :: sts) (tS K (sSeq s t)) := (pss_cons h1 h2).to fun Dn σ H ⟨g, F, O, H0, F0, Fl, out, E, Od, h, q⟩ => by
  obtain ⟨o, ho, h⟩ := bindS h
  refine ⟨g, F, O, H0, F0, Fl, o, E, Od, ho, ?_⟩
  cases o with
  | nx g1 => exact fun σ' O' F' H' E' Od' => ⟨g1, F', O', H0, F0, Fl, out, E', Od', h, q⟩
  | bk g1 => cases h; exact q
  | ct g1 => cases h; exact q
  | rt d => cases h; exact q
  | rtO d => cases h; exact q
theorem ssOne (h1 : PS X st (tS K s)) : PSs X [st] (tS K s) := pss_one h1
/-- what is known is said in another way -/
theorem ssVia {f : G → G} (hf : ∀ O F H H0 F0 Fl σ g, Env K O F H σ g → Old H0 F0 Fl O F H → ∃ O' F', Env K O' F' H σ (f g) ∧ Old H0 F0 Fl O' F' H) (h : PSs X sts (tS K s)) : PSs X sts (tS K (sVia f s)) := h.to fun Dn σ H ⟨g, F, O, H0, F0, Fl, out, E, Od, h, q⟩ => by
  obtain ⟨O', F', E', Od'⟩ := hf O F H H0 F0 Fl σ g E Od
  exact ⟨f g, F', O', H0, F0, Fl, out, E', Od', h, q⟩
theorem ssForget (i : Nat) (h : PSs X sts (tS K s)) : PSs X sts (tS K (sVia (forget i) s)) := ssVia (fun O F H H0 F0 Fl σ g E Od => ⟨O, F, E.forget i, Od⟩) h
theorem old_freeze {H0 F0 Fl : Hp} {O : Addr → Option Nat} {F H : Hp} (Od : Old H0 F0 Fl O F H) {p : Addr} {i : Nat} {o : HO} (hp : O p = some i) (hf : F p = none) : Old H0 F0 Fl (fun q => if q = p then none else O q) (upd F p o) H :=
  ⟨Od.h, fun q u e => by rw [upd_ne (ne_of_none e (Od.n p i hp))]; exact Od.k q u e, fun q j hq => by
    by_cases z : q = p
    · rw [if_pos z] at hq; cases hq
    · rw [if_neg z] at hq; exact Od.n q j hq, Od.fl.trans (Sub.new hf)⟩
theorem ssFreeze (i : Nat) (h : PSs X sts (tS K s)) : PSs X sts (tS K (sVia (freeze i) s)) := ssVia (fun O F H H0 F0 Fl σ g E Od => by
  unfold freeze
  split
  · rename_i ds hg
    obtain ⟨p, vs, e1, e2, e3, e4⟩ := E.at' i _ hg
    exact ⟨_, _, E.freeze e2 e3 e1 (.lst upd_same (e4.mono (Sub.new (E.own p i e2).2))), old_freeze Od e2 (E.own p i e2).2⟩
  · rename_i ds hg
    obtain ⟨p, vs, e1, e2, e3, e4⟩ := E.at' i _ hg
    exact ⟨_, _, E.freeze e2 e3 e1 (.dct upd_same (e4.mono (Sub.new (E.own p i e2).2))), old_freeze Od e2 (E.own p i e2).2⟩
  · exact ⟨O, F, E, Od⟩) h

/-! ### assignments -/
theorem asgD (i : Nat) {f : M D} : ∀ Dn σ H, tS K (sSet i f) Dn σ H → tAsg (tD K f) (gName i) Dn σ H := fun Dn σ H ⟨g, F, O, H0, F0, Fl, out, E, Od, h, q⟩ => by
  obtain ⟨d, hd, h⟩ := bindS h
  split at h
  · rename_i hi
    cases h
    exact ⟨g, F, O, d, E, hd, fun v F' H' G R => q _ O F' H' ((E.grow G).set hi R) (Od.grow E.sub G)⟩
  · cases h
theorem old_claim {H0 F0 Fl : Hp} {O : Addr → Option Nat} {F H F1 H1 : Hp} (Od : Old H0 F0 Fl O F H) (s : Sub F H) (G : Grow F H F1 H1) {p : Addr} (i : Nat) (hp : H p = none) : Old H0 F0 Fl (claim O p i) F1 H1 := by
  have x := Od.grow s G
  refine ⟨x.h, x.k, fun q j hq => ?_, x.fl⟩
  unfold claim at hq
  by_cases z : q = p
  · subst z; exact Sub.free Od.h hp
  · rw [if_neg z] at hq; exact x.n q j hq
theorem own_free {O : Addr → Option Nat} {F H : Hp} {σ : L2.St} {g : G} (E : Env K O F H σ g) {p : Addr} (hp : H p = none) : O p = none := by
  cases h : O p with
  | none => rfl
  | some i =>
    obtain ⟨⟨o, ho⟩, _⟩ := E.own p i h
    rw [hp] at ho; cases ho
theorem asgN (i : Nat) {f : M (List D)} : ∀ Dn σ H, tS K (sOwn i f) Dn σ H → tAsg (tN K f) (gName i) Dn σ H := fun Dn σ H ⟨g, F, O, H0, F0, Fl, out, E, Od, h, q⟩ => by
  obtain ⟨d, hd, h⟩ := bindS h
  split at h
  · rename_i hi
    cases h
    refine ⟨g, F, O, d, E, hd, fun p vs F' H' G hp hf hh R => q _ (claim O p i) F' H' ((E.grow G).take hi hh hf (own_free E hp) ⟨p, vs, rfl, ?_, hh, R⟩) (old_claim Od E.sub G i hp)⟩
    unfold claim; rw [if_pos rfl]
  · cases h
section
variable {x : Str} {pos' : Pos}
theorem sSetE (i : Nat) (hN : X.N.Nodup) (he : PE X e (tD K fa)) (hi : X.N[i]? = some x := by rfl) (hx : Loc X.env.scope x := by first | exact Or.inl rfl | exact Or.inr rfl) (hs : swapsWith e (some (.Name x pos')) pos.line X.env = pure false := by rfl)
    (hf : X.fn x = true ∨ X.env.scope.names.lookup x = some .local := by first | exact .inl rfl | exact .inr rfl | assumption) : PS X (.Assign [.Name x pos'] e pos) (tS K (sSet i fa)) := (ps_set hN hi hx he hs hf).to (asgD i)
theorem sOwnE (i : Nat) {f : M (List D)} (hN : X.N.Nodup) (he : PE X e (tN K f)) (hi : X.N[i]? = some x := by rfl) (hx : Loc X.env.scope x := by first | exact Or.inl rfl | exact Or.inr rfl) (hs : swapsWith e (some (.Name x pos')) pos.line X.env = pure false := by rfl)
    (hf : X.fn x = true ∨ X.env.scope.names.lookup x = some .local := by first | exact .inl rfl | exact .inr rfl | assumption) : PS X (.Assign [.Name x pos'] e pos) (tS K (sOwn i f)) := (ps_set hN hi hx he hs hf).to (asgN i)
theorem sTgtE {tg : Expr} {js : List Nat} {tgd : Tg} (he : PE X e (tD K fa)) (hg : PG X tg (tGd K js tgd)) (hs : swapsWithSole [tg] e pos.line X.env = pure false := by rfl) (hw : swappedStores [tg] e X.env = pure none := by rfl) (h1 : (assignEach [tg] X.env).map (·.2) = [assign tg X.env] := by rfl) : PS X (.Assign [tg] e pos) (tS K (sTgt tgd fa)) :=
  (ps_asg he hg hs hw h1).to fun Dn σ H ⟨g, F, O, H0, F0, Fl, out, E, Od, h, q⟩ => by
    obtain ⟨d, hd, h⟩ := bindS h
    obtain ⟨g', hg', rfl⟩ := mapS h
    exact ⟨g, F, O, d, E, hd, fun v F' H' G R => ⟨g, F', O, d, g', E.grow G, R, hg', fun σ' _ E' => q σ' O F' H' E' (Od.grow E.sub G)⟩⟩
/-- x = [..], x a local -/
theorem sSetLc {y : Str} {i : Nat} {py spos : Pos} {elt tg iter : Expr} {ifs : List Expr} {scope : Scope} {own : List (Str × Nat)} {js : List Nat} {it : M (List D)} {tgd : Tg} {t : M Bool} {f : M D} (hc : X.calm = true) (hN : X.N.Nodup) (ok : BlkOk X.N X.env.scope scope own)
    (hsw : swapsWith (.ListComp elt [⟨tg, iter, ifs, 0⟩] scope pos) (some (.Name y py)) spos.line X.env = pure true) (hi : PI X tg iter (tIW K it))
    (hg : ∀ (s : Shared) (H : Hp) (C : Addr) (cl : List (Str × Addr)) (fp : List Addr), PG (X.blk s H scope (compEnvC scope cl C X.env) fp) tg (tGd K js tgd)) (ht : ∀ (s : Shared) (H : Hp) (C : Addr) (cl : List (Str × Addr)) (fp : List Addr), PTs (X.blk s H scope (compEnvC scope cl C X.env) fp) ifs (tT K t))
    (he : ∀ (s : Shared) (H : Hp) (C : Addr) (cl : List (Str × Addr)) (fp : List Addr), PE (X.blk s H scope (compEnvC scope cl C X.env) fp) elt (tD K f)) (hj : ∀ j ∈ js, j ∈ own.map (·.2)) (hy : X.N[i]? = some y := by rfl) (hyl : X.env.scope.names.lookup y = some .local := by rfl) (hs : ∀ x, foldedSetIterable iter X.env x = pure x := by intro _; rfl) :
    PS X (.Assign [.Name y py] (.ListComp elt [⟨tg, iter, ifs, 0⟩] scope pos) spos) (tAsg (tN K (nLc it tgd t f (own.map (·.2)))) (gName i)) :=
  (ps_setLc hc hN hy hyl hsw hi ok hg ht he hs).to fun Dn σ H h => runLc hj σ H _ h
theorem PS.set {i : Nat} {f : M (List D)} (h : PS X st (tAsg (tN K f) (gName i))) : PS X st (tS K (sSet i (eL f))) := h.to fun Dn σ H ⟨g, F, O, H0, F0, Fl, out, E, Od, h, q⟩ => by
  obtain ⟨d, hd, h⟩ := bindS h
  obtain ⟨ds, hds, hd⟩ := bindS hd
  cases hd
  split at h
  · rename_i hi
    cases h
    refine ⟨g, F, O, ds, E, hds, fun p vs F' H' G hp hf hh R => q _ O (upd F' p (.lst vs)) H' ((E.grow (G.freeze hp hh)).set hi (.lst upd_same (R.mono (Sub.new hf)))) (Od.grow E.sub (G.freeze hp hh))⟩
  · cases h
theorem PS.own {i : Nat} {f : M (List D)} (h : PS X st (tAsg (tN K f) (gName i))) : PS X st (tS K (sOwn i f)) := h.to (asgN i)
theorem sNewDE (i : Nat) (hN : X.N.Nodup) (hi : X.N[i]? = some x := by rfl) (hx : Loc X.env.scope x := by first | exact Or.inl rfl | exact Or.inr rfl) {p2 : Pos} (hs : swapsWith (.Dict [] [] p2) (some (.Name x pos')) pos.line X.env = pure false := by rfl)
    (hf : X.fn x = true ∨ X.env.scope.names.lookup x = some .local := by first | exact .inl rfl | exact .inr rfl | assumption) : PS X (.Assign [.Name x pos'] (.Dict [] [] p2) pos) (tS K (sNewD i)) := (ps_set hN hi hx pe_dnewK hs hf).to fun Dn σ H ⟨g, F, O, H0, F0, Fl, out, E, Od, h, q⟩ => by
  simp only [sNewD] at h
  split at h
  · rename_i hi
    cases h
    intro p hp
    have G : Grow F H F (upd H p (.dK [])) := Grow.newU E.sub hp
    refine q _ (claim O p i) F _ ((E.grow G).take hi upd_same (Sub.free E.sub hp) (own_free E hp) ⟨p, [], rfl, ?_, upd_same, .nil⟩) (old_claim Od E.sub G i hp)
    unfold claim; rw [if_pos rfl]
  · cases h
end
theorem sRetE (he : PE X e (tD K fa)) : PS X (.Return (some e) pos) (tS K (sRet fa)) := (ps_ret he).to fun Dn σ H ⟨g, F, O, H0, F0, Fl, out, E, Od, h, q⟩ => by
  obtain ⟨d, hd, rfl⟩ := mapS h
  exact ⟨g, F, O, d, E, hd, fun v F' H' G R => q v F' H' ((Od.gr E.sub).trans G) R⟩
theorem sRetNLE {f : M (List D)} (he : PE X e (tN K f)) : PS X (.Return (some e) pos) (tS K (sRetNL f)) := (ps_ret he).to fun Dn σ H ⟨g, F, O, H0, F0, Fl, out, E, Od, h, q⟩ => by
  obtain ⟨d, hd, rfl⟩ := mapS h
  exact ⟨g, F, O, d, E, hd, fun p vs F' H' G hp hf hh R => q p vs F' H' ((Od.gr E.sub).trans G) (Sub.free Od.h hp) hf hh R⟩
theorem sRetOE (i : Nat) {x : Str} {p2 : Pos} (hN : X.N[i]? = some x := by rfl) (hv : Vis X.env.scope x := by first | exact Or.inl rfl | exact Or.inr (Or.inl rfl) | exact Or.inr (Or.inr rfl)) (hd : (x == ("__debug__" : Str)) = false := by decide)
    (hcd : (x == ("__classdict__" : Str)) = false := by decide) : PS X (.Return (some (.Name x p2)) pos) (tS K (sRetO i)) := (ps_ret (pe_var hN hv hd hcd)).to fun Dn σ H ⟨g, F, O, H0, F0, Fl, out, E, Od, h, q⟩ => by
  simp only [sRetO] at h
  split at h
  · rename_i ds hg
    cases h
    obtain ⟨p, vs, e1, e2, e3, e4⟩ := E.at' i _ hg
    exact ⟨_, e1, q p vs F H (Od.gr E.sub) (Od.n p i e2) (E.own p i e2).2 e3 e4⟩
  · cases h
theorem sRetNE : PS X (.Return none pos) (tS K sRetN) := ps_retN.to fun Dn σ H ⟨g, F, O, H0, F0, Fl, out, E, Od, h, q⟩ => by
  cases h
  exact q .non F H (Od.gr E.sub) .non
theorem sIfE {c : Expr} {tc : M Bool} {sa sb : List Stmt} (hc : PT X c (tT K tc)) (ha : PSs X sa (tS K s)) (hb : PSs X sb (tS K t)) : PS X (.If c sa sb pos) (tS K (sIf tc s t)) := (ps_if hc ha hb).to fun Dn σ H ⟨g, F, O, H0, F0, Fl, out, E, Od, h, q⟩ => by
  obtain ⟨x, hx, h⟩ := bindS h
  refine ⟨g, F, O, x, E, hx, fun F1 H1 G => ?_⟩
  cases x with
  | true =>
    rw [if_pos rfl] at h ⊢
    exact ⟨g, F1, O, H0, F0, Fl, out, E.grow G, Od.grow E.sub G, h, q⟩
  | false =>
    rw [if_neg (by decide)] at h ⊢
    exact ⟨g, F1, O, H0, F0, Fl, out, E.grow G, Od.grow E.sub G, h, q⟩
theorem sDropE (he : PE X e (tD K fa)) (hs : swapsWith e none pos.line X.env = pure false := by rfl) : PS X (.Expr e pos) (tS K (sDrop fa)) := (ps_expr he hs).to fun Dn σ H ⟨g, F, O, H0, F0, Fl, out, E, Od, h, q⟩ => by
  obtain ⟨d, hd, rfl⟩ := mapS h
  exact ⟨g, F, O, d, E, hd, fun v F' H' G R => q σ O F' H' (E.grow G) (Od.grow E.sub G)⟩

/-! ### loops -/
theorem sForE {tg iter : Expr} {body : List Stmt} {it : M (List D)} {js : List Nat} {tgd : Tg} (hp : PassesOwn (model X.prog X.w) X.A X.env X.xe) (hc : X.calm = true) (hi : PI X tg iter (tI K it)) (hg : PG X tg (tGd K js tgd)) (hb : PSs X body (tS K s))
    (hs : ∀ x, foldedSetIterable iter X.env x = pure x := by intro _; rfl) : PS X (.For tg iter body [] pos) (tS K (sFor it tgd s)) := (ps_for hp hc hi hg hb hs).to fun Dn σ H ⟨g, F, O, H0, F0, Fl, out, E, Od, h, q⟩ => by
  obtain ⟨xs, hx, h⟩ := bindS h
  refine ⟨g, F, O, xs, E, hx, fun J F1 H1 G1 w => ?_⟩
  have Od1 := Od.grow E.sub G1
  refine for_it w (D := Dn) (fun i σ' H' => ∃ g' F' O', Env K O' F' H' σ' g' ∧ Old H0 F0 F1 O' F' H' ∧ forGo tgd s (xs.drop i) g' = some out) ?_ ?_ ?_ ?_
  · exact ⟨g, F1, O, E.grow G1, ⟨Od1.h, Od1.k, Od1.n, Sub.rfl' F1⟩, h⟩
  · rintro i σ' H' hi ⟨g', F', O', E', Od', _⟩
    exact ⟨⟨F', Od'.fl, E'.sub⟩, trivial⟩
  · rintro i x σ' H2 H3 hi ⟨g', F', O', E', Od', hgo⟩ y
    obtain ⟨F3, G3, d, hxd, rd⟩ := y F' Od'.fl E'.sub
    have hdr : xs.drop i = d :: xs.drop (i + 1) := by
      obtain ⟨h4, h5⟩ := List.getElem?_eq_some_iff.mp hxd
      rw [← h5]
      exact List.drop_eq_getElem_cons h4
    rw [hdr] at hgo
    obtain ⟨g1, hg1, hgo⟩ := bindS hgo
    obtain ⟨o, ho, hgo⟩ := bindS hgo
    have Od3 := Od'.grow E'.sub G3
    have hfl : Sub Fl F1 := Od1.fl
    refine ⟨g', F3, O', d, g1, E'.grow G3, rd, hg1, fun σ2 so E2 => ⟨g1, F3, O', H0, F0, F1, o, E2, Od3, ho, ?_⟩⟩
    cases o with
    | nx g2 => exact fun σ4 O4 F4 H4 E4 Od4 => ⟨g2, F4, O4, E4, Od4, hgo⟩
    | ct g2 => exact fun σ4 O4 F4 H4 E4 Od4 => ⟨g2, F4, O4, E4, Od4, hgo⟩
    | bk g2 =>
      cases hgo
      exact fun σ4 O4 F4 H4 E4 Od4 => q σ4 O4 F4 H4 E4 ⟨Od4.h, Od4.k, Od4.n, hfl.trans Od4.fl⟩
    | rt d2 => cases hgo; exact q
    | rtO d2 => cases hgo; exact q
  · rintro σ' H' ⟨g', F', O', E', Od', hgo⟩
    rw [List.drop_length] at hgo
    cases hgo
    exact q σ' O' F' H' E' ⟨Od'.h, Od'.k, Od'.n, Od1.fl.trans Od'.fl⟩
theorem sWhileE (n : Nat) {c : Expr} {body : List Stmt} {tc : M Bool} (hp : PassesOwn (model X.prog X.w) X.A X.env X.xe) (hc : PT X c (tT K tc)) (hb : PSs X body (tS K s)) : PS X (.While c body [] pos) (tS K (sWhile n tc s)) := (ps_while hp hc hb).to fun Dn σ H ⟨g, F, O, H0, F0, Fl, out, E, Od, h, q⟩ => by
  refine ⟨fun m σ' H' => ∃ g' F' O', Env K O' F' H' σ' g' ∧ Old H0 F0 Fl O' F' H' ∧ whileGo tc s m g' = some out, ⟨n, g, F, O, E, Od, h⟩, ?_⟩
  rintro m σ' H' ⟨g', F', O', E', Od', hgo⟩
  cases m with
  | zero => cases hgo
  | succ m =>
    obtain ⟨b, hb', hgo⟩ := bindS hgo
    refine ⟨g', F', O', b, E', hb', fun F1 H1 G1 => ?_⟩
    cases b with
    | true =>
      rw [if_pos rfl] at hgo ⊢
      obtain ⟨o, ho, hgo⟩ := bindS hgo
      refine ⟨fun σ4 H4 => ∃ g4 F4 O4, Env K O4 F4 H4 σ4 g4 ∧ Old H0 F0 Fl O4 F4 H4 ∧ whileGo tc s m g4 = some out, fun σ4 H4 h4 => ⟨m, Nat.lt_succ_self m, h4⟩, g', F1, O', H0, F0, Fl, o, E'.grow G1, Od'.grow E'.sub G1, ho, ?_⟩
      cases o with
      | nx g2 => exact fun σ4 O4 F4 H4 E4 Od4 => ⟨g2, F4, O4, E4, Od4, hgo⟩
      | ct g2 => exact fun σ4 O4 F4 H4 E4 Od4 => ⟨g2, F4, O4, E4, Od4, hgo⟩
      | bk g2 => cases hgo; exact q
      | rt d2 => cases hgo; exact q
      | rtO d2 => cases hgo; exact q
    | false =>
      rw [if_neg (by decide)] at hgo ⊢
      cases hgo
      exact q σ' O' F1 H1 (E'.grow G1) (Od'.grow E'.sub G1)

/-! ### own lists changed -/
theorem old_write {H0 F0 Fl : Hp} {O : Addr → Option Nat} {F H : Hp} (Od : Old H0 F0 Fl O F H) {p : Addr} {i : Nat} {o : HO} (hp : O p = some i) : Old H0 F0 Fl O F (upd H p o) :=
  ⟨Od.h.updR (Od.n p i hp), Od.k, Od.n, Od.fl⟩
section
variable {x : Str} {p2 p3 : Pos}
theorem sAppE (i : Nat) (he : PE X e (tD K fa)) (hN : X.N[i]? = some x := by rfl) (hv : Vis X.env.scope x := by first | exact Or.inl rfl | exact Or.inr (Or.inl rfl) | exact Or.inr (Or.inr rfl)) (hd : (x == ("__debug__" : Str)) = false := by decide)
    (hcd : (x == ("__classdict__" : Str)) = false := by decide) (hbase : attributeBase (.Name x p2) "append" X.env (eval (.Name x p2) X.env) = eval (.Name x p2) X.env := by rfl)
    (hfew : ((backTo pos (starEach (e :: []) X.env)).all (fun x => !x.1) && (backToKw pos (keywordEach [] X.env)).all (fun x => x.1.isSome) && decide ((e :: ([] : List Expr)).length + ([] : List Keyword).length + (if ([] : List Keyword).isEmpty then 0 else 1) < 30)) = true := by rfl)
    (hline : (p3.endLine == pos.line) = true := by rfl) (hs : starEach (e :: []) X.env = (false, eval e X.env) :: starEach [] X.env := by rfl) (hpl : (backTo pos (starEach [] X.env)).any (·.1) = false := by rfl) {pe : Pos}
    (hsw : swapsWith (.Call (.Attribute (.Name x p2) "append" p3) [e] [] pos) none pe.line X.env = pure false := by rfl) :
    PS X (.Expr (.Call (.Attribute (.Name x p2) "append" p3) [e] [] pos) pe) (tS K (sApp i fa)) :=
  (ps_expr (pe_bm PySem.F.plainAttrs_list PySem.F.slot_list_append PySem.F.type_list_append mt_append (pe_var hN hv hd hcd) (pa_cons he pa_nil hs) hbase hfew hline hs hpl) hsw).to fun Dn σ H ⟨g, F, O, H0, F0, Fl, out, E, Od, h, q⟩ => by
    obtain ⟨d, hd, h⟩ := bindS h
    split at h
    · rename_i ds hg
      split at h
      · rename_i hz
        cases h
        obtain ⟨p, vs, e1, e2, e3, e4⟩ := E.at' i _ hg
        refine ⟨_, e1, .inl ⟨rfl, vs, SqL.of e3⟩, g, F, O, d, E, hd, fun v F1 H1 G1 R1 => ?_⟩
        have E1 := E.grow G1
        have r1 := e4.mono (G1.sub E.sub)
        refine ⟨p, vs, v, rfl, rfl, G1.h _ _ e3, by rw [e4.len, ← lim_is]; exact hz, ?_⟩
        exact q σ O F1 _ (E1.write e2 ⟨p, _, e1, e2, upd_same, r1.app (.cons R1 .nil)⟩) (old_write (Od.grow E.sub G1) e2)
      · cases h
    · cases h
theorem sPopE (y i : Nat) {z : Str} {pz pe : Pos} (hNd : X.N.Nodup) (hy : X.N[y]? = some z := by rfl) (hx : Loc X.env.scope z := by first | exact Or.inl rfl | exact Or.inr rfl) (hf : X.fn z = true ∨ X.env.scope.names.lookup z = some .local := by first | exact .inl rfl | exact .inr rfl | assumption)
    (hN : X.N[i]? = some x := by rfl) (hv : Vis X.env.scope x := by first | exact Or.inl rfl | exact Or.inr (Or.inl rfl) | exact Or.inr (Or.inr rfl)) (hd : (x == ("__debug__" : Str)) = false := by decide)
    (hcd : (x == ("__classdict__" : Str)) = false := by decide) (hbase : attributeBase (.Name x p2) "pop" X.env (eval (.Name x p2) X.env) = eval (.Name x p2) X.env := by rfl) (hline : (p3.endLine == pos.line) = true := by rfl)
    (hsw : swapsWith (.Call (.Attribute (.Name x p2) "pop" p3) [] [] pos) (some (.Name z pz)) pe.line X.env = pure false := by rfl) :
    PS X (.Assign [.Name z pz] (.Call (.Attribute (.Name x p2) "pop" p3) [] [] pos) pe) (tS K (sPop y i)) :=
  (ps_set hNd hy hx (pe_bm0 PySem.F.plainAttrs_list PySem.F.slot_list_pop PySem.F.type_list_pop mt_pop (pe_var hN hv hd hcd) hbase hline) hsw hf).to fun Dn σ H ⟨g, F, O, H0, F0, Fl, out, E, Od, h, q⟩ => by
    simp only [sPop] at h
    split at h
    · rename_i ds hg
      obtain ⟨d, hd, h⟩ := bindS h
      split at h
      · rename_i hz
        cases h
        obtain ⟨p, vs, e1, e2, e3, e4⟩ := E.at' i _ hg
        obtain ⟨v, hv, rv⟩ := e4.get hd
        refine ⟨_, e1, .inl ⟨rfl, vs, SqL.of e3⟩, p, vs, v, rfl, rfl, e3, by rw [e4.len]; exact hv, ?_⟩
        refine q _ O F _ ((E.write (o := .lst vs.dropLast) (s := .own ds.dropLast) e2 ⟨p, _, e1, e2, upd_same, e4.dropLast⟩).set (by simpa using hz) rv) (old_write Od e2)
      · cases h
    · cases h
theorem sExtE (i : Nat) (hNd : X.N.Nodup) (he : PE X e (tD K fa)) (hN : X.N[i]? = some x := by rfl) (hx : Loc X.env.scope x := by first | exact Or.inl rfl | exact Or.inr rfl) (hf : X.fn x = true ∨ X.env.scope.names.lookup x = some .local := by first | exact .inl rfl | exact .inr rfl | assumption) :
    PS X (.AugAssign (.Name x p2) .Add e pos) (tS K (sExt i fa)) := (ps_aug hNd hN hx he (ti := rExt2) (fun pins s σ H x y v u Q I rx ry h => iop_ext pins s σ H x y v u Q I rx ry h) hf).to fun Dn σ H ⟨g, F, O, H0, F0, Fl, out, E, Od, h, q⟩ => by
  obtain ⟨d, hd, h⟩ := bindS h
  split at h
  · rename_i ds es hg
    split at h
    · rename_i hz
      cases h
      obtain ⟨p, vs, e1, e2, e3, e4⟩ := E.at' i _ hg
      refine ⟨_, e1, g, F, O, _, E, hd, fun v F1 H1 G1 R1 => ?_⟩
      have E1 := E.grow G1
      have r1 := e4.mono (G1.sub E.sub)
      cases R1 with
      | lst hf1 rr =>
        rename_i b ws
        refine ⟨p, b, vs, ws, rfl, rfl, G1.h _ _ e3, G1.f _ _ hf1, by rw [e4.len, rr.len, ← lim_is]; exact hz, ?_⟩
        have hσ : σ.set i (some (.ref p)) = σ := by
          apply List.ext_getElem?
          intro j
          by_cases hj : j = i
          · subst hj
            rw [List.getElem?_set_self (by exact (List.getElem?_eq_some_iff.mp e1).1), e1]
          · rw [List.getElem?_set_ne (Ne.symm hj)]
        show Dn.nx (σ.set i (some (.ref p))) _
        rw [hσ]
        exact q σ O F1 _ (E1.write e2 ⟨p, _, e1, e2, upd_same, r1.app rr⟩) (old_write (Od.grow E.sub G1) e2)
    · cases h
  · cases h
theorem sSetLE (i : Nat) {k : Expr} {fk : M D} (he : PE X e (tD K fa)) (hg : PG X (.Subscript (.Name x p2) k p3) (gSub (tVar i) (tD K fk) rSetL)) (hs : swapsWithSole [.Subscript (.Name x p2) k p3] e pos.line X.env = pure false := by rfl) (hw : swappedStores [.Subscript (.Name x p2) k p3] e X.env = pure none := by rfl)
    (h1 : (assignEach [.Subscript (.Name x p2) k p3] X.env).map (·.2) = [assign (.Subscript (.Name x p2) k p3) X.env] := by rfl) :
    PS X (.Assign [.Subscript (.Name x p2) k p3] e pos) (tS K (sSetL i fk fa)) := (ps_asg he hg hs hw h1).to fun Dn σ H ⟨g, F, O, H0, F0, Fl, out, E, Od, h, q⟩ => by
  obtain ⟨d, hd, h⟩ := bindS h
  obtain ⟨j, hj, h⟩ := bindS h
  split at h
  · rename_i ds j hg
    obtain ⟨m, hm, h⟩ := bindS h
    cases h
    obtain ⟨p, vs, e1, e2, e3, e4⟩ := E.at' i _ hg
    refine ⟨g, F, O, d, E, hd, fun v F1 H1 G1 R1 => ⟨_, e1, g, F1, O, _, E.grow G1, hj, fun u F2 H2 G2 R2 => ?_⟩⟩
    obtain rfl := R2.intV
    have G12 := G1.trans G2
    have E2 := E.grow G12
    refine ⟨p, vs, j, m, rfl, rfl, G12.h _ _ e3, by rw [e4.len]; exact hm, ?_⟩
    exact q σ O F2 _ (E2.write e2 ⟨p, _, e1, e2, upd_same, RpAll.set (R1.mono (G2.sub G1.f)) m (e4.mono (G12.sub E.sub))⟩) (old_write (Od.grow E.sub G12) e2)
  · cases h
theorem sAugE (i : Nat) {op : Operator} {f : Int → Int → Int} (ho : PIp X op (ipI f)) (hNd : X.N.Nodup) (he : PE X e (tD K fa)) (hN : X.N[i]? = some x := by rfl) (hx : Loc X.env.scope x := by first | exact Or.inl rfl | exact Or.inr rfl) (hf : X.fn x = true ∨ X.env.scope.names.lookup x = some .local := by first | exact .inl rfl | exact .inr rfl | assumption) :
    PS X (.AugAssign (.Name x p2) op e pos) (tS K (sAug i f fa)) := (ps_aug hNd hN hx he ho hf).to fun Dn σ H ⟨g, F, O, H0, F0, Fl, out, E, Od, h, q⟩ => by
  simp only [sAug] at h
  split at h
  · rename_i a hg
    obtain ⟨d, hd, h⟩ := bindS h
    split at h
    · rename_i b
      split at h
      · rename_i hi
        cases h
        obtain ⟨v, e1, e2⟩ := E.at' i _ hg
        obtain rfl := e2.intV
        refine ⟨_, e1, g, F, O, _, E, hd, fun u F1 H1 G1 R1 => ?_⟩
        obtain rfl := R1.intV
        exact ⟨a, b, rfl, rfl, q _ O F1 H1 ((E.grow G1).set hi (.int _)) (Od.grow E.sub G1)⟩
      · cases h
    · cases h
  · cases h
end

/-! ### defs and calls -/
def spR (K : PySem.W.Frag) (f : Fn) : Sp := fun vs H Q _ => ∃ F ds r, Sub F H ∧ RpAll K F vs ds ∧ f ds = some r ∧ match r with
  | .d d => ∀ v F' H', Grow F H F' H' → Rp K F' v d → Q v H'
  | .o es => ∀ p us F' H', Grow F H F' H' → H p = none → F' p = none → H' p = some (.lst us) → RpAll K F' us es → Q (.ref p) H'
theorem start_env {F H : Hp} (s : Sub F H) {N : List Str} {vs : List V} {ds : List D} (r : RpAll K F vs ds) : Env K (fun _ => none) F H (L2.start N vs) (DL.start N.length ds) := by
  refine ⟨s, ?_, fun i t h => ?_, fun p i h => by cases h⟩
  · simp [L2.start, DL.start, r.len]
  · unfold DL.start at h
    unfold L2.start
    by_cases hi : i < ds.length
    · rw [List.getElem?_append_left (by simpa using hi)] at h
      rw [List.getElem?_append_left (by rw [List.length_map, r.len]; exact hi)]
      rw [List.getElem?_map, List.getElem?_eq_getElem hi] at h
      cases h
      obtain ⟨v, h1, h2⟩ := r.get (List.getElem?_eq_getElem hi)
      exact ⟨v, by rw [List.getElem?_map, h1]; rfl, h2⟩
    · rw [List.getElem?_append_right (by simpa using hi)] at h
      rw [List.getElem?_replicate] at h
      split at h
      · cases h; trivial
      · cases h
theorem fnOk {P : Program} {w : World} {K : PySem.W.Frag} {mg : Str → Option Value} {base : Heap} {x qual : Str} {st : Stmt} {f : Addr} {fd : FuncData} {N ps : List Str} {k n p : Nat} {body : S} (F : Fun K x qual st f fd) (S : FnScope N ps (defScope st)) (hn : N.length = n) (hp : ps.length = p)
    (hb : ∀ (cdv : Value) (A : Around) (outer : List PySem.Env) (s : Shared) (H : Hp) (E : XK), Room k (A.deeper (envOfC qual (defScope st) s.heap.objs.size f cdv)) → PSs (cxOf CX0 P w K mg base N qual (defScope st) f cdv A outer s H E).nox (defBody st) (tS K body)) :
    FnOk P w K mg base CX0 (k + 1) f fd ps (spR K (fnR p n body)) := by
  subst hn hp
  refine F.ok S (fun vs H Q E h => ?_) (fun cdv A outer s H vs Q E hr h => ⟨_, hb cdv A outer s H E hr, ?_⟩)
  · obtain ⟨F, ds, r, _, r1, h, _⟩ := h
    unfold fnR at h
    split at h
    · rename_i hl; rw [r1.len, hl]
    · cases h
  · obtain ⟨F, ds, r, s1, r1, h, q⟩ := h
    unfold fnR at h
    split at h
    · cases hout : body (DL.start N.length ds) with
      | none => rw [hout] at h; cases h
      | some out =>
        rw [hout] at h
        refine ⟨_, F, _, H, F, F, out, start_env s1 r1, ⟨Sub.rfl' H, fun _ _ _ => rfl, fun _ _ z => (nomatch z), Sub.rfl' F⟩, hout, ?_⟩
        cases out with
        | nx g =>
          cases h
          exact fun σ' O' F' H' E' Od' => q .non F' H' (Od'.gr E'.sub) .non
        | rt d => cases h; exact q
        | rtO ds => cases h; exact q
        | bk g => cases h
        | ct g => cases h
    · cases h
theorem fnNever {P : Program} {w : World} {K : PySem.W.Frag} {mg : Str → Option Value} {base : Heap} {k : Nat} {f : Addr} {fd : FuncData} {ps : List Str} : FnOk P w K mg base CX0 k f fd ps (spR K fun _ => none) :=
  ⟨fun vs H Q E h => (by obtain ⟨F, ds, r, _, _, h, _⟩ := h; cases h), fun A outer s H args us vs Q E hr he hb hv h => (by obtain ⟨F, ds, r, _, _, h, _⟩ := h; cases h)⟩

section
variable {k : Nat} {f : Addr} {fd : FuncData} {ps : List Str} {fn : Fn} {x : Str} {p : Pos} {es : List Expr} {fs : M (List D)}
theorem dCall (F : FnOk X.prog X.w X.K X.mg X.base CX0 k f fd ps (spR K fn)) (hr : Room k X.A) (hm : X.mg x = some (.ref f)) (hk : PySem.W.keepIn X.K (.ref f) = true) (hb : Binds X.K fd ps []) (ha : PA X (e :: es) (tA K fs)) (hg : Gl X x := by rfl)
    (hdb : (x == ("__debug__" : Str)) = false := by decide) (he : starEach (e :: es) X.env = (false, eval e X.env) :: starEach es X.env := by rfl) (hpl : (backTo pos (starEach es X.env)).any (·.1) = false := by rfl) :
    PE X (.Call (.Name x p) (e :: es) [] pos) (tD K (eCall fn fs)) := (pe_call F hr hg hm hk hb .nil pass0 ha hdb he hpl).to fun σ H Q ⟨g, F, O, d, E, hd, q⟩ => by
  obtain ⟨ds, h1, hd⟩ := bindS hd
  obtain ⟨r, h2, rfl⟩ := mapS hd
  refine ⟨g, F, O, ds, E, h1, fun vs F1 H1 G1 R1 => ?_⟩
  show spR K fn (vs ++ []) H1 Q E0
  rw [List.append_nil]
  refine ⟨F1, ds, r, G1.f, R1, h2, ?_⟩
  cases r with
  | d d => exact fun v F' H' G R => q v F' H' (G1.trans G) R
  | o es => exact fun p us F' H' G hp hf hh R => q _ (upd F' p (.lst us)) H' (G1.trans (G.freeze hp hh)) (.lst upd_same (R.mono (Sub.new hf)))
theorem nCallE (F : FnOk X.prog X.w X.K X.mg X.base CX0 k f fd ps (spR K fn)) (hr : Room k X.A) (hm : X.mg x = some (.ref f)) (hk : PySem.W.keepIn X.K (.ref f) = true) (hb : Binds X.K fd ps []) (ha : PA X (e :: es) (tA K fs)) (hg : Gl X x := by rfl)
    (hdb : (x == ("__debug__" : Str)) = false := by decide) (he : starEach (e :: es) X.env = (false, eval e X.env) :: starEach es X.env := by rfl) (hpl : (backTo pos (starEach es X.env)).any (·.1) = false := by rfl) :
    PE X (.Call (.Name x p) (e :: es) [] pos) (tN K (nCall fn fs)) := (pe_call F hr hg hm hk hb .nil pass0 ha hdb he hpl).to fun σ H Q ⟨g, F, O, d, E, hd, q⟩ => by
  obtain ⟨ds, h1, hd⟩ := bindS hd
  obtain ⟨r, h2, hd⟩ := bindS hd
  refine ⟨g, F, O, ds, E, h1, fun vs F1 H1 G1 R1 => ?_⟩
  show spR K fn (vs ++ []) H1 Q E0
  rw [List.append_nil]
  refine ⟨F1, ds, r, G1.f, R1, h2, ?_⟩
  cases r with
  | d d => cases hd
  | o es => cases hd; exact fun p us F' H' G hp hf hh R => q p us F' H' (G1.trans G) (Sub.free G1.h hp) hf hh R
/-- what is looked at, frozen for a while -/
theorem RvAll.froze {F H : Hp} (s : Sub F H) : ∀ {vs : List V} {ds : List D}, RvAll K F H vs ds → ∃ Fc, Sub F Fc ∧ Sub Fc H ∧ RpAll K Fc vs ds ∧ ∀ a xs, Fc a = some (.tup xs) → F a = some (.tup xs)
  | _, _, .nil => ⟨F, Sub.rfl' F, s, .nil, fun _ _ h => h⟩
  | _, _, .cons h r => by
    obtain ⟨F1, s1, s2, r1, t1⟩ := RvAll.froze s r
    have key : ∀ (p : Addr) (o : HO) (d : D), (∀ xs, o ≠ .tup xs) → H p = some o → (∀ F2, F2 p = some o → Sub F F2 → Rp K F2 (.ref p) d) → ∃ Fc, Sub F Fc ∧ Sub Fc H ∧ Rp K Fc (.ref p) d ∧ (Sub F1 Fc) ∧ ∀ a xs, Fc a = some (.tup xs) → F a = some (.tup xs) := fun p o d hno hp hd => by
      cases hq : F1 p with
      | some u =>
        have : u = o := Option.some.inj ((s2 _ _ hq).symm.trans hp)
        subst this
        exact ⟨F1, s1, s2, hd F1 hq s1, Sub.rfl' F1, t1⟩
      | none =>
        refine ⟨upd F1 p o, s1.trans (Sub.new hq), fun a u e => ?_, hd _ upd_same (s1.trans (Sub.new hq)), Sub.new hq, fun a xs e => ?_⟩
        · by_cases z : a = p
          · subst z; rw [upd_same] at e; cases e; exact hp
          · rw [upd_ne z] at e; exact s2 _ _ e
        · by_cases z : a = p
          · subst z; rw [upd_same] at e; exact absurd (Option.some.inj e) (hno xs)
          · rw [upd_ne z] at e; exact t1 _ _ e
    cases h with
    | rp h => exact ⟨F1, s1, s2, .cons (h.mono s1) r1, t1⟩
    | @own p us es hh rr =>
      obtain ⟨Fc, c1, c2, c3, c4, c5⟩ := key p (.lst us) (.lst es) (fun xs z => nomatch z) hh fun F2 e s3 => .lst e (rr.mono s3)
      exact ⟨Fc, c1, c2, .cons c3 (r1.mono c4), c5⟩
    | @odc p us es hh rr =>
      obtain ⟨Fc, c1, c2, c3, c4, c5⟩ := key p (.dK us) (.dct es) (fun xs z => nomatch z) hh fun F2 e s3 => .dct e (rr.mono s3)
      exact ⟨Fc, c1, c2, .cons c3 (r1.mono c4), c5⟩
mutual
theorem Rp.noL {F F' : Hp} (t : ∀ a xs, F a = some (.tup xs) → F' a = some (.tup xs)) : ∀ {v : V} {d : D}, Rp K F v d → DL.noL d = true → Rp K F' v d
  | _, _, .non, _ => .non
  | _, _, .bl b, _ => .bl b
  | _, _, .int i, _ => .int i
  | _, _, .str x h, _ => .str x h
  | _, _, .tup h r, k => .tup (t _ _ h) (RpAll.noL t r (by simpa [DL.noL] using k))
  | _, _, .lst h r, k => by simp [DL.noL] at k
  | _, _, .dct h r, k => by simp [DL.noL] at k
  | _, _, .scr h, k => by simp [DL.noL] at k
theorem RpAll.noL {F F' : Hp} (t : ∀ a xs, F a = some (.tup xs) → F' a = some (.tup xs)) : ∀ {v : List V} {d : List D}, RpAll K F v d → DL.noLs d = true → RpAll K F' v d
  | _, _, .nil, _ => .nil
  | _, _, .cons h r, k => by
    simp only [DL.noLs, Bool.and_eq_true] at k
    exact .cons (Rp.noL t h k.1) (RpAll.noL t r k.2)
end
/-- behind such a call -/
def melt (F Fc F' : Hp) : Hp := fun a => if F a = none ∧ Fc a ≠ none then none else F' a
theorem melt_grow {F Fc H F' H' : Hp} (s1 : Sub F Fc) (s2 : Sub Fc H) (G : Grow Fc H F' H') : Grow F H (melt F Fc F') H' := by
  refine ⟨G.h, fun a o e => ?_, fun p o e => ?_⟩
  · unfold melt at e
    split at e
    · cases e
    · exact G.f _ _ e
  · unfold melt
    split
    · rename_i h; rw [h.1]
    · rename_i h
      rw [G.k p o e]
      cases hq : F p with
      | some u => exact s1 _ _ hq
      | none =>
        cases hc : Fc p with
        | none => rfl
        | some u => exact absurd ⟨hq, by rw [hc]; simp⟩ h
theorem melt_tup {F Fc H F' H' : Hp} (s2 : Sub Fc H) (t : ∀ a xs, Fc a = some (.tup xs) → F a = some (.tup xs)) (G : Grow Fc H F' H') : ∀ a xs, F' a = some (.tup xs) → melt F Fc F' a = some (.tup xs) := fun a xs e => by
  unfold melt
  split
  · rename_i h
    cases hc : Fc a with
    | none => exact absurd hc h.2
    | some u =>
      have h1 := G.k a u (s2 _ _ hc)
      rw [e, hc] at h1
      cases h1
      have := t a xs hc
      rw [h.1] at this; cases this
  · exact e
theorem dCallV (F : FnOk X.prog X.w X.K X.mg X.base CX0 k f fd ps (spR K fn)) (hr : Room k X.A) (hm : X.mg x = some (.ref f)) (hk : PySem.W.keepIn X.K (.ref f) = true) (hb : Binds X.K fd ps []) (ha : PA X (e :: es) (tAW K fs)) (hg : Gl X x := by rfl)
    (hdb : (x == ("__debug__" : Str)) = false := by decide) (he : starEach (e :: es) X.env = (false, eval e X.env) :: starEach es X.env := by rfl) (hpl : (backTo pos (starEach es X.env)).any (·.1) = false := by rfl) :
    PE X (.Call (.Name x p) (e :: es) [] pos) (tD K (eCallV fn fs)) := (pe_call F hr hg hm hk hb .nil pass0 ha hdb he hpl).to fun σ H Q ⟨g, F, O, d, E, hd, q⟩ => by
  obtain ⟨ds, h1, hd⟩ := bindS hd
  obtain ⟨r, h2, hd⟩ := bindS hd
  refine ⟨g, F, O, ds, E, h1, fun vs F1 H1 G1 R1 => ?_⟩
  show spR K fn (vs ++ []) H1 Q E0
  rw [List.append_nil]
  obtain ⟨Fc, s1, s2, rc, tc⟩ := R1.froze G1.f
  refine ⟨Fc, ds, r, s2, rc, h2, ?_⟩
  cases r with
  | d d' =>
    simp only at hd
    split at hd
    · rename_i hn
      cases hd
      exact fun v F' H' G R => q v _ H' (G1.trans (melt_grow s1 s2 G)) (R.noL (melt_tup s2 tc G) hn)
    · cases hd
  | o es => cases hd
theorem nCallVE (F : FnOk X.prog X.w X.K X.mg X.base CX0 k f fd ps (spR K fn)) (hr : Room k X.A) (hm : X.mg x = some (.ref f)) (hk : PySem.W.keepIn X.K (.ref f) = true) (hb : Binds X.K fd ps []) (ha : PA X (e :: es) (tAW K fs)) (hg : Gl X x := by rfl)
    (hdb : (x == ("__debug__" : Str)) = false := by decide) (he : starEach (e :: es) X.env = (false, eval e X.env) :: starEach es X.env := by rfl) (hpl : (backTo pos (starEach es X.env)).any (·.1) = false := by rfl) :
    PE X (.Call (.Name x p) (e :: es) [] pos) (tN K (nCallV fn fs)) := (pe_call F hr hg hm hk hb .nil pass0 ha hdb he hpl).to fun σ H Q ⟨g, F, O, d, E, hd, q⟩ => by
  obtain ⟨ds, h1, hd⟩ := bindS hd
  obtain ⟨r, h2, hd⟩ := bindS hd
  refine ⟨g, F, O, ds, E, h1, fun vs F1 H1 G1 R1 => ?_⟩
  show spR K fn (vs ++ []) H1 Q E0
  rw [List.append_nil]
  obtain ⟨Fc, s1, s2, rc, tc⟩ := R1.froze G1.f
  refine ⟨Fc, ds, r, s2, rc, h2, ?_⟩
  cases r with
  | d d' => cases hd
  | o es =>
    simp only at hd
    split at hd
    · rename_i hn
      cases hd
      refine fun p us F' H' G hp hf hh R => q p us _ H' (G1.trans (melt_grow s1 s2 G)) (Sub.free G1.h hp) ?_ hh (R.noL (melt_tup s2 tc G) hn)
      unfold melt
      split
      · rfl
      · exact hf
    · cases hd
end
end
end DL
end
/-! Dk1 -/
section
set_option Elab.async false
set_option linter.all false
set_option maxRecDepth 100000
set_option maxHeartbeats 4000000
/-! Dk1: rules that the hand layer lacks: enumerate(tuple), set(tuple of tuples of ints), xs[i] as a value of its own. -/
namespace PySem
/-- enumerate(v) -/
theorem dk_meets_enum {v : Value} {o : Obj} {H : Heap → Prop} (B : Begins v o H) :
    Meets (Builtin.«enumerate.__new__» ⟨[.type "enumerate", v], []⟩) (fun _ R s => H s.heap ∧
      R (.ok (.ret (.ref (s.heap.push o).objs.size))) { s with heap := (s.heap.push o).push { cls := .type "enumerate", data := .fields #[.none, .bool false, .ref s.heap.objs.size, rawInt 0, .none, .none] } }) :=
  .of_wp fun prog w A R s hh => by
    obtain ⟨hp, gn, dr, tk, os⟩ := s
    obtain ⟨hv, hR⟩ := hh
    have isSub := sub_enumerate
    have starts : ∀ {A' : Around} {E : Value → Shared → Prop} {Q : Value → Shared → Prop}, Q (.ref hp.objs.size) ⟨hp.push o, gn, dr, tk, os⟩ → wpAny (model prog w) A' (pyIter v) Q E ⟨hp, gn, dr, tk, os⟩ :=
      fun q => B.iter prog w _ _ ⟨hp, gn, dr, tk, os⟩ _ hv q
    wp_walk using starts
    refine wpAny_stack_any fun st => wpAny_pure ?_
    split
    · rename_i cl _ _ _ _ _
      cases (cl == Value.type "enumerate") <;> (wp_walk using starts; exact ⟨_, rfl, hR⟩)
    · wp_walk using starts
      exact ⟨_, rfl, hR⟩
theorem dk_call_enum {prog : Program} {w : World} {A : Around} {E : Value → Shared → Prop} {s : Shared} {v : Value} {o : Obj} {H : Heap → Prop} {Q : Value → Shared → Prop} (B : Begins v o H) (hv : H s.heap)
    (h : ∀ h', IsEnum h' (s.heap.objs.size + 1) s.heap.objs.size 0 .none → h'.get? s.heap.objs.size = some o → h'.objs.size = s.heap.objs.size + 2 → (∀ b u, s.heap.get? b = some u → h'.get? b = some u) → Q (.ref (s.heap.objs.size + 1)) { s with heap := h' }) :
    wpAny (model prog w) A (call (.type "enumerate") [v]) Q E s := by
  refine callType_new F.called_enumerate (by decide) (F.typeCall_enumerate_1 _) (F.newCall_enumerate_1 _) (fun obj => F.args_object_init_2 obj _) F.entry_enumerate_new (dk_meets_enum B) ⟨hv, ?_⟩
  have hz : (s.heap.push o).objs.size = s.heap.objs.size + 1 := Heap.size_push ..
  show _ ∧ _
  rw [hz]
  have he : IsEnum ((s.heap.push o).push { cls := .type "enumerate", data := .fields #[.none, .bool false, .ref s.heap.objs.size, rawInt 0, .none, .none] }) (s.heap.objs.size + 1) s.heap.objs.size 0 .none := by
    have q := Heap.get?_push_size (s.heap.push o) (o := { cls := .type "enumerate", data := .fields #[.none, .bool false, .ref s.heap.objs.size, rawInt 0, .none, .none] }) rfl
    rw [hz] at q
    exact q
  exact ⟨⟨_, he, rfl⟩, h _ he (Heap.get?_push_of_some _ (Heap.get?_push_size _ B.free)) (by rw [Heap.size_push, hz]) fun b u x => Heap.get?_push_of_some _ (Heap.get?_push_of_some _ x)⟩
end PySem

namespace L2
open PySem PySem.Spec PyProof.Rows
/-- the tuple at a, each item in a new pair -/
def dkIte (K : PySem.W.Frag) (a : Addr) : It :=
  ⟨fun i H => ∃ (xs : List V) (x : V), SqT K H a xs ∧ xs[i]? = some x,
   fun i H v H' => ∃ T x, v = .ref T ∧ H T = none ∧ H' = upd H T (.tup [.int (i : Nat), x]) ∧ ∀ xs, SqT K H a xs → xs[i]? = some x,
   fun i H => ∃ xs : List V, SqT K H a xs ∧ xs.length = i⟩
theorem dk_turn_enum {P : Program} {w : World} {K : PySem.W.Frag} {elts : List Expr} {kk : Nat} {tpos : Pos} (a e it : Addr) :
    Turn P w K (.Tuple elts kk tpos) (dkIte K a) [e, it] e (fun i h => (∃ old, IsEnum h e it ((i : Nat) : Int) old) ∧ h.IsTupleIter it a i ∧ e ≠ it ∧ a ≠ e ∧ a ≠ it) where
  mem := by simp
  obj := fun i h st b hb => by
    obtain ⟨⟨old, he⟩, ⟨o, ho, hc, hd⟩, _⟩ := st
    rcases (show b = e ∨ b = it by simpa using hb) with rfl | rfl
    · exact ⟨_, he, fun v q => nomatch q⟩
    · exact ⟨o, ho, fun v q => by rw [hd] at q; cases q⟩
  keep := fun i h h' ⟨⟨old, he⟩, hi, hne⟩ k => ⟨⟨old, k e (by simp) _ he⟩, hi.at fun o q => k it (by simp) o q, hne⟩
  item := by
    intro X hP hw hK hc i pins s σ H E I hf st hg
    subst hP hw hK
    obtain ⟨⟨old, he⟩, hit, hne, hae, hai⟩ := st
    obtain ⟨xs, x, hq, hx⟩ := hg
    obtain ⟨its, rv, p, hz⟩ := I.tuple hq
    obtain ⟨u, hu, ru⟩ := rv.get hx
    have hel : e < s.heap.objs.size := Heap.lt_size he
    have hil : it < s.heap.objs.size := by obtain ⟨_, q, _⟩ := hit; exact Heap.lt_size q
    have hil' : i < its.toArray.size := by
      rw [List.size_toArray]
      exact (List.getElem?_eq_some_iff.mp hu).1
    have hh : X.A.in1.handled = none := I.ok.hd hc
    refine wpAny_pyNext_enum_itemC (Draws.tuple hh it a hai its.toArray) he ⟨hit, (show s.heap.IsTuple a its.toArray from p)⟩ hil' hne (by simp only [List.mem_cons, List.not_mem_nil, or_false, not_or]; exact ⟨hne, Ne.symm hae⟩) fun v h' tk hv ho hit' hT hsz hk => ?_
    have huv : v = u := by
      have q : its.toArray[i]? = some u := by simpa using hu
      rw [hv] at q
      exact Option.some.inj q
    subst huv
    refine ⟨_, rfl, wpAny_letOwnedTupleGo_enum (s := { s with heap := h', toks := tk + 1 }) ho fun h'' he' sb => ?_⟩
    have hT2 : h''.get? s.heap.objs.size = some { cls := .type "tuple", data := .seq #[.int i tk, v] } := (sb.2 _ (Nat.ne_of_gt hel)).trans hT
    have new : ObjOk X.prog X.w (upd H s.heap.objs.size (.tup [.int (i : Nat), x])) h'' s.heap.objs.size (.tup [.int (i : Nat), x]) :=
      ⟨by show 2 ≤ sizeLine; decide, [.int i tk, v], .cons ⟨_, rfl⟩ (.cons ru .nil), ⟨_, hT2, rfl, _, rfl⟩⟩
    have I1 : Inv X pins σ (upd H s.heap.objs.size (.tup [.int (i : Nat), x])) { s with heap := h'', toks := tk + 1 } :=
      I.turnedNew (ch := [e, it]) (fun b ob hb q => (sb.2 b (fun z => hb (by simp [z]))).trans (hk b ob (fun z => hb (by simp [z])) (fun z => hb (by simp [z])) q)) hf (Nat.le_refl _) new
    refine ⟨.ref s.heap.objs.size, _, I1, rfl, ⟨_, x, rfl, I.hok.fresh (Nat.le_refl _), rfl, fun ys hy => by rw [I.tuple_inj hy hq]; exact hx⟩, ⟨⟨v, ?_⟩, hit'.1.at fun o q => (sb.2 it (Ne.symm hne)).trans q, hne, hae, hai⟩, fun b hb => ?_⟩
    · rw [show ((i + 1 : Nat) : Int) = (i : Int) + 1 by omega]
      exact he'
    · have hb' : b < s.heap.objs.size := by
        rcases (show b = e ∨ b = it by simpa using hb) with rfl | rfl
        · exact hel
        · exact hil
      rw [upd_ne (Nat.ne_of_lt hb')]
      exact (hf b hb).1
  done := by
    intro X hP hw hK hc i pins s σ H E I hf st hg
    subst hP hw hK
    obtain ⟨⟨old, he⟩, hit, hne, hae, hai⟩ := st
    obtain ⟨xs, hq, hx⟩ := hg
    obtain ⟨its, rv, p, hz⟩ := I.tuple hq
    obtain ⟨f0, f1, f2, f3, f4, f5⟩ := hf it (by simp)
    have hl := rv.length
    have hh : X.A.in1.handled = none := I.ok.hd hc
    have hsz : its.toArray.size = i := by rw [List.size_toArray]; omega
    exact wpAny_pyNext_enum_endD (Draws.tuple hh it a hai its.toArray) he ⟨by rw [hsz]; exact hit, (show s.heap.IsTuple a its.toArray from p)⟩ fun h' eb => ⟨rfl, I.turned (t' := s.toks) (fun b o hb q => eb b o hb q) f0 f1 f3 f4 f5⟩
  self := fun A i s Q E st h => let ⟨⟨_, he⟩, _⟩ := st; wpAny_pyIter_enum he h
def dkEnum (K : PySem.W.Frag) (ta : TA) : TI := fun σ H R => ta σ H fun vs H1 => ∃ a xs, vs = [.ref a] ∧ SqT K H1 a xs ∧ R (dkIte K a) H1
theorem dk_pi_enum {X : Cx} {e : Expr} {ta : TA} {p pos tpos : Pos} {elts : List Expr} {kk : Nat} (hg : Gl X "enumerate") (hm : X.mg "enumerate" = none) (ha : PA X [e] ta) (hs : starEach [e] X.env = [(false, eval e X.env)] := by rfl) :
    PI X (.Tuple elts kk tpos) (.Call (.Name "enumerate" p) [e] [] pos) (dkEnum X.K ta) := by
  refine ⟨fun pins s σ H R I h => ?_⟩
  refine Call_ (ld_blt I hg hm boot_enumerate (PyProof.Rows.callWith_type1 (thn (ha.run pos pins s σ H _ I h) fun us s1 ⟨vs, H1, I1, r1, q1⟩ => ?_) hs rfl))
  obtain ⟨a, xs, ex, hq, q⟩ := q1
  subst ex
  cases r1 with
  | cons r rr =>
    cases rr
    cases r
    obtain ⟨its, rv, p', hz⟩ := I1.tuple hq
    have ht : s1.heap.IsTuple a its.toArray := p'
    have hal : a < s1.heap.objs.size := by obtain ⟨o, q, _⟩ := ht; exact Heap.lt_size q
    refine dk_call_enum (begins_tuple a its.toArray) ht fun h' he hit hsz hk => wpAny_pyIter_enum he ?_
    have I2 : Inv X pins σ H1 { s1 with heap := h' } := I1.kept (t' := s1.toks) hk
    refine ⟨s1.heap.objs.size + 1, [s1.heap.objs.size + 1, s1.heap.objs.size], _, _, H1, rfl, I2, dk_turn_enum a (s1.heap.objs.size + 1) s1.heap.objs.size, ⟨⟨.none, he⟩, ⟨_, hit, rfl, rfl⟩, Nat.succ_ne_self _, Nat.ne_of_lt (Nat.lt_succ_of_lt hal), Nat.ne_of_lt hal⟩, fun b hb => ?_, q⟩
    have hle : s1.heap.objs.size ≤ b := by
      rcases (show b = s1.heap.objs.size + 1 ∨ b = s1.heap.objs.size by simpa using hb) with rfl | rfl
      · exact Nat.le_add_right _ _
      · exact Nat.le_refl _
    exact I1.fpOk hle (I1.hok.fresh hle)
theorem dk_walk_enum {K : PySem.W.Frag} {a : Addr} {xs : List V} : Walk (dkIte K a) xs.length (fun H => SqT K H a xs) (YPair (fun i => some (.int (i : Nat))) (fun i => xs[i]?)) := by
  refine ⟨fun i _ hi q => ⟨xs, xs[i], q, by simp [hi]⟩, fun _ q => ⟨xs, q, rfl⟩, fun i H v H' _ q y => ?_⟩
  obtain ⟨T, x, h1, h2, h3, h4⟩ := y
  exact ⟨T, .int (i : Nat), x, h1, h2, h3, rfl, h4 xs q⟩

/-! ### a list's item by its place, as augmented stores read it -/
theorem dk_get_list {X : Cx} : PGet X (rIxL X.K) := by
  intro pins s σ H o i ov iv Q I ro ri h
  obtain ⟨p, xs, k, z, rfl, rfl, hq, he, q⟩ := h
  cases ro
  obtain ⟨t, rfl⟩ := ri
  obtain ⟨its, r, pl, hz⟩ := I.list hq
  obtain ⟨j, h1, h2, h3, h4, h5⟩ := atI_get he
  obtain ⟨u, hu, ru⟩ := r.get h2
  have hl := r.length
  have hn := line63
  have fin : EP X pins σ Q u s := ⟨z, H, I, ru, q⟩
  by_cases h0 : 0 ≤ k
  · have hj : k.toNat = j := by
      rw [seqIndex_of h0 h5] at h1
      exact Option.some.inj h1
    exact wpAny_getItem_list pl.isList h0 (by omega) (by rw [hj]; simpa using hu) fin
  · have hj : (k + (its.toArray.size : Int)).toNat = j := by
      rw [seqIndex_neg (by omega) h4] at h1
      rw [List.size_toArray, ← hl]
      exact Option.some.inj h1
    exact wpAny_getItem_list_neg pl.isList (by omega) (by rw [List.size_toArray] <;> omega) (by omega) (by rw [hj]; simpa using hu) fin
end L2
end
/-! Dk2 -/
section
set_option Elab.async false
set_option linter.all false
set_option maxRecDepth 100000
set_option maxHeartbeats 4000000
/-! Dk2: set(t) of a tuple of tuples of ints, and its len. -/
namespace L2
open PySem PySem.Spec PyProof.Rows
abbrev dkSet0 (w : World) : Obj := { cls := .type "set", dict := none, data := .set #[] 0 (.fresh 0 0 (!w.params.followText "set-order")) }
section
variable {P : Program} {w : World} {A : Around} {E : Value → Shared → Prop} {s : Shared}
theorem dk_call_set {l : Addr} {items : Array Value} (ks : List (Addr × List Int)) {Q : Value → Shared → Prop} (hh : A.handled = none) (hl : s.heap.IsTuple l items) (hit : items.toList = ks.map fun p => Value.ref p.1)
    (hk : ∀ p ∈ ks, IsT P w s.heap p.2 p.1) (hfew : ks.length < 64) (hu : A.units + 3 < cLine)
    (h : ∀ (h' : Heap) (tk : Nat) L es ep t, SetTR P w h' s.heap.objs.size L es ep t → Got ks ks.length L → (∀ b o, s.heap.get? b = some o → h'.get? b = some o) → Q (.ref s.heap.objs.size) { s with heap := h', toks := tk }) :
    wpAny (model P w) A (call (.type "set") [.ref l]) Q E s := by
  have hisz : items.size = ks.length := by
    have q := congrArg List.length hit
    rw [Array.length_toList, List.length_map] at q
    exact q
  obtain ⟨c, tl, hmro⟩ := F.called_set.mro
  have hmade := F.called_set.made
  have hsub := F.called_set.sub
  refine wpAny_call (codeAny_of_tree ?_)
  show wpAny _ _ (callAny (.type "set") _) _ _ _
  refine wpAny_pure ⟨Code.quiet_builtin _ (by decide +kernel), codeAny_builtin F.entry_type_call ?_⟩
  rw [Around.under_plain (weight_type_call_type "set" [.ref l] []) rfl]
  have h1 := F.called_set.notType
  have h2 := F.called_set.canCreate
  have hct := F.typeCall_set_1 (.ref l)
  repeat (any_goals (first | assumption | wp_step))
  refine codeAny_mono (code_set_led1 (.ref l) (E := E) (Q₁ := fun obj s₁ => obj = .ref s.heap.objs.size ∧ s₁ = { s with heap := s.heap.push (dkSet0 w) }) ⟨rfl, rfl⟩) fun r s₁ hr => ?_
  cases r with
  | error e => exact hr
  | ok fl =>
    cases fl with
    | ret obj =>
      obtain ⟨rfl, rfl⟩ := hr
      have hS : (s.heap.push (dkSet0 w)).get? s.heap.objs.size = some (dkSet0 w) := Heap.get?_push_size _ rfl
      have hT : Shared.TypeIs { s with heap := s.heap.push (dkSet0 w) } (.ref s.heap.objs.size) "set" := ⟨_, hS, rfl⟩
      have hli := F.called_set.init.lookup
      have hbi := F.called_set.init.bind (.ref s.heap.objs.size)
      repeat (any_goals (first | assumption | wp_step))
      refine codeAny_mono (codeAny_call_builtin (R := wants (fun r s₂ => r = .none ∧ ∃ h' tk L es ep t, s₂ = { s with heap := h', toks := tk } ∧ SetTR P w h' s.heap.objs.size L es ep t ∧ Got ks ks.length L ∧
          (∀ b o, s.heap.get? b = some o → h'.get? b = some o)) E) F.called_set.init.plain F.entry_set_init (check_set_init_1 hT ?_)) fun r₂ s₂ hr₂ => ?_
      · obtain ⟨ol, hol, hcl, nl, hdl⟩ := hl
        obtain ⟨ocls, odict, odata, oslots⟩ := ol
        simp only at hcl hdl
        subst hcl; subst hdl
        have hol' : (s.heap.push (dkSet0 w)).get? l = some { cls := .type "tuple", dict := odict, data := .seq items nl, slots := oslots } := Heap.get?_push_of_some _ hol
        have hsls := F.sub_tuple_set
        have hslf := F.sub_tuple_frozenset
        have hne : (Value.type "tuple" == Value.type "dict") = false := by decide
        have hl1 : (s.heap.push (dkSet0 w)).IsTuple l items := ⟨_, hol', rfl, nl, rfl⟩
        unfold Builtin.«set.__init__» noKeywords Builtin.Frozenset.updateFrom
        generalize hPI : pyIter = PI
        wp_walk
        subst hPI
        refine wpAny_pyIter_tuple hl1 ?_
        refine wpAny_bind (wpAny_runValue ?_)
        have hlS : l < s.heap.objs.size := Heap.lt_size hol
        have hh3 : A.in1.in1.in1.handled = none := by simp [hh]
        have hneI : l ≠ (s.heap.push (dkSet0 w)).objs.size := by
          rw [Heap.size_push]; exact Nat.ne_of_lt (Nat.lt_succ_of_lt hlS)
        have hSf : s.heap.objs.size ∉ [(s.heap.push (dkSet0 w)).objs.size, l] := by
          rw [Heap.size_push]; simp only [List.mem_cons, List.mem_singleton, List.not_mem_nil, or_false, not_or]
          exact ⟨Nat.ne_of_lt (Nat.lt_succ_self _), Nat.ne_of_gt hlS⟩
        have hval : ∀ (i : Nat) (v : Value), items[i]? = some v → ∃ p, ks[i]? = some p ∧ v = .ref p.1 := fun i v hv => by
          have q : items.toList[i]? = some v := by rw [Array.getElem?_toList]; exact hv
          rw [hit, List.getElem?_map] at q
          cases hq : ks[i]? with
          | none => rw [hq] at q; cases q
          | some p =>
            rw [hq] at q
            exact ⟨p, rfl, (Option.some.inj q).symm⟩
        have none_of : ∀ b, s.heap.objs.size ≤ b → s.heap.get? b = none := fun b hb => by
          cases q : s.heap.get? b with
          | none => rfl
          | some o => exact absurd (Nat.lt_of_lt_of_le (Heap.lt_size q) hb) (Nat.lt_irrefl _)
        refine set_update_tups ((Walks.tuple hh3 _ l hneI items).toS) s.heap.objs.size
          hSf ks hisz hfew hval s.heap hk (none_of _ (Nat.le_refl _)) (fun b hb => none_of b (by
            rw [List.mem_singleton.mp hb, Heap.size_push]
            exact Nat.le_succ _)) hu (items.size - 0) 0 _ (by omega) (Nat.zero_le _)
          ⟨⟨_, Heap.get?_push_size _ rfl, rfl, rfl⟩, (hl1.push _)⟩ (fun b o e => Heap.get?_push_of_some _ (Heap.get?_push_of_some _ e)) ?hS0 ?hR
        case hS0 =>
          exact ⟨[], #[], 0, _, setTR_fresh (Heap.get?_push_of_some _ hS), Got.zero ks⟩
        case hR =>
          intro s' L es ep t hm hS' g' hkp
          obtain ⟨h', g2, d', tk', os'⟩ := s'
          have eg : g2 = s.gens := hm.gens
          have ed : d' = s.drawn := hm.drawn
          have eo : os' = s.os := hm.os
          subst eg; subst ed; subst eo
          show wpAny _ _ _ _ _ _
          refine wpAny_pure ?_
          show wpAny _ _ (ret Value.none) _ _ _
          rw [hisz] at g'
          exact wpAny_pure ⟨rfl, h', tk', L, es, ep, t, rfl, hS', g', hkp⟩
      · cases r₂ with
        | error e => exact hr₂
        | ok fl₂ =>
          cases fl₂ with
          | ret r =>
            obtain ⟨rfl, h', tk, L, es, ep, t, rfl, hS', g', hk'⟩ := hr₂
            repeat (any_goals (first | assumption | wp_step))
            exact h _ _ _ _ _ _ hS' g' hk'
          | _ => exact hr₂.elim
    | _ => exact hr.elim
end
section
variable {X : Cx}
/-- len(set(a)), a a tuple of tuples of ints -/
def dkLenSet (ta : TE) : TE := fun σ H Q => ta σ H fun x H1 => ∃ (l : Addr) (ks : List (Addr × List Int)), x = V.ref l ∧ H1 l = some (.tup (ks.map fun p => V.ref p.1)) ∧ (∀ p ∈ ks, H1 p.1 = some (.tup (p.2.map V.int))) ∧ ks.length < 64 ∧
  ∀ L : List (Addr × List Int), (L.map (·.2)).Nodup → (∀ p ∈ L, p ∈ ks) → (∀ p ∈ ks, p.2 ∈ L.map (·.2)) → Q (.int (L.length : Nat)) H1
theorem dk_pe_lenSet {a : Expr} {ta : TE} {p p2 q pos : Pos} (hc : X.calm = true) (hu : X.A.units + 64 < cLine) (hg : Gl X "len") (hm : X.mg "len" = none) (hg2 : Gl X "set") (hm2 : X.mg "set" = none) (ha : PE X a ta)
    (na : starEach [a] X.env = (false, eval a X.env) :: starEach [] X.env := by rfl) : PE X (.Call (.Name "len" p) [.Call (.Name "set" p2) [a] [] q] [] pos) (dkLenSet ta) := by
  refine ⟨fun pins s σ H Q I h => ?_⟩
  refine Call_ (ld_blt I hg hm PySem.boot_len ?_)
  refine PyProof.Rows.callWith_builtin1 (PyProof.Rows.args_cons ?_ rfl) rfl rfl
  refine Call_ (ld_blt I hg2 hm2 PyProof.Rows.boot_set ?_)
  refine PyProof.Rows.callWith_type1 (PyProof.Rows.args_cons (thn (ha.run pins s σ H _ I h) fun v s1 ⟨x, H1, I1, r1, q1⟩ => PyProof.Rows.args_nil ?_) na) na rfl
  obtain ⟨l, ks, rfl, hq, hk, hf, q1⟩ := q1
  cases r1
  obtain ⟨its, r, pl, hz⟩ := I1.tuple (SqT.of hq)
  refine dk_call_set (P := X.prog) (w := X.w) ks (I1.ok.hd hc) (show s1.heap.IsTuple l its.toArray from pl) (by simpa using refs_of_vals r) (fun p hp => I1.isT (SqT.of (hk p hp))) hf (by omega) fun h' tk L es ep t R g k => ?_
  refine PyProof.Rows.args_nil ?_
  have I2 : Inv X pins σ H1 { s1 with heap := h', toks := tk } := I1.kept k
  obtain ⟨o, ho, hex, hd⟩ := R.ob
  have hes : es.size = L.length := by
    have e := congrArg List.length R.rows
    rw [Array.length_toList] at e
    rw [e]
    exact List.length_map ..
  have R2 : SetTR X.prog X.w ({ s1 with heap := h', toks := tk } : Shared).heap s1.heap.objs.size L es ep t := R
  have hfew := R.few
  refine call_len_set (s := { s1 with heap := h', toks := tk }) ho hex hd (SetTR.fits R2) (by rw [hes]; omega) ⟨.int (L.length : Nat), H1, I2.tok _, ⟨_, by rw [hes]⟩, q1 L R.nd (fun p hp => ?_) fun p hp => ?_⟩
  · exact List.mem_of_mem_take (g.sub p hp)
  · exact g.all p (by rw [List.take_length]; exact hp)
end
end L2
end
/-! Dl6 -/
section
set_option Elab.async false
set_option linter.all false
set_option maxRecDepth 100000
set_option maxHeartbeats 4000000
/-! Dl6: more of Python over data: sorting, len(set(..)), dicts, two fors, several targets. -/
namespace DL
open PySem PySem.Spec PyProof.Rows L2
variable {K : PySem.W.Frag}

/-! ### sorting -/
theorem insBy_perm {α : Type} (le : α → α → Bool) (x : α) : ∀ l : List α, (insBy le x l).Perm (x :: l)
  | [] => List.Perm.refl _
  | y :: ys => by
    unfold insBy
    split
    · exact List.Perm.refl _
    · exact ((insBy_perm le x ys).cons y).trans (List.Perm.swap x y ys)
theorem sortBy_perm {α : Type} (le : α → α → Bool) : ∀ l : List α, (sortBy le l).Perm l
  | [] => List.Perm.refl _
  | x :: xs => (insBy_perm le x _).trans ((sortBy_perm le xs).cons x)
theorem insBy_sorted {α : Type} {le : α → α → Bool} (tr : ∀ a b c, le a b = true → le b c = true → le a c = true) (to : ∀ a b, le a b = false → le b a = true) (x : α) : ∀ {l : List α}, l.Pairwise (fun a b => le a b = true) → (insBy le x l).Pairwise (fun a b => le a b = true)
  | [], _ => List.pairwise_singleton _ _
  | y :: ys, h => by
    unfold insBy
    obtain ⟨h1, h2⟩ := List.pairwise_cons.mp h
    split
    · rename_i hx
      exact List.pairwise_cons.mpr ⟨fun z hz => by
        rcases List.mem_cons.mp hz with e | hz
        · rw [e]; exact hx
        · exact tr x y z hx (h1 z hz), h⟩
    · rename_i hx
      refine List.pairwise_cons.mpr ⟨fun z hz => ?_, insBy_sorted tr to x h2⟩
      rcases List.mem_cons.mp ((insBy_perm le x ys).mem_iff.mp hz) with e | hz
      · rw [e]; exact to x y (by simpa using hx)
      · exact h1 z hz
theorem sortBy_sorted {α : Type} {le : α → α → Bool} (tr : ∀ a b c, le a b = true → le b c = true → le a c = true) (to : ∀ a b, le a b = false → le b a = true) : ∀ l : List α, (sortBy le l).Pairwise (fun a b => le a b = true)
  | [] => List.Pairwise.nil
  | x :: xs => insBy_sorted tr to x (sortBy_sorted tr to xs)
theorem sortI_eq {a ns : List Int} (hp : a.Perm ns) (hs : a.Pairwise (· ≤ ·)) : a = sortI ns := by
  refine List.Perm.eq_of_pairwise (le := fun x y => x ≤ y) (fun x y _ _ h1 h2 => Int.le_antisymm h1 h2) hs ?_ (hp.trans (sortBy_perm _ _).symm)
  exact (sortBy_sorted (le := leI) (fun a b c h1 h2 => by simp [leI] at *; omega) (fun a b h => by simp [leI] at *; omega) ns).imp fun h => by simpa [leI] using h
section
theorem RpAll.intsR {F : Hp} (ns : List Int) : RpAll K F (ns.map V.int) (ns.map D.int) := RpAll.ints ns
theorem oSortI : OpAN K (rSortedI K) nSortI := fun F H xs vs z Q s a e q => by
  match xs, a, e with
  | [.lst ds], a, e =>
    obtain ⟨v, rfl, a'⟩ := rvl1 a
    obtain ⟨ns, h1, rfl⟩ := mapS e
    obtain ⟨p, vs, rfl, h2, r⟩ := a'.lst s
    obtain ⟨rfl, _⟩ := r.ofInts h1
    exact ⟨p, ns, rfl, SqL.of h2, fun ns' t hp hs ht => q t _ F _ (Grow.newU s ht) ht (Sub.free s ht) upd_same (by rw [sortI_eq hp hs]; exact RpAll.ints _)⟩
  | [.dct ds], a, e => cases e
theorem RpKv.keys {F : Hp} : ∀ {kvs : List (Key × V)} {ds : List (D × D)} {ns : List Int}, RpKv K F kvs ds → (ds.map (·.1)).mapM asInt = some ns → kvs.map (·.1) = ns.map Sum.inl
  | _, _, ns, .nil, e => by
    have : ns = [] := by simpa using e.symm
    subst this; rfl
  | _, _, ns, .cons (k := k) (ds := ds) h r, e => by
    rw [List.map_cons, List.mapM_cons] at e
    cases k with
    | inl i =>
      simp only [dKey, asInt] at e
      cases q : (ds.map (·.1)).mapM asInt with
      | none => rw [q] at e; cases e
      | some ms =>
        rw [q] at e
        cases e
        rw [List.map_cons, RpKv.keys r q]; rfl
    | inr x => cases e
def rSortedDI : List V → Hp → VK → Prop := fun xs H Q => ∃ (a : Addr) (kvs : List (Key × V)) (ks : List Int), xs = [.ref a] ∧ Rd H a (.dK kvs) ∧ kvs.map (·.1) = ks.map Sum.inl ∧ ks.length < 64 ∧ ∀ (ys : List Int) (p : Addr), ys.Perm ks → ys.Pairwise (· ≤ ·) → H p = none → Q (.ref p) (upd H p (.lst (ys.map V.int)))
theorem oSortD : OpAN K rSortedDI nSortD := fun F H xs vs z Q s a e q => by
  match xs, a, e with
  | [.dct ds], a, e =>
    obtain ⟨v, rfl, a'⟩ := rvl1 a
    simp only [nSortD] at e
    split at e
    · rename_i hl
      obtain ⟨ns, h1, rfl⟩ := mapS e
      obtain ⟨p, kvs, rfl, h2, r⟩ := a'.dct s
      have hk := RpKv.keys r h1
      have hn : ns.length = ds.length := by
        have e1 := congrArg List.length hk
        simp only [List.length_map] at e1
        rw [← e1, r.len]
      exact ⟨p, kvs, ns, rfl, .inl h2, hk, by omega, fun ns' t hp hs ht => q t _ F _ (Grow.newU s ht) ht (Sub.free s ht) upd_same (by rw [sortI_eq hp hs]; exact RpAll.ints _)⟩
    · cases e
/-- pairs -/
theorem asPair_is {d : D} {p : Int × Int} (h : asPair d = some p) : d = pairD p := by
  unfold asPair at h
  split at h
  · cases h; rfl
  · cases h
def pairK (H : Hp) (v : V) : Int × Int := match v with
  | .ref t => match H t with
    | some (.tup [.int a, .int b]) => (a, b)
    | _ => (0, 0)
  | _ => (0, 0)
theorem RpAll.ofPairs {F : Hp} : ∀ {vs : List V} {ds : List D} {ps : List (Int × Int)}, RpAll K F vs ds → ds.mapM asPair = some ps → ps = vs.map (pairK F) ∧ ∀ x ∈ vs, ∃ t, x = V.ref t ∧ F t = some (.tup [.int (pairK F x).1, .int (pairK F x).2])
  | _, _, ps, .nil, e => by
    have : ps = [] := by simpa using e.symm
    subst this; exact ⟨rfl, fun x h => by simp at h⟩
  | _, _, ps, .cons (v := v) (d := d) (ds := ds) h r, e => by
    rw [List.mapM_cons] at e
    cases hd : asPair d with
    | none => rw [hd] at e; cases e
    | some p =>
      rw [hd] at e
      cases q : ds.mapM asPair with
      | none => rw [q] at e; cases e
      | some ms =>
        rw [q] at e
        cases e
        obtain ⟨h1, h2⟩ := RpAll.ofPairs r q
        have hp := asPair_is hd
        subst hp
        cases h with
        | tup hf rr =>
          rename_i t vs'
          obtain ⟨a, b⟩ := p
          cases rr with
          | cons ra rr => cases rr with
            | cons rb rr =>
              cases rr
              obtain rfl := ra.intV
              obtain rfl := rb.intV
              have hk : pairK F (.ref t) = (a, b) := by simp [pairK, hf]
              refine ⟨by rw [List.map_cons, hk, ← h1], fun x hx => ?_⟩
              rcases List.mem_cons.mp hx with z | z
              · subst z; exact ⟨t, rfl, by rw [hk]; exact hf⟩
              · exact h2 x z
theorem sortP_eq {a ps : List (Int × Int)} (hp : a.Perm ps) (hs : a.Pairwise (fun x y => SrtO.lexB y x = false)) : a = sortP ps := by
  have tr : ∀ a b c : Int × Int, leP a b = true → leP b c = true → leP a c = true := fun a b c h1 h2 => by simp [leP] at *; omega
  have to : ∀ a b : Int × Int, leP a b = false → leP b a = true := fun a b h => by simp [leP] at *; omega
  refine List.Perm.eq_of_pairwise (le := fun x y => leP x y = true) (fun x y _ _ h1 h2 => ?_) (hs.imp fun {x y} h => ?_) (sortBy_sorted tr to ps) (hp.trans (sortBy_perm _ _).symm)
  · simp only [leP, Bool.or_eq_true, Bool.and_eq_true, decide_eq_true_eq] at h1 h2
    exact Prod.ext (by omega) (by omega)
  · have := SrtO.lexB_no.mp h
    simp only [leP, Bool.or_eq_true, Bool.and_eq_true, decide_eq_true_eq]
    omega
theorem RpAll.pairsOf {F : Hp} : ∀ {vs : List V}, (∀ x ∈ vs, ∃ t, x = V.ref t ∧ F t = some (.tup [.int (pairK F x).1, .int (pairK F x).2])) → RpAll K F vs ((vs.map (pairK F)).map pairD)
  | [], _ => .nil
  | v :: vs, h => by
    obtain ⟨t, e, hf⟩ := h v (by simp)
    refine .cons ?_ (RpAll.pairsOf fun x hx => h x (by simp [hx]))
    rw [e] at hf ⊢
    exact .tup hf (.cons (.int _) (.cons (.int _) .nil))
theorem oSortP : OpAN K (rSortedPO K) nSortP := fun F H xs vs z Q s a e q => by
  match xs, a, e with
  | [.lst ds], a, e =>
    obtain ⟨v, rfl, a'⟩ := rvl1 a
    obtain ⟨ps, h1, rfl⟩ := mapS e
    obtain ⟨p, vs, rfl, h2, r⟩ := a'.lst s
    obtain ⟨rfl, h4⟩ := r.ofPairs h1
    refine ⟨p, vs, pairK F, rfl, SqL.of h2, fun x hx => ?_, fun ys t hs hst ht => q t _ F _ (Grow.newU s ht) ht (Sub.free s ht) upd_same ?_⟩
    · obtain ⟨t, e1, e2⟩ := h4 x hx
      exact ⟨t, e1, s _ _ e2⟩
    · have e1 : ys.map (pairK F) = sortP (vs.map (pairK F)) := by
        refine sortP_eq (hst.perm.map _) ?_
        rw [List.pairwise_map]
        exact hs
      rw [← e1]
      exact RpAll.pairsOf fun x hx => h4 x (hst.perm.mem_iff.mp hx)

/-! ### len(set(t)) -/
theorem asInts_is {d : D} {ns : List Int} (h : asInts d = some ns) : ∃ ds, d = .tup ds ∧ ds.mapM asInt = some ns := by
  unfold asInts at h
  split at h
  · exact ⟨_, rfl, h⟩
  · cases h
theorem RpAll.ofTups {F : Hp} : ∀ {vs : List V} {ds : List D} {ks : List (List Int)}, RpAll K F vs ds → ds.mapM asInts = some ks → ∃ L : List (Addr × List Int), vs = L.map (fun p => V.ref p.1) ∧ ks = L.map (·.2) ∧ ∀ p ∈ L, F p.1 = some (.tup (p.2.map V.int))
  | _, _, ks, .nil, e => by
    have : ks = [] := by simpa using e.symm
    subst this; exact ⟨[], rfl, rfl, fun p h => by simp at h⟩
  | _, _, ks, .cons (v := v) (d := d) (ds := ds) h r, e => by
    rw [List.mapM_cons] at e
    cases hd : asInts d with
    | none => rw [hd] at e; cases e
    | some ns =>
      rw [hd] at e
      cases q : ds.mapM asInts with
      | none => rw [q] at e; cases e
      | some ms =>
        rw [q] at e
        cases e
        obtain ⟨L, h1, h2, h3⟩ := RpAll.ofTups r q
        obtain ⟨es, rfl, h5⟩ := asInts_is hd
        cases h with
        | tup hf rr =>
          rename_i t us
          obtain ⟨rfl, _⟩ := rr.ofInts h5
          refine ⟨(t, ns) :: L, by rw [h1]; rfl, by rw [h2]; rfl, fun p hp => ?_⟩
          rcases List.mem_cons.mp hp with z | z
          · subst z; exact hf
          · exact h3 p z
theorem ddup_mem : ∀ (l : List (List Int)) (x : List Int), x ∈ ddup l ↔ x ∈ l
  | [], x => by simp [ddup]
  | y :: l, x => by
    unfold ddup
    split
    · rename_i hy
      rw [ddup_mem l x, List.mem_cons]
      exact ⟨.inr, fun h => h.elim (fun e => by rw [e]; exact (ddup_mem l y).mp hy) id⟩
    · rw [List.mem_cons, List.mem_cons, ddup_mem l x]
theorem ddup_nodup : ∀ l : List (List Int), (ddup l).Nodup
  | [] => List.Pairwise.nil
  | y :: l => by
    unfold ddup
    split
    · exact ddup_nodup l
    · rename_i hy
      exact List.nodup_cons.mpr ⟨hy, ddup_nodup l⟩
theorem nodup_le {α : Type} [BEq α] [LawfulBEq α] : ∀ {l m : List α}, l.Nodup → (∀ x ∈ l, x ∈ m) → l.length ≤ m.length
  | [], _, _, _ => Nat.zero_le _
  | x :: l, m, h, hs => by
    obtain ⟨h1, h2⟩ := List.nodup_cons.mp h
    have hm := hs x (by simp)
    have := nodup_le (m := m.erase x) h2 fun y hy => (List.mem_erase_of_ne (fun e => h1 (by rw [← e]; exact hy))).mpr (hs y (by simp [hy]))
    rw [List.length_erase_of_mem hm] at this
    have hp : 0 < m.length := List.length_pos_of_mem hm
    simp only [List.length_cons]
    omega
end

section
variable {X : Cx} {a b c e : Expr} {pos : Pos} {fa fb fc : M D}
theorem dLenSetE {p p2 q : Pos} (hc : X.calm = true) (hu : X.A.units + 64 < cLine) (hm : X.mg "len" = none) (hm2 : X.mg "set" = none) (ha : PE X a (tD K fa)) (hg : Gl X "len" := by rfl) (hg2 : Gl X "set" := by rfl)
    (na : starEach [a] X.env = (false, eval a X.env) :: starEach [] X.env := by rfl) : PE X (.Call (.Name "len" p) [.Call (.Name "set" p2) [a] [] q] [] pos) (tD K (e1 dLenSet fa)) := (dk_pe_lenSet hc hu hg hm hg2 hm2 ha na).to fun σ H Q ⟨g, F, O, d, E, hd, q⟩ => by
  obtain ⟨x, hx, hd⟩ := bindS hd
  refine ⟨g, F, O, x, E, hx, fun v F1 H1 G1 R1 => ?_⟩
  cases x <;> first | cases hd | skip
  rename_i ds
  obtain ⟨ks, hks, hd⟩ := bindS hd
  split at hd
  · rename_i hl
    cases hd
    cases R1 with
    | tup hf r =>
      rename_i t vs
      obtain ⟨L, rfl, rfl, h3⟩ := r.ofTups hks
      refine ⟨t, L, rfl, G1.f _ _ hf, fun p hp => G1.f _ _ (h3 p hp), by simpa using hl, fun L' hn hs ha' => ?_⟩
      have e1 : L'.length = (ddup (L.map (·.2))).length := by
        rw [← List.length_map (f := (·.2)) (as := L')]
        refine Nat.le_antisymm (nodup_le hn fun x hx => ?_) (nodup_le (ddup_nodup _) fun x hx => ?_)
        · obtain ⟨p, hp, rfl⟩ := List.mem_map.mp hx
          exact (ddup_mem _ _).mpr (List.mem_map.mpr ⟨p, hs p hp, rfl⟩)
        · obtain ⟨p, hp, rfl⟩ := List.mem_map.mp ((ddup_mem _ _).mp hx)
          exact ha' p hp
      rw [e1]
      exact q _ F1 H1 G1 (.int _)
  · cases hd

/-! ### numbers, repeated lists -/
theorem oPow : Op2 K (rI CPow fun i j => .int (i ^ j.toNat)) dPow := oI fun x y z e => by
  cases x <;> cases y <;> try (cases e; done)
  simp only [dPow] at e
  split at e
  · rename_i hc
    cases e
    refine ⟨_, _, rfl, rfl, ⟨hc.1, by omega, ?_⟩, fun F => .int _⟩
    have h := hc.2.2
    simp only [small64, Bool.and_eq_true, decide_eq_true_eq] at h
    omega
  · cases e
theorem oRepN : Op2N K rRep nRep := fun F H x y v w z Q s a b e q => by
  cases x with
  | lst ds =>
    cases y with
    | int k =>
      obtain ⟨p, vs, rfl, h1, r1⟩ := a.lst s
      obtain rfl := b.int
      simp only [nRep] at e
      split at e
      · rename_i hk
        cases e
        exact ⟨p, k, vs, rfl, rfl, h1, hk.1, hk.2.1, by rw [r1.len, ← lim_is]; exact hk.2.2, fun t ht => q t _ F _ (Grow.newU s ht) ht (Sub.free s ht) upd_same (r1.rep _)⟩
      · cases e
    | _ => cases e
  | _ => cases e

/-! ### what is walked -/
theorem iEnumT {p pos' : Pos} {elts : List Expr} {kk : Nat} (hg : Gl X "enumerate") (hm : X.mg "enumerate" = none) (ha : PE X a (tD K fa)) (hs : starEach [a] X.env = (false, eval a X.env) :: starEach [] X.env := by rfl) (hs' : starEach [a] X.env = [(false, eval a X.env)] := by rfl) :
    PI X (.Tuple elts kk pos') (.Call (.Name "enumerate" p) [a] [] pos) (tI K (iEnumTD fa)) := (dk_pi_enum hg hm (pa_cons ha pa_nil hs) hs').to fun σ H R ⟨g, F, O, xs, E, hx, q⟩ => by
  obtain ⟨x, h1, h2⟩ := bindS hx
  refine ⟨g, F, O, x, E, h1, fun v F1 H1 G1 R1 => ?_⟩
  cases x <;> first | cases h2 | skip
  rename_i ds
  cases R1 with
  | tup hf r =>
    refine ⟨_, _, rfl, SqT.of (G1.f _ _ hf), q _ F1 H1 G1 (wdPair dk_walk_enum (by rw [pairs_len, r.len]) (fun H2 ⟨F2, s1, s2⟩ _ => SqT.of (s2 _ _ (s1 _ _ hf))) fun i x y hi h3 h4 => ?_)⟩
    obtain ⟨d, h5, h6⟩ := r.getV h4
    cases h3
    refine ⟨.int i, d, ?_, .int _, h6⟩
    have := pairs_get 0 ds i d h5
    simpa using this
theorem iDownE {tg : Expr} {p : Pos} {c : Expr} (hg : Gl X "range") (hm : X.mg "range" = none) (ha : PE X a (tD K fa)) (hb : PE X b (tD K fb)) (hc : PE X c (tD K (eC (.int (-1))))) (hs3 : starEach [a, b, c] X.env = (false, eval a X.env) :: starEach [b, c] X.env := by rfl) (hs4 : starEach [b, c] X.env = (false, eval b X.env) :: starEach [c] X.env := by rfl)
    (hs5 : starEach [c] X.env = (false, eval c X.env) :: starEach [] X.env := by rfl) (hpl : (backTo pos (starEach [b, c] X.env)).any (·.1) = false := by rfl) : PI X tg (.Call (.Name "range" p) [a, b, c] [] pos) (tI K (iDown fa fb)) :=
  (pi_range3 hg hm (pa_cons ha (pa_cons hb (pa_cons hc pa_nil hs5) hs4) hs3) hs3 hpl).to fun σ H R ⟨g, F, O, xs, E, hx, q⟩ => by
    obtain ⟨x, h1, hx⟩ := bindS hx
    obtain ⟨y, h2, hx⟩ := bindS hx
    refine ⟨g, F, O, x, E, h1, fun v F1 H1 G1 R1 => ⟨g, F1, O, y, E.grow G1, h2, fun w F2 H2 G2 R2 => ⟨g, F2, O, .int (-1), (E.grow G1).grow G2, rfl, fun u F3 H3 G3 R3 => ?_⟩⟩⟩
    match x, y, hx, R1, R2 with
    | .int i, .int j, hy, R1, R2 =>
    obtain rfl := R1.intV
    obtain rfl := R2.intV
    obtain rfl := R3.intV
    simp only at hy
    split at hy
    · rename_i hk
      cases hy
      rw [Bool.and_eq_true] at hk
      refine ⟨i, j, -1, _, rfl, RgC.neg (okR_is hk.1).1 (okR_is hk.1).2 (okR_is hk.2).1 (okR_is hk.2).2, q _ F3 H3 ((G1.trans G2).trans G3) ?_⟩
      unfold WD
      have e : ((List.range (i - j).toNat).map fun (k : Nat) => D.int (i - k)).length = (i - j).toNat := by simp
      rw [e]
      refine walk_rangeC.mono (fun _ _ => trivial) fun m H x H' hi hH y F2 s1 s2 => ?_
      obtain ⟨rfl, rfl⟩ := y
      refine ⟨F2, Grow.refl s2, .int (i - m), by simp [hi], ?_⟩
      show Rp K F2 (V.int (i + (m : Int) * -1)) _
      rw [show i + (m : Int) * -1 = i - m by omega]
      exact .int _
    · cases hy

/-! ### two fors -/
theorem runLc2 {js vs js1 vs1 : List Nat} {it it1 : M (List D)} {tg tg1 : Tg} {t t1 : M Bool} {f : M D} (hj : ∀ j ∈ js, j ∈ vs) (hj1 : ∀ j ∈ js1, j ∈ vs1) : ∀ σ H Q, tN K (nLc2 it tg t it1 tg1 t1 f vs vs1) σ H Q → tLc2 (tIW K it) (tGd K js tg) (tT K t) (tI K it1) (tGd K js1 tg1) (tT K t1) (tD K f) vs vs1 σ H Q := fun σ H Q ⟨g, F, O, ds, E, hd, q⟩ => by
  obtain ⟨xs, h1, h2⟩ := bindS hd
  refine ⟨g, F, O, xs, E, h1, fun J F1 H1 G1 w Dl hD => ?_⟩
  have EW := fun (F2 H2 : Hp) (G2 : Grow F1 H1 F2 H2) => ((E.grow G1).grow G2).wipe vs
  have drp : ∀ (l : List D) (i : Nat) (d : D), l[i]? = some d → l.drop i = d :: l.drop (i + 1) := fun l i d h => by
    obtain ⟨h4, h5⟩ := List.getElem?_eq_some_iff.mp h
    rw [← h5]
    exact List.drop_eq_getElem_cons h4
  refine ⟨fun i m H' => m = xs.length - i ∧ i ≤ xs.length ∧ ∃ F2 us acc, Grow F1 H1 F2 H' ∧ H' Dl = some (.lst us) ∧ F2 Dl = none ∧ RpAll K F2 us acc ∧ lcGo2 tg t it1 tg1 t1 f vs1 (wipeG g vs) (xs.drop i) acc = some ds,
    ⟨xs.length, by simp, Nat.zero_le _, F1, [], [], Grow.newU G1.f hD, upd_same, Sub.free G1.f hD, .nil, h2⟩, ?_⟩
  rintro i m H2 ⟨rfl, hi, F2, us, acc, G2, hl, hf, hr, hg⟩
  have gG : (∃ F3, Sub F1 F3 ∧ Sub F3 H2) ∧ Sub H1 H2 := ⟨⟨F2, G2.sub G1.f, G2.f⟩, G2.h⟩
  by_cases hlt : i < xs.length
  · refine .inr ⟨w.goes i H2 hlt gG, fun H' => ∃ F2 us acc, Grow F1 H1 F2 H' ∧ H' Dl = some (.lst us) ∧ F2 Dl = none ∧ RpAll K F2 us acc ∧ lcGo2 tg t it1 tg1 t1 f vs1 (wipeG g vs) (xs.drop (i + 1)) acc = some ds, fun H' p' => ⟨xs.length - (i + 1), by omega, rfl, hlt, p'⟩, fun x H3 hy => ?_⟩
    obtain ⟨F3, G3, d, hx, rd⟩ := w.yields i H2 x H3 hlt gG hy F2 (G2.sub G1.f) G2.f
    rw [drp xs i d hx] at hg
    obtain ⟨g1, hg1, hg⟩ := bindS hg
    obtain ⟨b, hb, hg⟩ := bindS hg
    have G13 := G2.trans G3
    have hl3 : H3 Dl = some (.lst us) := G3.h _ _ hl
    have hf3 : F3 Dl = none := (G3.k _ _ hl).trans hf
    refine ⟨wipeG g vs, F3, O, d, g1, EW F3 H3 G13, rd, hg1, fun σ' so E' => ⟨wipe_same so hj, g1, F3, O, b, E', hb, fun F4 H4 G4 => ?_⟩⟩
    have hl4 : H4 Dl = some (.lst us) := G4.h _ _ hl3
    have hf4 : F4 Dl = none := (G4.k _ _ hl3).trans hf3
    have r4 : RpAll K F4 us acc := hr.mono ((G3.trans G4).sub G2.f)
    show if b = true then _ else _
    cases b with
    | true =>
      rw [if_pos rfl] at hg ⊢
      obtain ⟨ys, hys, hg⟩ := bindS hg
      obtain ⟨acc1, hacc, hg⟩ := bindS hg
      refine ⟨g1, F4, O, ys, E'.grow G4, hys, fun J1 F5 H5 G5 w1 => ?_⟩
      have hl5 : H5 Dl = some (.lst us) := G5.h _ _ hl4
      have hf5 : F5 Dl = none := (G5.k _ _ hl4).trans hf4
      have G15 := (G13.trans G4).trans G5
      refine ⟨fun j k H' => k = ys.length - j ∧ j ≤ ys.length ∧ ∃ F6 us acc, Grow F1 H1 F6 H' ∧ Env K O F6 H' σ' g1 ∧ Sub F5 F6 ∧ H' Dl = some (.lst us) ∧ F6 Dl = none ∧ RpAll K F6 us acc ∧ lcGo tg1 t1 f (wipeG g1 vs1) (ys.drop j) acc = some acc1,
        ⟨ys.length, by simp, Nat.zero_le _, F5, us, acc, G15, (E'.grow G4).grow G5, Sub.rfl' _, hl5, hf5, r4.mono (G5.sub G4.f), hacc⟩, ?_⟩
      rintro j k H6 ⟨rfl, hjl, F6, us6, acc6, G6, E6, s56, hl6, hf6, hr6, hg6⟩
      have gG1 : (∃ F3, Sub F5 F3 ∧ Sub F3 H6) ∧ True := ⟨⟨F6, s56, G6.f⟩, trivial⟩
      by_cases hlt1 : j < ys.length
      · refine .inr ⟨w1.goes j H6 hlt1 gG1, fun H' => ∃ F6 us acc, Grow F1 H1 F6 H' ∧ Env K O F6 H' σ' g1 ∧ Sub F5 F6 ∧ H' Dl = some (.lst us) ∧ F6 Dl = none ∧ RpAll K F6 us acc ∧ lcGo tg1 t1 f (wipeG g1 vs1) (ys.drop (j + 1)) acc = some acc1, fun H' p' => ⟨ys.length - (j + 1), by omega, rfl, hlt1, p'⟩, fun x1 H7 hy1 => ?_⟩
        obtain ⟨F7, G7, d1, hx1, rd1⟩ := w1.yields j H6 x1 H7 hlt1 gG1 hy1 F6 s56 G6.f
        rw [drp ys j d1 hx1] at hg6
        obtain ⟨g2, hg2, hg6⟩ := bindS hg6
        obtain ⟨b1, hb1, hg6⟩ := bindS hg6
        have hl7 : H7 Dl = some (.lst us6) := G7.h _ _ hl6
        have hf7 : F7 Dl = none := (G7.k _ _ hl6).trans hf6
        have E7 := E6.grow G7
        have s57 := s56.trans (G7.sub G6.f)
        refine ⟨wipeG g1 vs1, F7, O, d1, g2, E7.wipe vs1, rd1, hg2, fun σ3 so3 E3 => ⟨wipe_same so3 hj1, g2, F7, O, b1, E3, hb1, fun F8 H8 G8 => ?_⟩⟩
        have hl8 : H8 Dl = some (.lst us6) := G8.h _ _ hl7
        have hf8 : F8 Dl = none := (G8.k _ _ hl7).trans hf7
        have s58 := s57.trans (G8.sub G7.f)
        have G18 := (G6.trans G7).trans G8
        show if b1 = true then _ else _
        cases b1 with
        | true =>
          rw [if_pos rfl] at hg6 ⊢
          obtain ⟨y, hy, hg6⟩ := bindS hg6
          refine ⟨g2, F8, O, y, E3.grow G8, hy, fun v F9 H9 G9 R9 => ?_⟩
          have hl9 : H9 Dl = some (.lst us6) := G9.h _ _ hl8
          have hf9 : F9 Dl = none := (G9.k _ _ hl8).trans hf8
          have r9 : RpAll K F9 us6 acc6 := hr6.mono (((G7.trans G8).trans G9).sub G6.f)
          have G19 := G18.trans G9
          have E9 := (E7.grow G8).grow G9
          split at hg6
          · rename_i hz
            have hOD : ∀ i, O Dl ≠ some i := fun i hO => by
              obtain ⟨⟨o, ho⟩, _⟩ := (E.grow G1).own Dl i hO
              rw [hD] at ho; cases ho
            refine ⟨us6, hl9, by rw [r9.len, ← lim_is]; exact hz, F9, us6 ++ [v], acc6 ++ [y], ?_, ?_, s58.trans (G9.sub G8.f), upd_same, hf9, r9.app (.cons R9 .nil), hg6⟩
            · exact ⟨fun p o e => by rw [upd_ne (ne_of_none e hD)]; exact G19.h p o e, G19.f.updR hf9, G19.k⟩
            · refine ⟨E9.sub.updR hf9, E9.len, fun i s hs => ?_, fun p i hO => ?_⟩
              · have hk := E9.at' i s hs
                cases s with
                | un => trivial
                | dat d => exact hk
                | own ds =>
                  obtain ⟨p, vs, e1, e2, e3, e4⟩ := hk
                  exact ⟨p, vs, e1, e2, by rw [upd_ne (fun z => hOD i (by rw [← z]; exact e2))]; exact e3, e4⟩
                | odc ds =>
                  obtain ⟨p, vs, e1, e2, e3, e4⟩ := hk
                  exact ⟨p, vs, e1, e2, by rw [upd_ne (fun z => hOD i (by rw [← z]; exact e2))]; exact e3, e4⟩
              · obtain ⟨⟨o, ho⟩, hfo⟩ := E9.own p i hO
                refine ⟨⟨o, ?_⟩, hfo⟩
                rw [upd_ne (fun z => hOD i (by rw [← z]; exact hO))]; exact ho
          · cases hg6
        | false =>
          rw [if_neg (by decide)] at hg6 ⊢
          exact ⟨F8, us6, acc6, G18, E7.grow G8, s58, hl8, hf8, hr6.mono ((G7.trans G8).sub G6.f), hg6⟩
      · have ej : j = ys.length := by omega
        subst ej
        rw [List.drop_length] at hg6
        cases hg6
        exact .inl ⟨w1.stops H6 gG1, F6, us6, acc1, G6, hl6, hf6, hr6, hg⟩
    | false =>
      rw [if_neg (by decide)] at hg ⊢
      exact ⟨F4, us, acc, G13.trans G4, hl4, hf4, r4, hg⟩
  · have ei : i = xs.length := by omega
    subst ei
    rw [List.drop_length] at hg
    cases hg
    exact .inl ⟨w.stops H2 gG, q Dl us F2 H2 (G1.trans G2) (Sub.free G1.h hD) hf hl hr⟩
end
end DL
end
/-! Dl7 -/
section
set_option Elab.async false
set_option linter.all false
set_option maxRecDepth 100000
set_option maxHeartbeats 4000000
/-! Dl7: two fors as a list, several targets, dicts, xs[k] += e. -/
namespace DL
open PySem PySem.Spec PyProof.Rows L2
variable {K : PySem.W.Frag}
section
variable {X : Cx} {a b c e : Expr} {pos : Pos} {fa fb fc : M D}
theorem nLc2E {elt tg iter tg1 iter1 : Expr} {ifs ifs1 : List Expr} {scope : Scope} {own : List (Str × Nat)} {vs1 js js1 : List Nat} {it it1 : M (List D)} {tgd tgd1 : Tg} {t t1 : M Bool} {f : M D} (hc : X.calm = true) (hN : X.N.Nodup) (ok : BlkOk X.N X.env.scope scope own) (hv : ∀ i ∈ vs1, i ∈ own.map (·.2)) (hi : PI X tg iter (tIW K it))
    (hg : ∀ (s : Shared) (H : Hp) (C : Addr) (cl : List (Str × Addr)) (fp : List Addr), PG (X.blk s H scope (compEnvC scope cl C X.env) fp) tg (tGd K js tgd)) (ht : ∀ (s : Shared) (H : Hp) (C : Addr) (cl : List (Str × Addr)) (fp : List Addr), PTs (X.blk s H scope (compEnvC scope cl C X.env) fp) ifs (tT K t))
    (hi1 : ∀ (s : Shared) (H : Hp) (C : Addr) (cl : List (Str × Addr)) (fp : List Addr), PI (X.blk s H scope (compEnvC scope cl C X.env) fp) tg1 iter1 (tI K it1))
    (hg1 : ∀ (s : Shared) (H : Hp) (C : Addr) (cl : List (Str × Addr)) (fp : List Addr), PG (X.blk s H scope (compEnvC scope cl C X.env) fp) tg1 (tGd K js1 tgd1)) (ht1 : ∀ (s : Shared) (H : Hp) (C : Addr) (cl : List (Str × Addr)) (fp : List Addr), PTs (X.blk s H scope (compEnvC scope cl C X.env) fp) ifs1 (tT K t1))
    (he : ∀ (s : Shared) (H : Hp) (C : Addr) (cl : List (Str × Addr)) (fp : List Addr), PE (X.blk s H scope (compEnvC scope cl C X.env) fp) elt (tD K f)) (hj : ∀ j ∈ js, j ∈ own.map (·.2)) (hj1 : ∀ j ∈ js1, j ∈ vs1) (hs : ∀ x, foldedSetIterable iter X.env x = pure x := by intro _; rfl) (hs1 : ∀ env x, foldedSetIterable iter1 env x = pure x := by intro _ _; rfl) :
    PE X (.ListComp elt [⟨tg, iter, ifs, 0⟩, ⟨tg1, iter1, ifs1, 0⟩] scope pos) (tN K (nLc2 it tgd t it1 tgd1 t1 f (own.map (·.2)) vs1)) := (pe_lc2 hc hN hi ok hv hg ht hi1 hg1 ht1 he hs hs1).to (runLc2 hj hj1)
theorem sSetLc2 {y : Str} {i : Nat} {py spos : Pos} {elt tg iter tg1 iter1 : Expr} {ifs ifs1 : List Expr} {scope : Scope} {own : List (Str × Nat)} {vs1 js js1 : List Nat} {it it1 : M (List D)} {tgd tgd1 : Tg} {t t1 : M Bool} {f : M D} (hc : X.calm = true) (hN : X.N.Nodup) (ok : BlkOk X.N X.env.scope scope own) (hv : ∀ i ∈ vs1, i ∈ own.map (·.2))
    (hsw : swapsWith (.ListComp elt [⟨tg, iter, ifs, 0⟩, ⟨tg1, iter1, ifs1, 0⟩] scope pos) (some (.Name y py)) spos.line X.env = pure true) (hi : PI X tg iter (tIW K it))
    (hg : ∀ (s : Shared) (H : Hp) (C : Addr) (cl : List (Str × Addr)) (fp : List Addr), PG (X.blk s H scope (compEnvC scope cl C X.env) fp) tg (tGd K js tgd)) (ht : ∀ (s : Shared) (H : Hp) (C : Addr) (cl : List (Str × Addr)) (fp : List Addr), PTs (X.blk s H scope (compEnvC scope cl C X.env) fp) ifs (tT K t))
    (hi1 : ∀ (s : Shared) (H : Hp) (C : Addr) (cl : List (Str × Addr)) (fp : List Addr), PI (X.blk s H scope (compEnvC scope cl C X.env) fp) tg1 iter1 (tI K it1))
    (hg1 : ∀ (s : Shared) (H : Hp) (C : Addr) (cl : List (Str × Addr)) (fp : List Addr), PG (X.blk s H scope (compEnvC scope cl C X.env) fp) tg1 (tGd K js1 tgd1)) (ht1 : ∀ (s : Shared) (H : Hp) (C : Addr) (cl : List (Str × Addr)) (fp : List Addr), PTs (X.blk s H scope (compEnvC scope cl C X.env) fp) ifs1 (tT K t1))
    (he : ∀ (s : Shared) (H : Hp) (C : Addr) (cl : List (Str × Addr)) (fp : List Addr), PE (X.blk s H scope (compEnvC scope cl C X.env) fp) elt (tD K f)) (hj : ∀ j ∈ js, j ∈ own.map (·.2)) (hj1 : ∀ j ∈ js1, j ∈ vs1) (hy : X.N[i]? = some y := by rfl) (hyl : X.env.scope.names.lookup y = some .local := by rfl) (hs : ∀ x, foldedSetIterable iter X.env x = pure x := by intro _; rfl) (hs1 : ∀ env x, foldedSetIterable iter1 env x = pure x := by intro _ _; rfl) :
    PS X (.Assign [.Name y py] (.ListComp elt [⟨tg, iter, ifs, 0⟩, ⟨tg1, iter1, ifs1, 0⟩] scope pos) spos) (tAsg (tN K (nLc2 it tgd t it1 tgd1 t1 f (own.map (·.2)) vs1)) (gName i)) :=
  (ps_setLc2 hc hN hy hyl hsw hi ok hv hg ht hi1 hg1 ht1 he hs hs1).to fun Dn σ H h => runLc2 hj hj1 σ H _ h
theorem ptsOne {t : M Bool} (h : PT X e (tT K t)) : PTs X [e] (tT K t) := pts_one h

/-! ### x, y = a, b -/
section
variable {x y : Str} {px py pt pt2 : Pos} {kt k2 : Nat} {i j : Nat} {na nb : M (List D)}
theorem SlotOk.frame {O O' : Addr → Option Nat} {F H : Hp} {i : Nat} {o : Option (Option V)} (h : ∀ p, O p = some i → O' p = some i) : ∀ {t : Slot}, SlotOk K O F H i o t → SlotOk K O' F H i o t
  | .un, _ => trivial
  | .dat d, h' => h'
  | .own ds, ⟨p, vs, e, ho, h1, r⟩ => ⟨p, vs, e, h p ho, h1, r⟩
  | .odc ds, ⟨p, vs, e, ho, h1, r⟩ => ⟨p, vs, e, h p ho, h1, r⟩
theorem claim_at {O : Addr → Option Nat} {p : Addr} {i : Nat} : claim O p i p = some i := by unfold claim; rw [if_pos rfl]
theorem sParE (i j : Nat) (hc : X.calm = true) (hN : X.N.Nodup) (ha : PE X a (tD K fa)) (hb : PE X b (tD K fb)) (hw : swappedStores [.Tuple [.Name x px, .Name y py] kt pt] (.Tuple [a, b] k2 pt2) X.env = pure (some [x, y])) (hij : i ≠ j := by decide) (hi : X.N[i]? = some x := by rfl) (hj : X.N[j]? = some y := by rfl)
    (hx : X.env.scope.names.lookup x = some .local := by rfl) (hy : X.env.scope.names.lookup y = some .local := by rfl) (hs : swapsWithSole [.Tuple [.Name x px, .Name y py] kt pt] (.Tuple [a, b] k2 pt2) pos.line X.env = pure false := by rfl)
    (h1 : starEach [a, b] X.env = (false, eval a X.env) :: starEach [b] X.env := by rfl) (h2 : starEach [b] X.env = (false, eval b X.env) :: starEach [] X.env := by rfl) :
    PS X (.Assign [.Tuple [.Name x px, .Name y py] kt pt] (.Tuple [a, b] k2 pt2) pos) (tS K (sPar i j fa fb)) := (ps_par hc hN hi hj hij hx hy (pa_cons ha (pa_cons hb pa_nil h2) h1) hw hs).to fun Dn σ H ⟨g, F, O, H0, F0, Fl, out, E, Od, h, q⟩ => by
  obtain ⟨u, hu, h⟩ := bindS h
  obtain ⟨v, hv, h⟩ := bindS h
  split at h
  · rename_i hl
    cases h
    refine ⟨g, F, O, u, E, hu, fun vu F1 H1 G1 R1 => ⟨g, F1, O, v, E.grow G1, hv, fun vv F2 H2 G2 R2 => ⟨vu, vv, rfl, ?_⟩⟩⟩
    exact q _ O F2 H2 ((((E.grow G1).grow G2).set hl.1 (R1.mono (G2.sub G1.f))).set (by simpa using hl.2) R2) (Od.grow E.sub (G1.trans G2))
  · cases h
theorem sParNE (i j : Nat) (hc : X.calm = true) (hN : X.N.Nodup) (ha : PE X a (tD K fa)) (hb : PE X b (tN K nb)) (hw : swappedStores [.Tuple [.Name x px, .Name y py] kt pt] (.Tuple [a, b] k2 pt2) X.env = pure (some [x, y])) (hij : i ≠ j := by decide) (hi : X.N[i]? = some x := by rfl) (hj : X.N[j]? = some y := by rfl)
    (hx : X.env.scope.names.lookup x = some .local := by rfl) (hy : X.env.scope.names.lookup y = some .local := by rfl) (hs : swapsWithSole [.Tuple [.Name x px, .Name y py] kt pt] (.Tuple [a, b] k2 pt2) pos.line X.env = pure false := by rfl)
    (h1 : starEach [a, b] X.env = (false, eval a X.env) :: starEach [b] X.env := by rfl) (h2 : starEach [b] X.env = (false, eval b X.env) :: starEach [] X.env := by rfl) :
    PS X (.Assign [.Tuple [.Name x px, .Name y py] kt pt] (.Tuple [a, b] k2 pt2) pos) (tS K (sParN i j fa nb)) := (ps_par hc hN hi hj hij hx hy (pa_cons ha (pa_cons hb pa_nil h2) h1) hw hs).to fun Dn σ H ⟨g, F, O, H0, F0, Fl, out, E, Od, h, q⟩ => by
  obtain ⟨u, hu, h⟩ := bindS h
  obtain ⟨v, hv, h⟩ := bindS h
  split at h
  · rename_i hl
    cases h
    refine ⟨g, F, O, u, E, hu, fun vu F1 H1 G1 R1 => ⟨g, F1, O, v, E.grow G1, hv, fun p us F2 H2 G2 hp hf hh R2 => ⟨vu, .ref p, rfl, ?_⟩⟩⟩
    have E2 := (((E.grow G1).grow G2).set hl.1 (R1.mono (G2.sub G1.f)))
    exact q _ _ F2 H2 (E2.take (by simpa using hl.2) hh hf (own_free (E.grow G1) hp) ⟨p, us, rfl, claim_at, hh, R2⟩) (old_claim Od E.sub (G1.trans G2) j (Sub.free G1.h hp))
  · cases h
theorem sParNNE (i j : Nat) (hc : X.calm = true) (hN : X.N.Nodup) (ha : PE X a (tN K na)) (hb : PE X b (tN K nb)) (hw : swappedStores [.Tuple [.Name x px, .Name y py] kt pt] (.Tuple [a, b] k2 pt2) X.env = pure (some [x, y])) (hij : i ≠ j := by decide) (hi : X.N[i]? = some x := by rfl) (hj : X.N[j]? = some y := by rfl)
    (hx : X.env.scope.names.lookup x = some .local := by rfl) (hy : X.env.scope.names.lookup y = some .local := by rfl) (hs : swapsWithSole [.Tuple [.Name x px, .Name y py] kt pt] (.Tuple [a, b] k2 pt2) pos.line X.env = pure false := by rfl)
    (h1 : starEach [a, b] X.env = (false, eval a X.env) :: starEach [b] X.env := by rfl) (h2 : starEach [b] X.env = (false, eval b X.env) :: starEach [] X.env := by rfl) :
    PS X (.Assign [.Tuple [.Name x px, .Name y py] kt pt] (.Tuple [a, b] k2 pt2) pos) (tS K (sParNN i j na nb)) := (ps_par hc hN hi hj hij hx hy (pa_cons ha (pa_cons hb pa_nil h2) h1) hw hs).to fun Dn σ H ⟨g, F, O, H0, F0, Fl, out, E, Od, h, q⟩ => by
  obtain ⟨u, hu, h⟩ := bindS h
  obtain ⟨v, hv, h⟩ := bindS h
  split at h
  · rename_i hl
    cases h
    refine ⟨g, F, O, u, E, hu, fun p1 us1 F1 H1 G1 hp1 hf1 hh1 R1 => ⟨g, F1, O, v, E.grow G1, hv, fun p us F2 H2 G2 hp hf hh R2 => ⟨.ref p1, .ref p, rfl, ?_⟩⟩⟩
    have hh1' := G2.h _ _ hh1
    have hf1' : F2 p1 = none := (G2.k _ _ hh1).trans hf1
    have E2 := (((E.grow G1).grow G2).take (s := .own u) hl.1 hh1' hf1' (own_free E hp1) ⟨p1, us1, rfl, claim_at, hh1', R1.mono (G2.sub G1.f)⟩)
    have hne : p ≠ p1 := fun z => by rw [z, hh1] at hp; cases hp
    have hO2 : claim O p1 i p = none := by
      unfold claim
      rw [if_neg hne]
      exact own_free (E.grow G1) hp
    refine q _ _ F2 H2 (E2.take (by simpa using hl.2.1) hh hf hO2 ⟨p, us, rfl, claim_at, hh, R2⟩) ?_
    have Od1 := old_claim Od E.sub (G1.trans G2) i hp1
    refine ⟨Od1.h, Od1.k, fun q' k hq => ?_, Od1.fl⟩
    unfold claim at hq
    by_cases z : q' = p
    · subst z; exact Sub.free Od.h (Sub.free G1.h hp)
    · rw [if_neg z] at hq; exact Od1.n q' k hq
  · cases h
theorem sParNKE (i j : Nat) {pd : Pos} (hc : X.calm = true) (hN : X.N.Nodup) (ha : PE X a (tN K na)) (hw : swappedStores [.Tuple [.Name x px, .Name y py] kt pt] (.Tuple [a, .Dict [] [] pd] k2 pt2) X.env = pure (some [x, y])) (hij : i ≠ j := by decide) (hi : X.N[i]? = some x := by rfl) (hj : X.N[j]? = some y := by rfl)
    (hx : X.env.scope.names.lookup x = some .local := by rfl) (hy : X.env.scope.names.lookup y = some .local := by rfl) (hs : swapsWithSole [.Tuple [.Name x px, .Name y py] kt pt] (.Tuple [a, .Dict [] [] pd] k2 pt2) pos.line X.env = pure false := by rfl)
    (h1 : starEach [a, .Dict [] [] pd] X.env = (false, eval a X.env) :: starEach [.Dict [] [] pd] X.env := by rfl) (h2 : starEach [.Dict [] [] pd] X.env = (false, eval (.Dict [] [] pd) X.env) :: starEach [] X.env := by rfl) :
    PS X (.Assign [.Tuple [.Name x px, .Name y py] kt pt] (.Tuple [a, .Dict [] [] pd] k2 pt2) pos) (tS K (sParNK i j na)) := (ps_par hc hN hi hj hij hx hy (pa_cons ha (pa_cons pe_dnewK pa_nil h2) h1) hw hs).to fun Dn σ H ⟨g, F, O, H0, F0, Fl, out, E, Od, h, q⟩ => by
  obtain ⟨u, hu, h⟩ := bindS h
  split at h
  · rename_i hl
    cases h
    refine ⟨g, F, O, u, E, hu, fun p1 us1 F1 H1 G1 hp1 hf1 hh1 R1 => fun p hp => ⟨.ref p1, .ref p, rfl, ?_⟩⟩
    have G2 : Grow F1 H1 F1 (upd H1 p (.dK [])) := Grow.newU G1.f hp
    have hh1' := G2.h _ _ hh1
    have E2 := (((E.grow G1).grow G2).take (s := .own u) hl.1 hh1' hf1 (own_free E hp1) ⟨p1, us1, rfl, claim_at, hh1', R1⟩)
    have hne : p ≠ p1 := fun z => by rw [z, hh1] at hp; cases hp
    have hO2 : claim O p1 i p = none := by
      unfold claim
      rw [if_neg hne]
      exact own_free (E.grow G1) hp
    refine q _ _ F1 _ (E2.take (s := .odc []) (by simpa using hl.2.1) upd_same (Sub.free G1.f hp) hO2 ⟨p, [], rfl, claim_at, upd_same, .nil⟩) ?_
    have Od1 := old_claim Od E.sub (G1.trans G2) i hp1
    refine ⟨Od1.h, Od1.k, fun q' k hq => ?_, Od1.fl⟩
    unfold claim at hq
    by_cases z : q' = p
    · subst z; exact Sub.free Od.h (Sub.free G1.h hp)
    · rw [if_neg z] at hq; exact Od1.n q' k hq
  · cases h
end

/-! ### dicts -/
def toKey : D → Option Key
  | .int i => some (.inl i)
  | .str x => some (.inr x)
  | _ => none
theorem key_v {F H : Hp} {v : V} {d : D} (h : Rv K F H v d) (k : keyD d = true) : ∃ kk : Key, d = dKey kk ∧ v = kV kk := by
  cases d with
  | int i => exact ⟨.inl i, rfl, h.int⟩
  | str x => exact ⟨.inr x, rfl, h.str.1⟩
  | _ => cases k
theorem keyEq_is (k j : Key) : keyEq (dKey k) (dKey j) = decide (k = j) := by
  cases k with
  | inl i =>
    cases j with
    | inl m =>
      show (i == m) = _
      by_cases h : i = m
      · subst h; simp
      · have : ¬ (Sum.inl i : Key) = Sum.inl m := fun z => h (Sum.inl.inj z)
        rw [decide_eq_false this]; simpa using h
    | inr x => exact (decide_eq_false (fun z => nomatch z)).symm
  | inr x =>
    cases j with
    | inl m => exact (decide_eq_false (fun z => nomatch z)).symm
    | inr y =>
      show (x == y) = _
      by_cases h : x = y
      · subst h; simp
      · have : ¬ (Sum.inr x : Key) = Sum.inr y := fun z => h (Sum.inr.inj z)
        rw [decide_eq_false this]; simpa using h
theorem RpKv.look {F : Hp} (k : Key) : ∀ {kvs : List (Key × V)} {ds : List (D × D)}, RpKv K F kvs ds → (valV kvs k).isSome = (getD ds (dKey k)).isSome ∧ ∀ d, getD ds (dKey k) = some d → ∃ v, valV kvs k = some v ∧ Rp K F v d
  | _, _, .nil => ⟨rfl, fun d h => by cases h⟩
  | _, _, .cons (k := j) (v := v) (kvs := kvs) (d := d) (ds := ds) h r => by
    obtain ⟨h1, h2⟩ := RpKv.look k r
    by_cases hj : j = k
    · have e1 : valV ((j, v) :: kvs) k = some v := valV_pos hj
      have e2 : getD ((dKey j, d) :: ds) (dKey k) = some d := by
        unfold getD
        rw [List.find?_cons, keyEq_is, decide_eq_true hj]; rfl
      rw [e1, e2]
      exact ⟨rfl, fun d' z => by cases z; exact ⟨v, rfl, h⟩⟩
    · have e1 : valV ((j, v) :: kvs) k = valV kvs k := valV_neg hj
      have e2 : getD ((dKey j, d) :: ds) (dKey k) = getD ds (dKey k) := by
        unfold getD
        rw [List.find?_cons, keyEq_is, decide_eq_false hj]
      rw [e1, e2]
      exact ⟨h1, h2⟩
theorem RpKv.any {F : Hp} (k : Key) : ∀ {kvs : List (Key × V)} {ds : List (D × D)}, RpKv K F kvs ds → (kvs.any fun kv => decide (kv.1 = k)) = ds.any fun kv => keyEq kv.1 (dKey k)
  | _, _, .nil => rfl
  | _, _, .cons h r => by
    simp only [List.any_cons]
    rw [RpKv.any k r, keyEq_is]
theorem RpKv.repl {F : Hp} (k : Key) {v : V} {d : D} (h : Rp K F v d) : ∀ {kvs : List (Key × V)} {ds : List (D × D)}, RpKv K F kvs ds → RpKv K F (kvs.map fun kv => if kv.1 = k then (kv.1, v) else kv) (ds.map fun kv => if keyEq kv.1 (dKey k) then (kv.1, d) else kv)
  | _, _, .nil => .nil
  | _, _, .cons (k := j) h' r => by
    simp only [List.map_cons]
    by_cases hj : j = k
    · rw [if_pos hj, if_pos (by rw [keyEq_is, decide_eq_true hj])]
      exact .cons h (RpKv.repl k h r)
    · rw [if_neg hj, if_neg (by rw [keyEq_is, decide_eq_false hj]; decide)]
      exact .cons h' (RpKv.repl k h r)
theorem RpKv.app {F : Hp} : ∀ {ks ls : List (Key × V)} {ds es : List (D × D)}, RpKv K F ks ds → RpKv K F ls es → RpKv K F (ks ++ ls) (ds ++ es)
  | _, _, _, _, .nil, s => s
  | _, _, _, _, .cons h r, s => .cons h (RpKv.app r s)
theorem RpKv.put {F : Hp} (k : Key) {v : V} {d : D} (h : Rp K F v d) {kvs : List (Key × V)} {ds : List (D × D)} (r : RpKv K F kvs ds) : RpKv K F (putK kvs k v) (putD ds (dKey k) d) := by
  unfold putK putD
  rw [r.any k]
  split
  · exact r.repl k h
  · exact r.app (.cons h .nil)
theorem dInE (hu : X.A.units + 1 < cLine) (ha : PE X a (tW K fa)) (hb : PE X b (tW K fb)) (h1 : behindInMarks .In b = false := by with_unfolding_all rfl) : PE X (.Compare a [.In] [b] pos) (tD K (e2 dInK fa fb)) := (pe_cmp (pc_din hu ha hb) h1).to fun σ H Q ⟨g, F, O, d, E, hd, q⟩ => by
  obtain ⟨x, hx, hd⟩ := bindS hd
  obtain ⟨y, hy, hd⟩ := bindS hd
  refine ⟨g, F, O, x, E, hx, fun v F1 H1 G1 R1 => ⟨g, F1, O, y, E.grow G1, hy, fun w F2 H2 G2 R2 => ?_⟩⟩
  cases y <;> first | (cases hd; done) | skip
  rename_i ds
  simp only [dInK] at hd
  split at hd
  · rename_i hk
    cases hd
    obtain ⟨kk, rfl, rfl⟩ := key_v R1 hk
    obtain ⟨p, kvs, rfl, h2, r2⟩ := R2.dct G2.f
    refine ⟨p, _, rfl, DGet.k h2, ?_⟩
    rw [(r2.look kk).1]
    exact q _ F2 H2 (G1.trans G2) (.bl _)
  · cases hd
theorem dNotInE (hu : X.A.units + 1 < cLine) (ha : PE X a (tW K fa)) (hb : PE X b (tW K fb)) (h1 : behindInMarks .NotIn b = false := by with_unfolding_all rfl) : PE X (.Compare a [.NotIn] [b] pos) (tD K (e2 dNotInK fa fb)) := (pe_cmp (pc_dnotin hu ha hb) h1).to fun σ H Q ⟨g, F, O, d, E, hd, q⟩ => by
  obtain ⟨x, hx, hd⟩ := bindS hd
  obtain ⟨y, hy, hd⟩ := bindS hd
  refine ⟨g, F, O, x, E, hx, fun v F1 H1 G1 R1 => ⟨g, F1, O, y, E.grow G1, hy, fun w F2 H2 G2 R2 => ?_⟩⟩
  cases y <;> first | (cases hd; done) | skip
  rename_i ds
  simp only [dNotInK] at hd
  split at hd
  · rename_i hk
    cases hd
    obtain ⟨kk, rfl, rfl⟩ := key_v R1 hk
    obtain ⟨p, kvs, rfl, h2, r2⟩ := R2.dct G2.f
    refine ⟨p, _, rfl, DGet.k h2, ?_⟩
    rw [(r2.look kk).1]
    exact q _ F2 H2 (G1.trans G2) (.bl _)
  · cases hd
theorem dGetE (hu : X.A.units + 1 < cLine) (ha : PE X a (tW K fa)) (hb : PE X b (tW K fb)) (hs : NoSl b) : PE X (.Subscript a b pos) (tD K (e2 dGetK fa fb)) := (pe_dget hu ha hb hs).to fun σ H Q ⟨g, F, O, d, E, hd, q⟩ => by
  obtain ⟨x, hx, hd⟩ := bindS hd
  obtain ⟨y, hy, hd⟩ := bindS hd
  refine ⟨g, F, O, x, E, hx, fun v F1 H1 G1 R1 => ⟨g, F1, O, y, E.grow G1, hy, fun w F2 H2 G2 R2 => ?_⟩⟩
  cases x <;> first | (cases hd; done) | skip
  rename_i ds
  simp only [dGetK] at hd
  split at hd
  · rename_i hk
    obtain ⟨kk, rfl, rfl⟩ := key_v R2 hk
    obtain ⟨p, kvs, rfl, h2, r2⟩ := (R1.grow G1.f G2).dct G2.f
    obtain ⟨v, h3, h4⟩ := (r2.look kk).2 d hd
    have h5 := DGet.k (k := kk) h2
    rw [h3] at h5
    exact ⟨p, v, rfl, h5, q _ F2 H2 (G1.trans G2) h4⟩
  · cases hd
section
variable {x : Str} {p2 p3 : Pos}
theorem sPutDE (i : Nat) {k : Expr} {fk : M D} (hu : X.A.units + 1 < cLine) (he : PE X e (tD K fa)) (hk : PE X k (tD K fk)) (hN : X.N[i]? = some x := by rfl) (hv : Vis X.env.scope x := by first | exact Or.inl rfl | exact Or.inr (Or.inl rfl) | exact Or.inr (Or.inr rfl)) (hd : (x == ("__debug__" : Str)) = false := by decide)
    (hcd : (x == ("__classdict__" : Str)) = false := by decide) (hs : swapsWith e (some (.Subscript (.Name x p2) k p3)) pos.line X.env = pure false := by rfl) :
    PS X (.Assign [.Subscript (.Name x p2) k p3] e pos) (tS K (sPutD i fk fa)) := (ps_dput hu (pe_var hN hv hd hcd) hk he hs).to fun Dn σ H ⟨g, F, O, H0, F0, Fl, out, E, Od, h, q⟩ => by
  obtain ⟨d, hd, h⟩ := bindS h
  obtain ⟨j, hj, h⟩ := bindS h
  split at h
  · rename_i ds hg
    split at h
    · rename_i hz
      cases h
      obtain ⟨p, kvs, e1, e2, e3, e4⟩ := E.at' i _ hg
      refine ⟨g, F, O, d, E, hd, fun v F1 H1 G1 R1 => ⟨_, e1, g, F1, O, j, E.grow G1, hj, fun w F2 H2 G2 R2 => ?_⟩⟩
      obtain ⟨kk, rfl, rfl⟩ := key_v (F := F2) (H := H2) (.rp R2) hz.1
      have G12 := G1.trans G2
      have h3 := G12.h _ _ e3
      have r3 := e4.mono (G12.sub E.sub)
      refine ⟨p, _, rfl, DPut.k h3 (by rw [r3.len, ← lim_is]; exact hz.2), ?_⟩
      exact q σ O F2 _ ((E.grow G12).write e2 ⟨p, _, e1, e2, upd_same, r3.put kk (R1.mono (G2.sub G1.f))⟩) (old_write (Od.grow E.sub G12) e2)
    · cases h
  · cases h
/-- xs[k] += e -/
theorem sAugLE (i : Nat) {k : Expr} {fk : M D} (he : PE X e (tD K fa)) (hk : PE X k (tD K fk)) (hN : X.N[i]? = some x := by rfl) (hv : Vis X.env.scope x := by first | exact Or.inl rfl | exact Or.inr (Or.inl rfl) | exact Or.inr (Or.inr rfl)) (hd : (x == ("__debug__" : Str)) = false := by decide)
    (hcd : (x == ("__classdict__" : Str)) = false := by decide) (ha : ∀ ov iv new, augStore k ov iv new = (do holding [new, ov, iv] (setItem ov iv new); release [new, ov, iv] []; pure .next) := by intros; rfl) :
    PS X (.AugAssign (.Subscript (.Name x p2) k p3) .Add e pos) (tS K (sAugL i fk fa)) := (ps_augS (pe_var hN hv hd hcd) hk dk_get_list he ip_add set_list ha).to fun Dn σ H ⟨g, F, O, H0, F0, Fl, out, E, Od, h, q⟩ => by
  obtain ⟨j, hj, h⟩ := bindS h
  split at h
  · rename_i ds j hg
    obtain ⟨m, hm, h⟩ := bindS h
    split at h
    · rename_i old hold
      obtain ⟨d, hd, h⟩ := bindS h
      split at h
      · rename_i b
        cases h
        obtain ⟨p, vs, e1, e2, e3, e4⟩ := E.at' i _ hg
        refine ⟨_, e1, g, F, O, _, E, hj, fun w F1 H1 G1 R1 => ?_⟩
        obtain rfl := R1.intV
        have r1 := e4.mono (G1.sub E.sub)
        obtain ⟨vo, ho, ro⟩ := r1.get hold
        obtain rfl := ro.intV
        have hat : atI vs j = some (.int old) := by
          unfold atI
          rw [r1.len, ← place_is, hm]
          exact ho
        refine ⟨p, vs, j, .int old, rfl, rfl, SqL.of (G1.h _ _ e3), hat, g, F1, O, _, E.grow G1, hd, fun u F2 H2 G2 R2 => ?_⟩
        obtain rfl := R2.intV
        have G12 := G1.trans G2
        refine ⟨old, b, rfl, rfl, p, vs, j, m, rfl, rfl, G12.h _ _ e3, by rw [r1.len]; exact hm, ?_⟩
        exact q σ O F2 _ ((E.grow G12).write e2 ⟨p, _, e1, e2, upd_same, RpAll.set (.int _) m (e4.mono (G12.sub E.sub))⟩) (old_write (Od.grow E.sub G12) e2)
      · cases h
    · cases h
  · cases h
end
end
end DL
end
/-! Dl8 -/
section
set_option Elab.async false
set_option linter.all false
set_option maxRecDepth 100000
set_option maxHeartbeats 4000000
/-! Dl8: rules in the form in which the printer uses them. -/
namespace DL
open PySem PySem.Spec PyProof.Rows L2
variable {K : PySem.W.Frag}
theorem oIsN2 : Op2 K (fun x y H Q => y = .non ∧ Q (.bl (decide (x = .non))) H) dIsN2 := oIsN
theorem oNotN2 : Op2 K (fun x y H Q => y = .non ∧ Q (.bl (!decide (x = .non))) H) dNotN2 := oNotN
theorem hr65 {k : Nat} {A : Around} (r : Room k A) : A.units + 65 < cLine := by have := r.un; omega
section
variable {X : Cx} {a b c e : Expr} {pos : Pos} {fa fb fc : M D}
theorem opAdd : OpR X (binaryOp .Add) (rAdd X.K) := OpR.or op_add (OpR.or op_catA op_cat)
theorem opIn (hr : X.A.units + 65 < cLine) : OpR X (compareOp .In) (rInAll X.K) := OpR.or (op_inD hr) op_in_seq
theorem opNotIn (hr : X.A.units + 65 < cLine) : OpR X (compareOp .NotIn) (rNotInAll X.K) := OpR.or (op_notInD hr) op_notIn_seq
theorem crLen : CallR X (.builtin "len") (fun xs H Q => rLen X.K xs H Q ∨ rLenD xs H Q) := CallR.or call_len_seq call_lenD
theorem PE.or {t t' : TE} (h : PE X e t) (h' : PE X e t') : PE X e (fun σ H Q => t σ H Q ∨ t' σ H Q) := ⟨fun pins s σ H Q I hw => by
  rcases hw with hw | hw
  · exact h.run pins s σ H Q I hw
  · exact h'.run pins s σ H Q I hw⟩
theorem dSlE {lo hi : Option Expr} {l h : M (Option Int)} {p2 : Pos} (he : PE X e (tW K fa)) (hl : PO X lo (tO K l)) (hh : PO X hi (tO K h)) : PE X (.Subscript e (.Slice lo hi none p2) pos) (tD K (eSl fa l h)) :=
  (PE.or (dOfN (nSlE he hl hh)) (dSlT he hl hh)).to fun σ H Q ⟨g, F, O, d, E, hd, q⟩ => by
    obtain ⟨x, hx, hd⟩ := bindS hd
    obtain ⟨i, hi, hd⟩ := bindS hd
    obtain ⟨j, hj, hd⟩ := bindS hd
    cases x <;> first | (cases hd; done) | skip
    · cases hd
      exact .inl ⟨g, F, O, _, E, by unfold eL nSl; simp only [hx, hi, hj, Option.bind_some], q⟩
    · cases hd
      exact .inr ⟨g, F, O, _, E, by unfold eSlT; simp only [hx, hi, hj, Option.bind_some], q⟩
theorem iEnumE {p pos' : Pos} {elts : List Expr} {kk : Nat} (hg : Gl X "enumerate") (hm : X.mg "enumerate" = none) (ha : PE X a (tD K fa)) (hs : starEach [a] X.env = (false, eval a X.env) :: starEach [] X.env := by rfl) (hs' : starEach [a] X.env = [(false, eval a X.env)] := by rfl) :
    PI X (.Tuple elts kk pos') (.Call (.Name "enumerate" p) [a] [] pos) (tI K (iEnum fa)) := (PI.or (iEnumL hg hm ha hs hs') (iEnumT hg hm ha hs hs')).to fun σ H R ⟨g, F, O, xs, E, hx, q⟩ => by
  obtain ⟨x, h1, h2⟩ := bindS hx
  cases x <;> first | (cases h2; done) | skip
  · cases h2
    exact .inl ⟨g, F, O, _, E, by unfold iEnumLD; simp only [h1, Option.bind_some], q⟩
  · cases h2
    exact .inr ⟨g, F, O, _, E, by unfold iEnumTD; simp only [h1, Option.bind_some], q⟩
theorem nBin2 {op : Operator} {r : R2} {o : D → D → Option (List D)} (ho : OpR X (binaryOp op) r) (h : Op2N K r o) (ha : PE X a (tW K fa)) (hb : PE X b (tW K fb)) : PE X (.BinOp a op b pos) (tN K (n2 o fa fb)) := nBin ho h ha hb
theorem nCB {x : Str} {id : String} {r : List V → Hp → VK → Prop} {o : List D → Option (List D)} {es : List Expr} {f : M (List D)} {p : Pos} (hc : CallR X (.builtin id) r) (h : OpAN K r o) (hm : X.mg x = none) (hv : bootBuiltins x = some (.builtin id)) (ha : PA X (e :: es) (tAW K f)) (hg : Gl X x := by rfl)
    (hn : x ≠ "__name__" := by decide) (hdb : (x == ("__debug__" : Str)) = false := by decide) (he : starEach (e :: es) X.env = (false, eval e X.env) :: starEach es X.env := by rfl) (hpl : (backTo pos (starEach es X.env)).any (·.1) = false := by rfl) :
    PE X (.Call (.Name x p) (e :: es) [] pos) (tN K (nLen o f)) := nCallB hc h hg hm hv ha hn hdb he hpl
theorem nCT {x : Str} {id : String} {r : List V → Hp → VK → Prop} {o : List D → Option (List D)} {es : List Expr} {f : M (List D)} {p : Pos} (hc : CallR X (.type id) r) (h : OpAN K r o) (hm : X.mg x = none) (hv : bootBuiltins x = some (.type id)) (ha : PA X (e :: es) (tAW K f)) (hg : Gl X x := by rfl)
    (hn : x ≠ "__name__" := by decide) (hdb : (x == ("__debug__" : Str)) = false := by decide) (he : starEach (e :: es) X.env = (false, eval e X.env) :: starEach es X.env := by rfl) (hpl : (backTo pos (starEach es X.env)).any (·.1) = false := by rfl) :
    PE X (.Call (.Name x p) (e :: es) [] pos) (tN K (nLen o f)) := nCallTy hc h hg hm hv ha hn hdb he hpl
theorem dCB {x : Str} {id : String} {r : List V → Hp → VK → Prop} {o : List D → Option D} {es : List Expr} {f : M (List D)} {p : Pos} (hc : CallR X (.builtin id) r) (h : OpA K r o) (hm : X.mg x = none) (hv : bootBuiltins x = some (.builtin id)) (ha : PA X (e :: es) (tAW K f)) (hg : Gl X x := by rfl)
    (hn : x ≠ "__name__" := by decide) (hdb : (x == ("__debug__" : Str)) = false := by decide) (he : starEach (e :: es) X.env = (false, eval e X.env) :: starEach es X.env := by rfl) (hpl : (backTo pos (starEach es X.env)).any (·.1) = false := by rfl) :
    PE X (.Call (.Name x p) (e :: es) [] pos) (tD K (eApp o f)) := dCallB hc h hg hm hv ha hn hdb he hpl
theorem dCT {x : Str} {id : String} {r : List V → Hp → VK → Prop} {o : List D → Option D} {es : List Expr} {f : M (List D)} {p : Pos} (hc : CallR X (.type id) r) (h : OpA K r o) (hm : X.mg x = none) (hv : bootBuiltins x = some (.type id)) (ha : PA X (e :: es) (tAW K f)) (hg : Gl X x := by rfl)
    (hn : x ≠ "__name__" := by decide) (hdb : (x == ("__debug__" : Str)) = false := by decide) (he : starEach (e :: es) X.env = (false, eval e X.env) :: starEach es X.env := by rfl) (hpl : (backTo pos (starEach es X.env)).any (·.1) = false := by rfl) :
    PE X (.Call (.Name x p) (e :: es) [] pos) (tD K (eApp o f)) := dCallTy hc h hg hm hv ha hn hdb he hpl
theorem crTup : CallR X (.type "tuple") (rTupOf X.K) := call_tuple_of
theorem crLst : CallR X (.type "list") (rLstOf X.K) := call_list_of
theorem crSortD (hc : X.calm = true) : CallR X (.builtin "sorted") rSortedDI := call_sortedDI hc
theorem teInE (hu : X.A.units + 1 < cLine) (ha : PE X a (tW K fa)) (hb : PE X b (tW K fb)) (h1 : behindInMarks .In b = false := by with_unfolding_all rfl) : PT X (.Compare a [.In] [b] pos) (tT K (tV (e2 dInK fa fb))) := (pt_cmp (pc_din hu ha hb) h1).to fun σ H Q ⟨g, F, O, d, E, hd, q⟩ => by
  obtain ⟨z, hz, hd⟩ := bindS hd
  cases z <;> first | (cases hd; done) | skip
  cases hd
  obtain ⟨x, hx, hd⟩ := bindS hz
  obtain ⟨y, hy, hd⟩ := bindS hd
  refine ⟨g, F, O, x, E, hx, fun v F1 H1 G1 R1 => ⟨g, F1, O, y, E.grow G1, hy, fun w F2 H2 G2 R2 => ?_⟩⟩
  cases y <;> first | (cases hd; done) | skip
  rename_i ds
  simp only [dInK] at hd
  split at hd
  · rename_i hk
    cases hd
    obtain ⟨kk, rfl, rfl⟩ := key_v R1 hk
    obtain ⟨p, kvs, rfl, h2, r2⟩ := R2.dct G2.f
    refine ⟨p, _, rfl, DGet.k h2, _, rfl, ?_⟩
    rw [(r2.look kk).1]
    exact q F2 H2 (G1.trans G2)
  · cases hd
theorem teNotInE (hu : X.A.units + 1 < cLine) (ha : PE X a (tW K fa)) (hb : PE X b (tW K fb)) (h1 : behindInMarks .NotIn b = false := by with_unfolding_all rfl) : PT X (.Compare a [.NotIn] [b] pos) (tT K (tV (e2 dNotInK fa fb))) := (pt_cmp (pc_dnotin hu ha hb) h1).to fun σ H Q ⟨g, F, O, d, E, hd, q⟩ => by
  obtain ⟨z, hz, hd⟩ := bindS hd
  cases z <;> first | (cases hd; done) | skip
  cases hd
  obtain ⟨x, hx, hd⟩ := bindS hz
  obtain ⟨y, hy, hd⟩ := bindS hd
  refine ⟨g, F, O, x, E, hx, fun v F1 H1 G1 R1 => ⟨g, F1, O, y, E.grow G1, hy, fun w F2 H2 G2 R2 => ?_⟩⟩
  cases y <;> first | (cases hd; done) | skip
  rename_i ds
  simp only [dNotInK] at hd
  split at hd
  · rename_i hk
    cases hd
    obtain ⟨kk, rfl, rfl⟩ := key_v R1 hk
    obtain ⟨p, kvs, rfl, h2, r2⟩ := R2.dct G2.f
    refine ⟨p, _, rfl, DGet.k h2, _, rfl, ?_⟩
    rw [(r2.look kk).1]
    exact q F2 H2 (G1.trans G2)
  · cases hd
end
theorem law_sp {f : Fn} {n : Nat} (hl : ∀ ns : List Int, ns.length ≤ n → f [.scr ns] = some (.d (.bl true))) {H : Hp} {a : Addr} {ns : List Int} (h : ns.length ≤ n) (hS : SqL K H a (ns.map V.int)) (E : XK) : spR K f [.ref a] H (fun v _ => v = .bl true) E :=
  ⟨H, [.scr ns], .d (.bl true), Sub.rfl' H, .cons (.scr hS) .nil, hl ns h, fun v F' H' G R => R.blV⟩
end DL
end
/-! Gk00Sem -/
section
set_option linter.all false
/-! the meaning of each def of Gk00, printed by gen.py -/
namespace Gk00
open PySem DL
/-- slots: 0 thing -/
def s_is_integer : S :=
  (sRet (eAnd (e1 (dIsi .int) (eV 0)) (eNot (e1 (dIsi .bool) (eV 0)))))
def f_is_integer : Fn := fnR 1 1 s_is_integer
/-- slots: 0 thing, 1 most, 2 at, 3 one -/
def s_is_clause : S :=
  (sSeq (sIf (tOr (tNot (tV (e1 (dIsi .tuple) (eV 0)))) (tNot (tV (eApp dAll (aC (eL (nLc (iSeq (eN 0)) (gN 3) tYes (eAnd (eCall f_is_integer (aC (eN 3) aN)) (eChain dLe dLe (eC (.int 1)) (eApp dAbs (aC (eV 3) aN)) (eV 1))) [3])) aN))))) (sRet (eC (.bl false))) sNext)
  (sRet (eApp dAll (aC (eL (nLc (iRng1 (e2 dSub (eApp dLen (aC (eV 0) aN)) (eC (.int 1)))) (gN 2) tYes (e2 dLt (eApp dAbs (aC (e2 dIx (eV 0) (eV 2)) aN)) (eApp dAbs (aC (e2 dIx (eV 0) (e2 dAdd (eV 2) (eC (.int 1)))) aN))) [2])) aN))))
def f_is_clause : Fn := fnR 2 4 s_is_clause
/-- slots: 0 thing, 1 rows, 2 at, 3 row -/
def s_is_gates : S :=
  (sSeq (sIf (tOr (tNot (tV (e1 (dIsi .tuple) (eV 0)))) (tOr (tV (e2 dNe (eApp dLen (aC (eV 0) aN)) (eC (.int 3)))) (tOr (tV (e2 dNe (e2 dIx (eV 0) (eC (.int 0))) (eC (.str "gates")))) (tNot (tV (eCall f_is_integer (aC (e2 dIx (eV 0) (eC (.int 1))) aN))))))) (sRet (eC (.bl false))) sNext)
  (sSeq (sIf (tOr (tNot (tV (eChain dLe dLe (eC (.int 0)) (e2 dIx (eV 0) (eC (.int 1))) (eC (.int 400))))) (tOr (tNot (tV (e1 (dIsi .tuple) (e2 dIx (eV 0) (eC (.int 2)))))) (tV (e2 dGt (eApp dLen (aC (e2 dIx (eV 0) (eC (.int 2))) aN)) (eC (.int 20000)))))) (sRet (eC (.bl false))) sNext)
  (sSeq (sSet 1 (e2 dIx (eV 0) (eC (.int 2))))
  (sSeq (sIf (tNot (tV (eApp dAll (aC (eL (nLc (iEnum (eN 1)) (gT [2, 3]) tYes (eAnd (eCall f_is_clause (aC (eN 3) (aC (e2 dAdd (e2 dIx (eV 0) (eC (.int 1))) (eV 2)) aN))) (e2 dNe (eApp dLen (aC (eV 3) aN)) (eC (.int 1)))) [2, 3])) aN)))) (sRet (eC (.bl false))) sNext)
  (sRet (e2 dEq (e1 dLenSet (eN 1)) (eApp dLen (aC (eV 1) aN))))))))
def f_is_gates : Fn := fnR 1 4 s_is_gates
/-- slots: 0 gates -/
def s_check_gates : S :=
  (sIf (tNot (tV (eCall f_is_gates (aC (eN 0) aN)))) sNever sNext)
def f_check_gates : Fn := fnR 1 1 s_check_gates
/-- slots: 0 gates -/
def s_variables_in : S :=
  (sSeq (sDrop (eCall f_check_gates (aC (eN 0) aN)))
  (sRet (e2 dAdd (e2 dIx (eV 0) (eC (.int 1))) (eApp dLen (aC (e2 dIx (eV 0) (eC (.int 2))) aN)))))
def f_variables_in : Fn := fnR 1 1 s_variables_in
/-- slots: 0 thing, 1 bits, 2 one -/
def s_is_code : S :=
  (sRet (eAnd (e1 (dIsi .tuple) (eV 0)) (eAnd (e2 dEq (eApp dLen (aC (eV 0) aN)) (eV 1)) (eApp dAll (aC (eL (nLc (iSeq (eN 0)) (gN 2) tYes (e1 (dIsi .bool) (eV 2)) [2])) aN)))))
def f_is_code : Fn := fnR 2 3 s_is_code
/-- slots: 0 gates, 1 code, 2 found, 3 row, 4 literal -/
def s_values : S :=
  (sSeq (sDrop (eCall f_check_gates (aC (eN 0) aN)))
  (sSeq (sIf (tNot (tV (eCall f_is_code (aC (eN 1) (aC (e2 dIx (eV 0) (eC (.int 1))) aN))))) sNever sNext)
  (sSeq (sOwn 2 (nLen nLstOf (aC (eV 1) aN)))
  (sSeq (sFor (iSeq (e2 dIx (eV 0) (eC (.int 2)))) (gN 3)
  (sApp 2 (eApp dAll (aC (eL (nLc (iSeq (eN 3)) (gN 4) tYes (e2 dEq (e2 dIx (eV 2) (e2 dSub (eApp dAbs (aC (eV 4) aN)) (eC (.int 1)))) (e2 dGt (eV 4) (eC (.int 0)))) [4])) aN))))
  (sRet (eApp dTupOf (aC (eV 2) aN)))))))
def f_values : Fn := fnR 2 5 s_values
/-- slots: 0 truths, 1 literal -/
def s_is_true : S :=
  (sRet (e2 dEq (e2 dIx (eV 0) (e2 dSub (eApp dAbs (aC (eV 1) aN)) (eC (.int 1)))) (e2 dGt (eV 1) (eC (.int 0)))))
def f_is_true : Fn := fnR 2 2 s_is_true
/-- slots: 0 thing, 1 bits, 2 one -/
def s_is_half : S :=
  (sSeq (sIf (tOr (tNot (tV (e1 (dIsi .tuple) (eV 0)))) (tV (e2 dNe (eApp dLen (aC (eV 0) aN)) (eV 1)))) (sRet (eC (.bl false))) sNext)
  (sRet (eApp dAll (aC (eL (nLc (iSeq (eN 0)) (gN 2) tYes (eOr (e2 dIsN2 (eV 2) (eC .non)) (e1 (dIsi .bool) (eV 2))) [2])) aN))))
def f_is_half : Fn := fnR 2 3 s_is_half
/-- slots: 0 found, 1 literal, 2 told -/
def s_known_literal : S :=
  (sSeq (sSet 2 (e2 dIx (eV 0) (e2 dSub (eApp dAbs (aC (eV 1) aN)) (eC (.int 1)))))
  (sRet (eIf (tV (e2 dIsN2 (eV 2) (eC .non))) (eC .non) (e2 dEq (eV 2) (e2 dGt (eV 1) (eC (.int 0)))))))
def f_known_literal : Fn := fnR 2 3 s_known_literal
/-- slots: 0 gates, 1 half, 2 found, 3 row, 4 told, 5 literal -/
def s_known_values : S :=
  (sSeq (sDrop (eCall f_check_gates (aC (eN 0) aN)))
  (sSeq (sIf (tNot (tV (eCall f_is_half (aC (eN 1) (aC (e2 dIx (eV 0) (eC (.int 1))) aN))))) sNever sNext)
  (sSeq (sOwn 2 (nLen nLstOf (aC (eV 1) aN)))
  (sSeq (sFor (iSeq (e2 dIx (eV 0) (eC (.int 2)))) (gN 3)
  (sSeq (sSet 4 (eL (nLc (iSeq (eN 3)) (gN 5) tYes (eCallV f_known_literal (aC (eV 2) (aC (eV 5) aN))) [5])))
  (sApp 2 (eIf (tV (e2 dIn (eC (.bl false)) (eV 4))) (eC (.bl false)) (eIf (tV (e2 dIn (eC .non) (eV 4))) (eC .non) (eC (.bl true)))))))
  (sRet (eApp dTupOf (aC (eV 2) aN)))))))
def f_known_values : Fn := fnR 2 6 s_known_values
/-- slots: 0 gates, 1 literals, 2 most, 3 one -/
def s_check_literals : S :=
  (sSeq (sSet 2 (eCall f_variables_in (aC (eN 0) aN)))
  (sIf (tOr (tNot (tV (e1 (dIsi .tuple) (eV 1)))) (tNot (tV (eApp dAll (aC (eL (nLc (iSeq (eN 1)) (gN 3) tYes (eCall f_is_clause (aC (eTup (aC (eN 3) aN)) (aC (eN 2) aN))) [3])) aN))))) sNever sNext))
def f_check_literals : Fn := fnR 2 4 s_check_literals
/-- slots: 0 gates, 1 literals, 2 todo, 3 found, 4 here, 5 literal -/
def s_needed : S :=
  (sSeq (sDrop (eCall f_check_literals (aC (eN 0) (aC (eN 1) aN))))
  (sSeq (sParNK 2 3 (nLc (iSeq (eN 1)) (gN 5) tYes (eApp dAbs (aC (eV 5) aN)) [5]))
  (sSeq (sWhile 200 (tU (eV 2))
  (sSeq (sPop 4 2)
  (sIf (tV (e2 dNotInK (eV 4) (eV 3))) (sSeq (sPutD 3 (eN 4) (eC (.bl true)))
  (sIf (tV (e2 dGt (eV 4) (e2 dIx (eV 0) (eC (.int 1))))) (sExt 2 (eL (nLc (iSeq (e2 dIx (e2 dIx (eV 0) (eC (.int 2))) (e2 dSub (e2 dSub (eV 4) (e2 dIx (eV 0) (eC (.int 1)))) (eC (.int 1))))) (gN 5) tYes (eApp dAbs (aC (eV 5) aN)) [5]))) sNext)) sNext)))
  (sRet (eApp dTupOf (aC (eL (nLen nSortD (aC (eV 3) aN))) aN))))))
def f_needed : Fn := fnR 2 6 s_needed
/-- slots: 0 gates, 1 literals, 2 variable -/
def s_bits_below : S :=
  (sRet (eApp dTupOf (aC (eL (nLc (iSeq (eCall f_needed (aC (eN 0) (aC (eN 1) aN)))) (gN 2) (tV (e2 dLe (eV 2) (e2 dIx (eV 0) (eC (.int 1))))) (e2 dSub (eV 2) (eC (.int 1))) [2])) aN)))
def f_bits_below : Fn := fnR 2 3 s_bits_below
/-- slots: 0 gates, 1 found, 2 row, 3 literal -/
def s_levels : S :=
  (sSeq (sDrop (eCall f_check_gates (aC (eN 0) aN)))
  (sSeq (sOwn 1 (n2 nRep (eL (nLst (aC (eC (.int 0)) aN))) (e2 dIx (eV 0) (eC (.int 1)))))
  (sSeq (sFor (iSeq (e2 dIx (eV 0) (eC (.int 2)))) (gN 2)
  (sApp 1 (e2 dAdd (eC (.int 1)) (eApp dMax (aC (e2 dAdd (eL (nLc (iSeq (eN 2)) (gN 3) tYes (e2 dIx (eV 1) (e2 dSub (eApp dAbs (aC (eV 3) aN)) (eC (.int 1)))) [3])) (eL (nLst (aC (eC (.int 0)) aN)))) aN)))))
  (sRet (eApp dTupOf (aC (eV 1) aN))))))
def f_levels : Fn := fnR 1 4 s_levels
/-- slots: 0 gates, 1 found, 2 row, 3 literal -/
def s_uses : S :=
  (sSeq (sOwn 1 (n2 nRep (eL (nLst (aC (eC (.int 0)) aN))) (eCall f_variables_in (aC (eN 0) aN))))
  (sSeq (sFor (iSeq (e2 dIx (eV 0) (eC (.int 2)))) (gN 2)
  (sFor (iSeq (eN 2)) (gN 3)
  (sAugL 1 (e2 dSub (eApp dAbs (aC (eV 3) aN)) (eC (.int 1))) (eC (.int 1)))))
  (sRet (eApp dTupOf (aC (eV 1) aN)))))
def f_uses : Fn := fnR 1 4 s_uses
/-- slots: 0 bits, 1 found, 2 turn, 3 code, 4 truth -/
def s_codes : S :=
  (sSeq (sIf (tOr (tNot (tV (eCall f_is_integer (aC (eN 0) aN)))) (tNot (tV (eChain dLe dLe (eC (.int 0)) (eV 0) (eC (.int 12)))))) sNever sNext)
  (sSeq (sSet 1 (eL (nLst (aC (eTup aN) aN))))
  (sSeq (sFor (iRng1 (eN 0)) (gN 2)
  (sSet 1 (eL (nLc2 (iSeq (eN 1)) (gN 3) tYes (iSeq (eTup (aC (eC (.bl false)) (aC (eC (.bl true)) aN)))) (gN 4) tYes (e2 dAdd (eV 3) (eTup (aC (eN 4) aN))) [3, 4] [4]))))
  (sRet (eN 1)))))
def f_codes : Fn := fnR 1 5 s_codes
/-- slots: 0 gates, 1 literal, 2 code -/
def s_truths_of : S :=
  (sSeq (sDrop (eCall f_check_literals (aC (eN 0) (aC (eTup (aC (eN 1) aN)) aN))))
  (sRet (eApp dTupOf (aC (eL (nLc (iSeq (eCall f_codes (aC (e2 dIx (eV 0) (eC (.int 1))) aN))) (gN 2) tYes (eCall f_is_true (aC (eCall f_values (aC (eN 0) (aC (eN 2) aN))) (aC (eN 1) aN))) [2])) aN))))
def f_truths_of : Fn := fnR 2 3 s_truths_of
/-- slots: 0 script, 1 k -/
def s__law_cell : S :=
  (sSeq (sIf (tV (e2 dLt (eV 1) (eApp dLen (aC (eV 0) aN)))) (sRet (e2 dIx (eV 0) (eV 1))) sNext)
  (sRet (eC (.int 0))))
def f__law_cell : Fn := fnR 2 2 s__law_cell
/-- slots: 0 script, 1 k, 2 sizes, 3 cell, 4 drawn, 5 size, 6 mixed, 7 j -/
def s__law_draw : S :=
  (sSeq (sSet 3 (eCall f__law_cell (aC (eN 0) (aC (eN 1) aN))))
  (sSeq (sIf (tV (e2 dLt (eV 3) (eC (.int 0)))) (sSet 3 (e1 dNeg (eV 3))) sNext)
  (sSeq (sOwn 4 (nLst aN))
  (sSeq (sIf (tV (e2 dGe (eV 3) (e2 dPow (eC (.int 10)) (eC (.int 18))))) (sSeq (sSet 3 (e2 dSub (eV 3) (e2 dPow (eC (.int 10)) (eC (.int 18)))))
  (sSeq (sFor (iSeq (eN 2)) (gN 5)
  (sSeq (sApp 4 (e2 dMod (eV 3) (eV 5)))
  (sSet 3 (e2 dDiv (eV 3) (eV 5)))))
  (sRetO 4))) sNext)
  (sSeq (sSet 6 (e2 dMod (e2 dAdd (e2 dAdd (eV 3) (eC (.int 1))) (e2 dMul (eC (.int 31)) (eV 1))) (eC (.int 2147483647))))
  (sSeq (sFor (iRng1 (eApp dLen (aC (eV 2) aN))) (gN 7)
  (sSeq (sSet 6 (e2 dMod (e2 dAdd (e2 dAdd (e2 dMul (eV 6) (eC (.int 48271))) (eC (.int 11))) (eV 7)) (eC (.int 2147483647))))
  (sSeq (sSet 6 (e2 dMod (e2 dAdd (e2 dMul (eV 6) (eC (.int 69621))) (eC (.int 3))) (eC (.int 2147483647))))
  (sApp 4 (e2 dMod (e2 dDiv (eV 6) (eC (.int 7))) (e2 dIx (eV 2) (eV 7)))))))
  (sRetO 4)))))))
def f__law_draw : Fn := fnR 3 8 s__law_draw
/-- slots: 0 expected, 1 actual, 2 place -/
def s__law_strictly (rc : Fn) : S :=
  (sSeq (sIf (tV (e2 dIsN2 (eV 0) (eC .non))) (sRet (e2 dIsN2 (eV 1) (eC .non))) sNext)
  (sSeq (sIf (tV (e1 (dIsi .bool) (eV 0))) (sRet (eAnd (e1 (dIsi .bool) (eV 1)) (e2 dEq (eV 1) (eV 0)))) sNext)
  (sSeq (sIf (tV (e1 (dIsi .int) (eV 0))) (sRet (eAnd (e1 (dIsi .int) (eV 1)) (eAnd (eNot (e1 (dIsi .bool) (eV 1))) (e2 dEq (eV 1) (eV 0))))) sNext)
  (sSeq (sIf (tV (e1 (dIsi .str) (eV 0))) (sRet (eAnd (e1 (dIsi .str) (eV 1)) (e2 dEq (eV 1) (eV 0)))) sNext)
  (sSeq (sIf (tOr (tV (e2 dNe (e1 (dIsi .tuple) (eV 0)) (e1 (dIsi .tuple) (eV 1)))) (tV (e2 dNe (e1 (dIsi .list) (eV 0)) (e1 (dIsi .list) (eV 1))))) (sRet (eC (.bl false))) sNext)
  (sSeq (sIf (tOr (tV (e1 (dIsi .tuple) (eV 0))) (tV (e1 (dIsi .list) (eV 0)))) (sSeq (sIf (tV (e2 dNe (eApp dLen (aC (eV 1) aN)) (eApp dLen (aC (eV 0) aN)))) (sRet (eC (.bl false))) sNext)
  (sSeq (sFor (iRng1 (eApp dLen (aC (eV 0) aN))) (gN 2)
  (sIf (tNot (tV (eCall rc (aC (e2 dIx (eV 0) (eV 2)) (aC (e2 dIx (eV 1) (eV 2)) aN))))) (sRet (eC (.bl false))) sNext))
  (sRet (eC (.bl true))))) sNext)
  (sRet (e2 dEq (eV 1) (eV 0)))))))))
def f__law_strictly : Nat → Fn
  | 0 => fun _ => none
  | k + 1 => fnR 2 3 (s__law_strictly (f__law_strictly k))
/-- slots: 0 bits, 1 rows, 2 turn, 3 found, 4 row -/
def s__law_codes : S :=
  (sSeq (sSet 1 (eL (nLst (aC (eTup aN) aN))))
  (sSeq (sFor (iRng1 (eN 0)) (gN 2)
  (sSeq (sSet 3 (eL (nLst aN)))
  (sSeq (sFor (iSeq (eN 1)) (gN 4)
  (sSet 3 (e2 dAdd (eV 3) (eL (nLst (aC (e2 dAdd (eV 4) (eTup (aC (eC (.bl false)) aN))) (aC (e2 dAdd (eV 4) (eTup (aC (eC (.bl true)) aN))) aN)))))))
  (sSet 1 (eN 3)))))
  (sRet (eN 1))))
def f__law_codes : Fn := fnR 1 5 s__law_codes
/-- slots: 0 cells, 1 bits, 2 rows, 3 turn, 4 most, 5 own, 6 cell, 7 variable, 8 row, 9 literal, 10 pair -/
def s__law_rows : S :=
  (sSeq (sOwn 2 (nLst aN))
  (sSeq (sFor (iRng1 (eC (.int 8))) (gN 3)
  (sSeq (sParN 4 5 (e2 dAdd (eV 1) (eApp dLen (aC (eV 2) aN))) (nLst aN))
  (sSeq (sFor (iSeq (eSl (eV 0) (oS (e2 dMul (eC (.int 4)) (eV 3))) (oS (e2 dAdd (e2 dMul (eC (.int 4)) (eV 3)) (eC (.int 3)))))) (gN 6)
  (sSeq (sSet 7 (e2 dAdd (eC (.int 1)) (e2 dMod (eV 6) (eV 4))))
  (sIf (tV (e2 dNotIn (eV 7) (eL (nLc (iSeqL (eV 5)) (gN 9) tYes (eApp dAbs (aC (eV 9) aN)) [9])))) (sApp 5 (eIf (tV (e2 dEq (e2 dMod (e2 dDiv (eV 6) (eC (.int 60))) (eC (.int 2))) (eC (.int 0)))) (eN 7) (e1 dNeg (eV 7)))) sNext)))
  (sSeq (sSet 8 (eIf (tV (e2 dGt (e2 dIx (eV 0) (e2 dAdd (e2 dMul (eC (.int 4)) (eV 3)) (eC (.int 3)))) (eC (.int 0)))) (eApp dTupOf (aC (eL (nLc (iSeq (eL (nLen nSortP (aC (eL (nLc (iSeqL (eV 5)) (gN 9) tYes (eTup (aC (eApp dAbs (aC (eV 9) aN)) (aC (eN 9) aN))) [9])) aN)))) (gN 10) tYes (e2 dIx (eV 10) (eC (.int 1))) [10])) aN)) (eTup aN)))
  (sIf (tAnd (tV (e2 dNe (eApp dLen (aC (eV 8) aN)) (eC (.int 1)))) (tV (e2 dNotIn (eV 8) (eV 2)))) (sApp 2 (eN 8)) sNext)))))
  (sRetO 2)))
def f__law_rows : Fn := fnR 2 11 s__law_rows
/-- slots: 0 rows, 1 code, 2 found, 3 row, 4 told, 5 literal -/
def s__law_values : S :=
  (sSeq (sOwn 2 (nLen nLstOf (aC (eV 1) aN)))
  (sSeq (sFor (iSeq (eN 0)) (gN 3)
  (sSeq (sSet 4 (eL (nLc (iSeq (eN 3)) (gN 5) tYes (eIf (tV (e2 dIsN2 (e2 dIx (eV 2) (e2 dSub (eApp dAbs (aC (eV 5) aN)) (eC (.int 1)))) (eC .non))) (eC .non) (e2 dEq (e2 dIx (eV 2) (e2 dSub (eApp dAbs (aC (eV 5) aN)) (eC (.int 1)))) (e2 dGt (eV 5) (eC (.int 0))))) [5])))
  (sApp 2 (eIf (tV (e2 dIn (eC (.bl false)) (eV 4))) (eC (.bl false)) (eIf (tV (e2 dIn (eC .non) (eV 4))) (eC .non) (eC (.bl true)))))))
  (sRetO 2)))
def f__law_values : Fn := fnR 2 6 s__law_values
/-- slots: 0 rows, 1 bits, 2 literals, 3 wanted, 4 variable, 5 literal -/
def s__law_needed : S :=
  (sSeq (sSet 3 (eL (nLc (iSeq (eN 2)) (gN 5) tYes (eApp dAbs (aC (eV 5) aN)) [5])))
  (sSeq (sFor (iDown (e2 dAdd (eV 1) (eApp dLen (aC (eV 0) aN))) (eN 1)) (gN 4)
  (sIf (tV (e2 dIn (eV 4) (eV 3))) (sSet 3 (e2 dAdd (eV 3) (eL (nLc (iSeq (e2 dIx (eV 0) (e2 dSub (e2 dSub (eV 4) (eV 1)) (eC (.int 1))))) (gN 5) tYes (eApp dAbs (aC (eV 5) aN)) [5])))) sNext))
  (sRet (eApp dTupOf (aC (eL (nLc (iRng2 (eC (.int 1)) (e2 dAdd (e2 dAdd (eV 1) (eApp dLen (aC (eV 0) aN))) (eC (.int 1)))) (gN 4) (tV (e2 dIn (eV 4) (eV 3))) (eN 4) [4])) aN)))))
def f__law_needed : Fn := fnR 3 6 s__law_needed
/-- slots: 0 rows, 1 bits, 2 digit, 3 place, 4 most, 5 row -/
def s__law_bent : S :=
  (sSeq (sSet 4 (e2 dAdd (eV 1) (eApp dLen (aC (eV 0) aN))))
  (sSeq (sSet 5 (e2 dIx (eL (nLst (aC (eTup (aC (eC (.int 1)) aN)) (aC (eTup (aC (eC (.int 2)) (aC (eC (.int 1)) aN))) (aC (eTup (aC (eC (.int 1)) (aC (eC (.int 1)) aN))) (aC (eTup (aC (eC (.int 1)) (aC (e1 dNeg (eC (.int 1))) aN))) (aC (eTup (aC (eC (.int 1)) (aC (e2 dAdd (eV 4) (eC (.int 1))) aN))) (aC (eTup (aC (eC (.int 0)) (aC (eC (.int 1)) aN))) (aC (e2 dIx (eV 0) (eV 3)) (aC (eTup (aC (eC (.int 1)) (aC (eC (.bl true)) aN))) (aC (eL (nLst (aC (eC (.int 1)) (aC (eC (.int 2)) aN)))) (aC (eTup (aC (eC (.int 1)) (aC (e2 dSub (e1 dNeg (eV 4)) (eC (.int 1))) aN))) (aC (eC .non) (aC (eTup (aC (eC (.int 1)) (aC (eC (.str "2")) aN))) (aC (eTup (aC (e1 dNeg (eC (.int 1))) aN)) (aC (eTup (aC (eC (.int 2)) (aC (eC (.int 2)) (aC (eC (.int 3)) aN)))) aN)))))))))))))))) (eV 2)))
  (sRet (eTup (aC (eC (.str "gates")) (aC (eN 1) (aC (e2 dAdd (eApp dTupOf (aC (eV 0) aN)) (eTup (aC (eN 5) aN))) aN)))))))
def f__law_bent : Fn := fnR 4 6 s__law_bent
/-- slots: 0 script, 1 digits, 2 bits, 3 rows, 4 gates, 5 most, 6 wrong, 7 literals, 8 need, 9 above, 10 row, 11 named, 12 half, 13 table, 14 literal, 15 variable, 16 code, 17 digit -/
def s_law : S :=
  (sSeq (sSet 1 (e2 dAdd (eCall f__law_draw (aC (eN 0) (aC (eC (.int 0)) (aC (eL (nLst (aC (eC (.int 3)) (aC (eC (.int 14)) (aC (eC (.int 60)) (aC (eC (.int 60)) (aC (eC (.int 60)) (aC (eC (.int 7)) aN)))))))) aN)))) (eCall f__law_draw (aC (eN 0) (aC (eC (.int 1)) (aC (eL (n2 nRep (eL (nLst (aC (eC (.int 3)) aN))) (eC (.int 4)))) aN))))))
  (sSeq (sSet 2 (e2 dAdd (eC (.int 2)) (e2 dIx (eV 1) (eC (.int 0)))))
  (sSeq (sOwn 3 (nCall f__law_rows (aC (eCall f__law_draw (aC (eN 0) (aC (eC (.int 2)) (aC (eL (n2 nRep (eL (nLst (aC (eC (.int 120)) (aC (eC (.int 120)) (aC (eC (.int 120)) (aC (eC (.int 9)) aN)))))) (eC (.int 8)))) aN)))) (aC (eN 2) aN))))
  (sSeq (sIf (tV (e2 dNotIn (eTup (aC (eC (.int 1)) (aC (eC (.int 2)) aN))) (eV 3))) (sApp 3 (eTup (aC (eC (.int 1)) (aC (eC (.int 2)) aN)))) sNext)
  (sSeq (sTgt (gT [4, 5]) (eTup (aC (eTup (aC (eC (.str "gates")) (aC (eN 2) (aC (eApp dTupOf (aC (eV 3) aN)) aN)))) (aC (e2 dAdd (eV 2) (eApp dLen (aC (eV 3) aN))) aN))))
  (sVia (freeze 3) (sSeq (sIf (tOr (tV (e2 dNotB (eCall f_is_gates (aC (eN 4) aN)) (eC (.bl true)))) (tV (e2 dNotB (eCall f_is_gates (aC (eCall f__law_bent (aC (eN 3) (aC (eN 2) (aC (e2 dIx (eV 1) (eC (.int 1))) (aC (e2 dMod (e2 dIx (eV 1) (eC (.int 2))) (eApp dLen (aC (eV 3) aN))) aN))))) aN)) (eC (.bl false))))) (sRet (eC (.bl false))) sNext)
  (sSeq (sSet 6 (eL (nLst (aC (eTup (aC (eC (.str "gates")) (aC (e2 dSub (eV 2) (eC (.int 1))) (aC (eApp dTupOf (aC (eV 3) aN)) aN)))) (aC (eTup (aC (eC (.str "gates")) (aC (eN 2) (aC (eN 3) aN)))) (aC (eTup (aC (eC (.str "gate")) (aC (eN 2) (aC (eApp dTupOf (aC (eV 3) aN)) aN)))) (aC (eTup (aC (eC (.str "gates")) (aC (eN 2) aN))) (aC (eC .non) (aC (eTup (aC (eC (.str "gates")) (aC (eC (.bl true)) (aC (eTup aN) aN)))) (aC (eTup (aC (eC (.str "gates")) (aC (eN 2) (aC (eApp dTupOf (aC (eV 3) aN)) (aC (eC (.int 1)) aN))))) aN))))))))))
  (sSeq (sIf (tAnd (tV (e2 dGt (e2 dIx (eV 1) (eC (.int 5))) (eC (.int 0)))) (tV (e2 dNotB (eCall f_is_gates (aC (e2 dIx (eV 6) (e2 dIx (eV 1) (eC (.int 5)))) aN)) (eC (.bl false))))) (sRet (eC (.bl false))) sNext)
  (sSeq (sIf (tOr (tNot (tV (eCall (f__law_strictly 6) (aC (eN 5) (aC (eCall f_variables_in (aC (eN 4) aN)) aN))))) (tNot (tV (eCall (f__law_strictly 6) (aC (eCall f__law_codes (aC (eN 2) aN)) (aC (eCall f_codes (aC (eN 2) aN)) aN)))))) (sRet (eC (.bl false))) sNext)
  (sSeq (sSet 7 (eApp dTupOf (aC (eL (nLst (aC (e2 dAdd (eC (.int 1)) (e2 dMod (e2 dIx (eV 1) (eC (.int 3))) (eV 5))) (aC (e1 dNeg (e2 dAdd (eC (.int 1)) (e2 dMod (e2 dIx (eV 1) (eC (.int 4))) (eV 5)))) aN)))) aN)))
  (sSeq (sSet 8 (eCall f__law_needed (aC (eN 3) (aC (eN 2) (aC (eN 7) aN)))))
  (sSeq (sIf (tOr (tNot (tV (eCall (f__law_strictly 6) (aC (eN 8) (aC (eCall f_needed (aC (eN 4) (aC (eN 7) aN))) aN))))) (tNot (tV (eCall (f__law_strictly 6) (aC (eApp dTupOf (aC (eL (nLc (iSeq (eN 8)) (gN 15) (tV (e2 dLe (eV 15) (eV 2))) (e2 dSub (eV 15) (eC (.int 1))) [15])) aN)) (aC (eCall f_bits_below (aC (eN 4) (aC (eN 7) aN))) aN)))))) (sRet (eC (.bl false))) sNext)
  (sSeq (sOwn 9 (n2 nRep (eL (nLst (aC (eC (.int 0)) aN))) (eV 2)))
  (sSeq (sFor (iSeq (eN 3)) (gN 10)
  (sApp 9 (e2 dAdd (eC (.int 1)) (eApp dMax (aC (e2 dAdd (eL (nLst (aC (eC (.int 0)) aN))) (eL (nLc (iSeq (eN 10)) (gN 14) tYes (e2 dIx (eV 9) (e2 dSub (eApp dAbs (aC (eV 14) aN)) (eC (.int 1)))) [14]))) aN)))))
  (sSeq (sSet 11 (eL (nLc (iRng2 (eC (.int 1)) (e2 dAdd (eV 5) (eC (.int 1)))) (gN 15) tYes (eApp dLen (aC (eL (nLc (iSeq (eN 3)) (gN 10) (tOr (tV (e2 dIn (eV 15) (eV 10))) (tV (e2 dIn (e1 dNeg (eV 15)) (eV 10)))) (eN 10) [10])) aN)) [15])))
  (sSeq (sIf (tOr (tNot (tV (eCall (f__law_strictly 6) (aC (eApp dTupOf (aC (eV 9) aN)) (aC (eCall f_levels (aC (eN 4) aN)) aN))))) (tNot (tV (eCall (f__law_strictly 6) (aC (eApp dTupOf (aC (eV 11) aN)) (aC (eCall f_uses (aC (eN 4) aN)) aN)))))) (sRet (eC (.bl false))) sNext)
  (sSeq (sSet 12 (eApp dTupOf (aC (eL (nLc (iSeq (eSl (eV 1) (oS (eC (.int 6))) (oS (e2 dAdd (eC (.int 6)) (eV 2))))) (gN 17) tYes (e2 dIx (eL (nLst (aC (eC .non) (aC (eC (.bl false)) (aC (eC (.bl true)) aN))))) (eV 17)) [17])) aN)))
  (sSeq (sIf (tNot (tV (eCall (f__law_strictly 6) (aC (eApp dTupOf (aC (eCall f__law_values (aC (eN 3) (aC (eN 12) aN))) aN)) (aC (eCall f_known_values (aC (eN 4) (aC (eN 12) aN))) aN))))) (sRet (eC (.bl false))) sNext)
  (sSeq (sSet 13 (eL (nLc (iSeq (eCall f__law_codes (aC (eN 2) aN))) (gN 16) tYes (eCall f__law_values (aC (eN 3) (aC (eN 16) aN))) [16])))
  (sSeq (sFor (iSeq (eN 7)) (gN 14)
  (sIf (tNot (tV (eCall (f__law_strictly 6) (aC (eApp dTupOf (aC (eL (nLc (iSeq (eN 13)) (gN 10) tYes (e2 dEq (e2 dIx (eV 10) (e2 dSub (eApp dAbs (aC (eV 14) aN)) (eC (.int 1)))) (e2 dGt (eV 14) (eC (.int 0)))) [10])) aN)) (aC (eCall f_truths_of (aC (eN 4) (aC (eN 14) aN))) aN))))) (sRet (eC (.bl false))) sNext))
  (sRet (e2 dEq (eApp dLen (aC (eL (nLc (iZip (eCall f__law_codes (aC (eN 2) aN)) (eN 13)) (gT [16, 10]) (tNot (tV (eCall (f__law_strictly 6) (aC (eApp dTupOf (aC (eV 10) aN)) (aC (eCall f_values (aC (eN 4) (aC (eN 16) aN))) aN))))) (eC (.int 1)) [16, 10])) aN)) (eC (.int 0)))))))))))))))))))))))))
def f_law : Fn := fnR 1 18 s_law
end Gk00
end
/-! T1 -/
section
set_option linter.all false
namespace Gk00
open PySem DL DM

theorem is_integer_i (i : Int) : f_is_integer [.int i] = some (.d (.bl true)) := rfl
theorem is_integer_b (i : Bool) : f_is_integer [.bl i] = some (.d (.bl false)) := rfl
theorem is_integer_s (i : Str) : f_is_integer [.str i] = some (.d (.bl false)) := rfl
theorem is_integer_n : f_is_integer [.non] = some (.d (.bl false)) := rfl
theorem is_integer_t (ds) : f_is_integer [.tup ds] = some (.d (.bl false)) := rfl
def isI : D → Bool
  | .int _ => true
  | _ => false
def isS : D → Bool
  | .scr _ => true
  | _ => false
theorem is_integer (d : D) (h : isS d = false) : f_is_integer [d] = some (.d (.bl (isI d))) := by
  cases d <;> first | rfl | cases h
/-- a literal of so many -/
def inB (m : Int) : D → Bool
  | .int i => decide (1 ≤ (i.natAbs : Int)) && decide ((i.natAbs : Int) ≤ m)
  | _ => false
def absD : D → Int
  | .int i => i.natAbs
  | _ => 0
def ascD (ds : List D) : Bool := (List.range (ds.length - 1)).all fun k => decide (absD ((ds[k]?).getD .non) < absD ((ds[k + 1]?).getD .non))
theorem is_clause_t (ds : List D) (m : Int) (hs : ∀ d ∈ ds, isS d = false) (hl : ds.length ≤ 1000) :
    f_is_clause [.tup ds, .int m] = some (.d (.bl (ds.all (inB m) && ascD ds))) := by
  apply of_fn rfl
  unfold s_is_clause
  simp -implicitDefEqProofs only [ob_some, ob_bind, ob_map, eC_ap, eN_ap, eV_ap, slotN_dat, slotV_dat, slotV_own, slotV_odc, e1_ap, e2_ap, n2_ap, nLen_ap, aN_ap, aC_ap, eApp_ap, eTup_ap, nLst_ap, mkTup_0, mkTup_1, mkTup_2, mkTup_3, mkTup_4, mkLst_0, eL_ap, tV_ap, asBl_bl, tU_ap, ifB_t, ifB_f, tAnd_ap, tOr_ap, tNot_ap, tYes_ap, eIf_ap, ifD_bl, eAnd_ap, eOr_ap, notD_bl, eNot_ap, eChain_ap, dAdd_i, dSub_i, dNeg_i, dLt_i, dLe_i, dGt_i, dGe_i, dIsN2_n, dNotB_b, dEq_i, dNe_i, dEq_b, dNe_b, dEq_s, dNe_s, dLen_l, dLen_t, dLen_s, dTupOf_l, dTupOf_t, nLstOf_l, nLstOf_t, dAbs_i, itemsD_l, itemsD_t, iSeq_ap, iSeqL_ap', seqL_l, iRng1_ap, iRng2_ap, iDown_ap, iEnum_ap, iZip_ap, zip2_l, isi_ap, isTy_int_non, isTy_int_bl, isTy_int_int, isTy_int_str, isTy_int_lst, isTy_int_tup, isTy_int_dct, isTy_bool_non, isTy_bool_bl, isTy_bool_int, isTy_bool_str, isTy_bool_lst, isTy_bool_tup, isTy_bool_dct, isTy_str_non, isTy_str_bl, isTy_str_int, isTy_str_str, isTy_str_lst, isTy_str_tup, isTy_str_dct, isTy_tuple_non, isTy_tuple_bl, isTy_tuple_int, isTy_tuple_str, isTy_tuple_lst, isTy_tuple_tup, isTy_tuple_dct, isTy_list_non, isTy_list_bl, isTy_list_int, isTy_list_str, isTy_list_lst, isTy_list_tup, isTy_list_dct, isTy_dict_non, isTy_dict_bl, isTy_dict_int, isTy_dict_str, isTy_dict_lst, isTy_dict_tup, isTy_dict_dct, dIx_l, dIx_t, nLc_ap, gN_ap, goOn_nx, goOn_rt, goOn_rtO, sSeq_ap, sNext_ap, sSet_ap, sOwn_ap, sTgt_ap, sRet_ap, retO_own, sRetO_ap, sIf_ap, sDrop_ap, sFor_ap, sApp_ap, sParN_ap, sParNK_ap, sVia_ap, eCall_ap, eCallV_ap, val_d, val_o, fin_rt, fin_rtO, fin_nx, DL.start, List.map_cons, List.map_nil, List.length_cons, List.length_nil, List.replicate, List.cons_append, List.nil_append, List.getElem?_cons_zero, List.getElem?_cons_succ, List.set_cons_zero, List.set_cons_succ, wipeG, Nat.reduceSub, Nat.reduceAdd, Nat.reduceLT, Nat.reduceLeDiff, if_true, if_false, Bool.not_true, Bool.not_false, Option.bind_some, Option.map_some]
  refine ob_lcmI (fun d => .bl (inB m d)) (fun x hx => ?_) (by simp only [lim]; omega) ?_
  · simp -implicitDefEqProofs only [ob_some, ob_bind, ob_map, eC_ap, eN_ap, eV_ap, slotN_dat, slotV_dat, slotV_own, slotV_odc, e1_ap, e2_ap, n2_ap, nLen_ap, aN_ap, aC_ap, eApp_ap, eTup_ap, nLst_ap, mkTup_0, mkTup_1, mkTup_2, mkTup_3, mkTup_4, mkLst_0, eL_ap, tV_ap, asBl_bl, tU_ap, ifB_t, ifB_f, tAnd_ap, tOr_ap, tNot_ap, tYes_ap, eIf_ap, ifD_bl, eAnd_ap, eOr_ap, notD_bl, eNot_ap, eChain_ap, dAdd_i, dSub_i, dNeg_i, dLt_i, dLe_i, dGt_i, dGe_i, dIsN2_n, dNotB_b, dEq_i, dNe_i, dEq_b, dNe_b, dEq_s, dNe_s, dLen_l, dLen_t, dLen_s, dTupOf_l, dTupOf_t, nLstOf_l, nLstOf_t, dAbs_i, itemsD_l, itemsD_t, iSeq_ap, iSeqL_ap', seqL_l, iRng1_ap, iRng2_ap, iDown_ap, iEnum_ap, iZip_ap, zip2_l, isi_ap, isTy_int_non, isTy_int_bl, isTy_int_int, isTy_int_str, isTy_int_lst, isTy_int_tup, isTy_int_dct, isTy_bool_non, isTy_bool_bl, isTy_bool_int, isTy_bool_str, isTy_bool_lst, isTy_bool_tup, isTy_bool_dct, isTy_str_non, isTy_str_bl, isTy_str_int, isTy_str_str, isTy_str_lst, isTy_str_tup, isTy_str_dct, isTy_tuple_non, isTy_tuple_bl, isTy_tuple_int, isTy_tuple_str, isTy_tuple_lst, isTy_tuple_tup, isTy_tuple_dct, isTy_list_non, isTy_list_bl, isTy_list_int, isTy_list_str, isTy_list_lst, isTy_list_tup, isTy_list_dct, isTy_dict_non, isTy_dict_bl, isTy_dict_int, isTy_dict_str, isTy_dict_lst, isTy_dict_tup, isTy_dict_dct, dIx_l, dIx_t, nLc_ap, gN_ap, goOn_nx, goOn_rt, goOn_rtO, sSeq_ap, sNext_ap, sSet_ap, sOwn_ap, sTgt_ap, sRet_ap, retO_own, sRetO_ap, sIf_ap, sDrop_ap, sFor_ap, sApp_ap, sParN_ap, sParNK_ap, sVia_ap, eCall_ap, eCallV_ap, val_d, val_o, fin_rt, fin_rtO, fin_nx, DL.start, List.map_cons, List.map_nil, List.length_cons, List.length_nil, List.replicate, List.cons_append, List.nil_append, List.getElem?_cons_zero, List.getElem?_cons_succ, List.set_cons_zero, List.set_cons_succ, wipeG, Nat.reduceSub, Nat.reduceAdd, Nat.reduceLT, Nat.reduceLeDiff, if_true, if_false, Bool.not_true, Bool.not_false, Option.bind_some, Option.map_some, is_integer x (hs x hx)]
    cases x <;> simp -implicitDefEqProofs only [ob_some, ob_bind, ob_map, eC_ap, eN_ap, eV_ap, slotN_dat, slotV_dat, slotV_own, slotV_odc, e1_ap, e2_ap, n2_ap, nLen_ap, aN_ap, aC_ap, eApp_ap, eTup_ap, nLst_ap, mkTup_0, mkTup_1, mkTup_2, mkTup_3, mkTup_4, mkLst_0, eL_ap, tV_ap, asBl_bl, tU_ap, ifB_t, ifB_f, tAnd_ap, tOr_ap, tNot_ap, tYes_ap, eIf_ap, ifD_bl, eAnd_ap, eOr_ap, notD_bl, eNot_ap, eChain_ap, dAdd_i, dSub_i, dNeg_i, dLt_i, dLe_i, dGt_i, dGe_i, dIsN2_n, dNotB_b, dEq_i, dNe_i, dEq_b, dNe_b, dEq_s, dNe_s, dLen_l, dLen_t, dLen_s, dTupOf_l, dTupOf_t, nLstOf_l, nLstOf_t, dAbs_i, itemsD_l, itemsD_t, iSeq_ap, iSeqL_ap', seqL_l, iRng1_ap, iRng2_ap, iDown_ap, iEnum_ap, iZip_ap, zip2_l, isi_ap, isTy_int_non, isTy_int_bl, isTy_int_int, isTy_int_str, isTy_int_lst, isTy_int_tup, isTy_int_dct, isTy_bool_non, isTy_bool_bl, isTy_bool_int, isTy_bool_str, isTy_bool_lst, isTy_bool_tup, isTy_bool_dct, isTy_str_non, isTy_str_bl, isTy_str_int, isTy_str_str, isTy_str_lst, isTy_str_tup, isTy_str_dct, isTy_tuple_non, isTy_tuple_bl, isTy_tuple_int, isTy_tuple_str, isTy_tuple_lst, isTy_tuple_tup, isTy_tuple_dct, isTy_list_non, isTy_list_bl, isTy_list_int, isTy_list_str, isTy_list_lst, isTy_list_tup, isTy_list_dct, isTy_dict_non, isTy_dict_bl, isTy_dict_int, isTy_dict_str, isTy_dict_lst, isTy_dict_tup, isTy_dict_dct, dIx_l, dIx_t, nLc_ap, gN_ap, goOn_nx, goOn_rt, goOn_rtO, sSeq_ap, sNext_ap, sSet_ap, sOwn_ap, sTgt_ap, sRet_ap, retO_own, sRetO_ap, sIf_ap, sDrop_ap, sFor_ap, sApp_ap, sParN_ap, sParNK_ap, sVia_ap, eCall_ap, eCallV_ap, val_d, val_o, fin_rt, fin_rtO, fin_nx, DL.start, List.map_cons, List.map_nil, List.length_cons, List.length_nil, List.replicate, List.cons_append, List.nil_append, List.getElem?_cons_zero, List.getElem?_cons_succ, List.set_cons_zero, List.set_cons_succ, wipeG, Nat.reduceSub, Nat.reduceAdd, Nat.reduceLT, Nat.reduceLeDiff, if_true, if_false, Bool.not_true, Bool.not_false, Option.bind_some, Option.map_some, isI, inB, true_and] <;> try trivial
    rename_i i
    by_cases h : 1 ≤ (i.natAbs : Int)
    · simp -implicitDefEqProofs only [ob_some, ob_bind, ob_map, eC_ap, eN_ap, eV_ap, slotN_dat, slotV_dat, slotV_own, slotV_odc, e1_ap, e2_ap, n2_ap, nLen_ap, aN_ap, aC_ap, eApp_ap, eTup_ap, nLst_ap, mkTup_0, mkTup_1, mkTup_2, mkTup_3, mkTup_4, mkLst_0, eL_ap, tV_ap, asBl_bl, tU_ap, ifB_t, ifB_f, tAnd_ap, tOr_ap, tNot_ap, tYes_ap, eIf_ap, ifD_bl, eAnd_ap, eOr_ap, notD_bl, eNot_ap, eChain_ap, dAdd_i, dSub_i, dNeg_i, dLt_i, dLe_i, dGt_i, dGe_i, dIsN2_n, dNotB_b, dEq_i, dNe_i, dEq_b, dNe_b, dEq_s, dNe_s, dLen_l, dLen_t, dLen_s, dTupOf_l, dTupOf_t, nLstOf_l, nLstOf_t, dAbs_i, itemsD_l, itemsD_t, iSeq_ap, iSeqL_ap', seqL_l, iRng1_ap, iRng2_ap, iDown_ap, iEnum_ap, iZip_ap, zip2_l, isi_ap, isTy_int_non, isTy_int_bl, isTy_int_int, isTy_int_str, isTy_int_lst, isTy_int_tup, isTy_int_dct, isTy_bool_non, isTy_bool_bl, isTy_bool_int, isTy_bool_str, isTy_bool_lst, isTy_bool_tup, isTy_bool_dct, isTy_str_non, isTy_str_bl, isTy_str_int, isTy_str_str, isTy_str_lst, isTy_str_tup, isTy_str_dct, isTy_tuple_non, isTy_tuple_bl, isTy_tuple_int, isTy_tuple_str, isTy_tuple_lst, isTy_tuple_tup, isTy_tuple_dct, isTy_list_non, isTy_list_bl, isTy_list_int, isTy_list_str, isTy_list_lst, isTy_list_tup, isTy_list_dct, isTy_dict_non, isTy_dict_bl, isTy_dict_int, isTy_dict_str, isTy_dict_lst, isTy_dict_tup, isTy_dict_dct, dIx_l, dIx_t, nLc_ap, gN_ap, goOn_nx, goOn_rt, goOn_rtO, sSeq_ap, sNext_ap, sSet_ap, sOwn_ap, sTgt_ap, sRet_ap, retO_own, sRetO_ap, sIf_ap, sDrop_ap, sFor_ap, sApp_ap, sParN_ap, sParNK_ap, sVia_ap, eCall_ap, eCallV_ap, val_d, val_o, fin_rt, fin_rtO, fin_nx, DL.start, List.map_cons, List.map_nil, List.length_cons, List.length_nil, List.replicate, List.cons_append, List.nil_append, List.getElem?_cons_zero, List.getElem?_cons_succ, List.set_cons_zero, List.set_cons_succ, wipeG, Nat.reduceSub, Nat.reduceAdd, Nat.reduceLT, Nat.reduceLeDiff, if_true, if_false, Bool.not_true, Bool.not_false, Option.bind_some, Option.map_some, h, decide_true, Bool.true_and]
    · simp -implicitDefEqProofs only [ob_some, ob_bind, ob_map, eC_ap, eN_ap, eV_ap, slotN_dat, slotV_dat, slotV_own, slotV_odc, e1_ap, e2_ap, n2_ap, nLen_ap, aN_ap, aC_ap, eApp_ap, eTup_ap, nLst_ap, mkTup_0, mkTup_1, mkTup_2, mkTup_3, mkTup_4, mkLst_0, eL_ap, tV_ap, asBl_bl, tU_ap, ifB_t, ifB_f, tAnd_ap, tOr_ap, tNot_ap, tYes_ap, eIf_ap, ifD_bl, eAnd_ap, eOr_ap, notD_bl, eNot_ap, eChain_ap, dAdd_i, dSub_i, dNeg_i, dLt_i, dLe_i, dGt_i, dGe_i, dIsN2_n, dNotB_b, dEq_i, dNe_i, dEq_b, dNe_b, dEq_s, dNe_s, dLen_l, dLen_t, dLen_s, dTupOf_l, dTupOf_t, nLstOf_l, nLstOf_t, dAbs_i, itemsD_l, itemsD_t, iSeq_ap, iSeqL_ap', seqL_l, iRng1_ap, iRng2_ap, iDown_ap, iEnum_ap, iZip_ap, zip2_l, isi_ap, isTy_int_non, isTy_int_bl, isTy_int_int, isTy_int_str, isTy_int_lst, isTy_int_tup, isTy_int_dct, isTy_bool_non, isTy_bool_bl, isTy_bool_int, isTy_bool_str, isTy_bool_lst, isTy_bool_tup, isTy_bool_dct, isTy_str_non, isTy_str_bl, isTy_str_int, isTy_str_str, isTy_str_lst, isTy_str_tup, isTy_str_dct, isTy_tuple_non, isTy_tuple_bl, isTy_tuple_int, isTy_tuple_str, isTy_tuple_lst, isTy_tuple_tup, isTy_tuple_dct, isTy_list_non, isTy_list_bl, isTy_list_int, isTy_list_str, isTy_list_lst, isTy_list_tup, isTy_list_dct, isTy_dict_non, isTy_dict_bl, isTy_dict_int, isTy_dict_str, isTy_dict_lst, isTy_dict_tup, isTy_dict_dct, dIx_l, dIx_t, nLc_ap, gN_ap, goOn_nx, goOn_rt, goOn_rtO, sSeq_ap, sNext_ap, sSet_ap, sOwn_ap, sTgt_ap, sRet_ap, retO_own, sRetO_ap, sIf_ap, sDrop_ap, sFor_ap, sApp_ap, sParN_ap, sParNK_ap, sVia_ap, eCall_ap, eCallV_ap, val_d, val_o, fin_rt, fin_rtO, fin_nx, DL.start, List.map_cons, List.map_nil, List.length_cons, List.length_nil, List.replicate, List.cons_append, List.nil_append, List.getElem?_cons_zero, List.getElem?_cons_succ, List.set_cons_zero, List.set_cons_succ, wipeG, Nat.reduceSub, Nat.reduceAdd, Nat.reduceLT, Nat.reduceLeDiff, if_true, if_false, Bool.not_true, Bool.not_false, Option.bind_some, Option.map_some, h, decide_false, Bool.false_and]
  · simp -implicitDefEqProofs only [ob_some, ob_bind, ob_map, eC_ap, eN_ap, eV_ap, slotN_dat, slotV_dat, slotV_own, slotV_odc, e1_ap, e2_ap, n2_ap, nLen_ap, aN_ap, aC_ap, eApp_ap, eTup_ap, nLst_ap, mkTup_0, mkTup_1, mkTup_2, mkTup_3, mkTup_4, mkLst_0, eL_ap, tV_ap, asBl_bl, tU_ap, ifB_t, ifB_f, tAnd_ap, tOr_ap, tNot_ap, tYes_ap, eIf_ap, ifD_bl, eAnd_ap, eOr_ap, notD_bl, eNot_ap, eChain_ap, dAdd_i, dSub_i, dNeg_i, dLt_i, dLe_i, dGt_i, dGe_i, dIsN2_n, dNotB_b, dEq_i, dNe_i, dEq_b, dNe_b, dEq_s, dNe_s, dLen_l, dLen_t, dLen_s, dTupOf_l, dTupOf_t, nLstOf_l, nLstOf_t, dAbs_i, itemsD_l, itemsD_t, iSeq_ap, iSeqL_ap', seqL_l, iRng1_ap, iRng2_ap, iDown_ap, iEnum_ap, iZip_ap, zip2_l, isi_ap, isTy_int_non, isTy_int_bl, isTy_int_int, isTy_int_str, isTy_int_lst, isTy_int_tup, isTy_int_dct, isTy_bool_non, isTy_bool_bl, isTy_bool_int, isTy_bool_str, isTy_bool_lst, isTy_bool_tup, isTy_bool_dct, isTy_str_non, isTy_str_bl, isTy_str_int, isTy_str_str, isTy_str_lst, isTy_str_tup, isTy_str_dct, isTy_tuple_non, isTy_tuple_bl, isTy_tuple_int, isTy_tuple_str, isTy_tuple_lst, isTy_tuple_tup, isTy_tuple_dct, isTy_list_non, isTy_list_bl, isTy_list_int, isTy_list_str, isTy_list_lst, isTy_list_tup, isTy_list_dct, isTy_dict_non, isTy_dict_bl, isTy_dict_int, isTy_dict_str, isTy_dict_lst, isTy_dict_tup, isTy_dict_dct, dIx_l, dIx_t, nLc_ap, gN_ap, goOn_nx, goOn_rt, goOn_rtO, sSeq_ap, sNext_ap, sSet_ap, sOwn_ap, sTgt_ap, sRet_ap, retO_own, sRetO_ap, sIf_ap, sDrop_ap, sFor_ap, sApp_ap, sParN_ap, sParNK_ap, sVia_ap, eCall_ap, eCallV_ap, val_d, val_o, fin_rt, fin_rtO, fin_nx, DL.start, List.map_cons, List.map_nil, List.length_cons, List.length_nil, List.replicate, List.cons_append, List.nil_append, List.getElem?_cons_zero, List.getElem?_cons_succ, List.set_cons_zero, List.set_cons_succ, wipeG, Nat.reduceSub, Nat.reduceAdd, Nat.reduceLT, Nat.reduceLeDiff, if_true, if_false, Bool.not_true, Bool.not_false, Option.bind_some, Option.map_some, dAll_m]
    cases hb : ds.all (inB m) with
    | false => simp -implicitDefEqProofs only [ob_some, ob_bind, ob_map, eC_ap, eN_ap, eV_ap, slotN_dat, slotV_dat, slotV_own, slotV_odc, e1_ap, e2_ap, n2_ap, nLen_ap, aN_ap, aC_ap, eApp_ap, eTup_ap, nLst_ap, mkTup_0, mkTup_1, mkTup_2, mkTup_3, mkTup_4, mkLst_0, eL_ap, tV_ap, asBl_bl, tU_ap, ifB_t, ifB_f, tAnd_ap, tOr_ap, tNot_ap, tYes_ap, eIf_ap, ifD_bl, eAnd_ap, eOr_ap, notD_bl, eNot_ap, eChain_ap, dAdd_i, dSub_i, dNeg_i, dLt_i, dLe_i, dGt_i, dGe_i, dIsN2_n, dNotB_b, dEq_i, dNe_i, dEq_b, dNe_b, dEq_s, dNe_s, dLen_l, dLen_t, dLen_s, dTupOf_l, dTupOf_t, nLstOf_l, nLstOf_t, dAbs_i, itemsD_l, itemsD_t, iSeq_ap, iSeqL_ap', seqL_l, iRng1_ap, iRng2_ap, iDown_ap, iEnum_ap, iZip_ap, zip2_l, isi_ap, isTy_int_non, isTy_int_bl, isTy_int_int, isTy_int_str, isTy_int_lst, isTy_int_tup, isTy_int_dct, isTy_bool_non, isTy_bool_bl, isTy_bool_int, isTy_bool_str, isTy_bool_lst, isTy_bool_tup, isTy_bool_dct, isTy_str_non, isTy_str_bl, isTy_str_int, isTy_str_str, isTy_str_lst, isTy_str_tup, isTy_str_dct, isTy_tuple_non, isTy_tuple_bl, isTy_tuple_int, isTy_tuple_str, isTy_tuple_lst, isTy_tuple_tup, isTy_tuple_dct, isTy_list_non, isTy_list_bl, isTy_list_int, isTy_list_str, isTy_list_lst, isTy_list_tup, isTy_list_dct, isTy_dict_non, isTy_dict_bl, isTy_dict_int, isTy_dict_str, isTy_dict_lst, isTy_dict_tup, isTy_dict_dct, dIx_l, dIx_t, nLc_ap, gN_ap, goOn_nx, goOn_rt, goOn_rtO, sSeq_ap, sNext_ap, sSet_ap, sOwn_ap, sTgt_ap, sRet_ap, retO_own, sRetO_ap, sIf_ap, sDrop_ap, sFor_ap, sApp_ap, sParN_ap, sParNK_ap, sVia_ap, eCall_ap, eCallV_ap, val_d, val_o, fin_rt, fin_rtO, fin_nx, DL.start, List.map_cons, List.map_nil, List.length_cons, List.length_nil, List.replicate, List.cons_append, List.nil_append, List.getElem?_cons_zero, List.getElem?_cons_succ, List.set_cons_zero, List.set_cons_succ, wipeG, Nat.reduceSub, Nat.reduceAdd, Nat.reduceLT, Nat.reduceLeDiff, if_true, if_false, Bool.not_true, Bool.not_false, Option.bind_some, Option.map_some, Bool.false_and]
    | true =>
      simp -implicitDefEqProofs only [ob_some, ob_bind, ob_map, eC_ap, eN_ap, eV_ap, slotN_dat, slotV_dat, slotV_own, slotV_odc, e1_ap, e2_ap, n2_ap, nLen_ap, aN_ap, aC_ap, eApp_ap, eTup_ap, nLst_ap, mkTup_0, mkTup_1, mkTup_2, mkTup_3, mkTup_4, mkLst_0, eL_ap, tV_ap, asBl_bl, tU_ap, ifB_t, ifB_f, tAnd_ap, tOr_ap, tNot_ap, tYes_ap, eIf_ap, ifD_bl, eAnd_ap, eOr_ap, notD_bl, eNot_ap, eChain_ap, dAdd_i, dSub_i, dNeg_i, dLt_i, dLe_i, dGt_i, dGe_i, dIsN2_n, dNotB_b, dEq_i, dNe_i, dEq_b, dNe_b, dEq_s, dNe_s, dLen_l, dLen_t, dLen_s, dTupOf_l, dTupOf_t, nLstOf_l, nLstOf_t, dAbs_i, itemsD_l, itemsD_t, iSeq_ap, iSeqL_ap', seqL_l, iRng1_ap, iRng2_ap, iDown_ap, iEnum_ap, iZip_ap, zip2_l, isi_ap, isTy_int_non, isTy_int_bl, isTy_int_int, isTy_int_str, isTy_int_lst, isTy_int_tup, isTy_int_dct, isTy_bool_non, isTy_bool_bl, isTy_bool_int, isTy_bool_str, isTy_bool_lst, isTy_bool_tup, isTy_bool_dct, isTy_str_non, isTy_str_bl, isTy_str_int, isTy_str_str, isTy_str_lst, isTy_str_tup, isTy_str_dct, isTy_tuple_non, isTy_tuple_bl, isTy_tuple_int, isTy_tuple_str, isTy_tuple_lst, isTy_tuple_tup, isTy_tuple_dct, isTy_list_non, isTy_list_bl, isTy_list_int, isTy_list_str, isTy_list_lst, isTy_list_tup, isTy_list_dct, isTy_dict_non, isTy_dict_bl, isTy_dict_int, isTy_dict_str, isTy_dict_lst, isTy_dict_tup, isTy_dict_dct, dIx_l, dIx_t, nLc_ap, gN_ap, goOn_nx, goOn_rt, goOn_rtO, sSeq_ap, sNext_ap, sSet_ap, sOwn_ap, sTgt_ap, sRet_ap, retO_own, sRetO_ap, sIf_ap, sDrop_ap, sFor_ap, sApp_ap, sParN_ap, sParNK_ap, sVia_ap, eCall_ap, eCallV_ap, val_d, val_o, fin_rt, fin_rtO, fin_nx, DL.start, List.map_cons, List.map_nil, List.length_cons, List.length_nil, List.replicate, List.cons_append, List.nil_append, List.getElem?_cons_zero, List.getElem?_cons_succ, List.set_cons_zero, List.set_cons_succ, wipeG, Nat.reduceSub, Nat.reduceAdd, Nat.reduceLT, Nat.reduceLeDiff, if_true, if_false, Bool.not_true, Bool.not_false, Option.bind_some, Option.map_some, rng1_i _ (show -(2 ^ 62) ≤ (ds.length : Int) - 1 ∧ (ds.length : Int) - 1 < 2 ^ 62 by omega), Bool.true_and]
      rw [show ((ds.length : Int) - 1).toNat = ds.length - 1 by omega]
      refine ob_lcm _ (fun k => .bl (decide (absD ((ds[k]?).getD .non) < absD ((ds[k + 1]?).getD .non)))) (fun k hk => ?_) (by simp [lim]; omega) ?_
      · rw [List.mem_range] at hk
        have h1 : ds[k]? = some ds[k] := List.getElem?_eq_getElem (by omega)
        have h2 : ds[k + 1]? = some ds[k + 1] := List.getElem?_eq_getElem (by omega)
        have m1 := List.all_eq_true.mp hb _ (List.getElem_mem (show k < ds.length by omega))
        have m2 := List.all_eq_true.mp hb _ (List.getElem_mem (show k + 1 < ds.length by omega))
        have a1 := atD_of ds (k : Int) ds[k] (by omega) (by simpa using h1)
        have a2 := atD_of ds ((k : Int) + 1) ds[k + 1] (by omega) (by rw [show ((k : Int) + 1).toNat = k + 1 by omega]; exact h2)
        rw [h1, h2]
        generalize ds[k] = d1 at *
        generalize ds[k + 1] = d2 at *
        cases d1 <;> simp only [inB, Bool.false_eq_true] at m1
        cases d2 <;> simp only [inB, Bool.false_eq_true] at m2
        simp -implicitDefEqProofs only [ob_some, ob_bind, ob_map, eC_ap, eN_ap, eV_ap, slotN_dat, slotV_dat, slotV_own, slotV_odc, e1_ap, e2_ap, n2_ap, nLen_ap, aN_ap, aC_ap, eApp_ap, eTup_ap, nLst_ap, mkTup_0, mkTup_1, mkTup_2, mkTup_3, mkTup_4, mkLst_0, eL_ap, tV_ap, asBl_bl, tU_ap, ifB_t, ifB_f, tAnd_ap, tOr_ap, tNot_ap, tYes_ap, eIf_ap, ifD_bl, eAnd_ap, eOr_ap, notD_bl, eNot_ap, eChain_ap, dAdd_i, dSub_i, dNeg_i, dLt_i, dLe_i, dGt_i, dGe_i, dIsN2_n, dNotB_b, dEq_i, dNe_i, dEq_b, dNe_b, dEq_s, dNe_s, dLen_l, dLen_t, dLen_s, dTupOf_l, dTupOf_t, nLstOf_l, nLstOf_t, dAbs_i, itemsD_l, itemsD_t, iSeq_ap, iSeqL_ap', seqL_l, iRng1_ap, iRng2_ap, iDown_ap, iEnum_ap, iZip_ap, zip2_l, isi_ap, isTy_int_non, isTy_int_bl, isTy_int_int, isTy_int_str, isTy_int_lst, isTy_int_tup, isTy_int_dct, isTy_bool_non, isTy_bool_bl, isTy_bool_int, isTy_bool_str, isTy_bool_lst, isTy_bool_tup, isTy_bool_dct, isTy_str_non, isTy_str_bl, isTy_str_int, isTy_str_str, isTy_str_lst, isTy_str_tup, isTy_str_dct, isTy_tuple_non, isTy_tuple_bl, isTy_tuple_int, isTy_tuple_str, isTy_tuple_lst, isTy_tuple_tup, isTy_tuple_dct, isTy_list_non, isTy_list_bl, isTy_list_int, isTy_list_str, isTy_list_lst, isTy_list_tup, isTy_list_dct, isTy_dict_non, isTy_dict_bl, isTy_dict_int, isTy_dict_str, isTy_dict_lst, isTy_dict_tup, isTy_dict_dct, dIx_l, dIx_t, nLc_ap, gN_ap, goOn_nx, goOn_rt, goOn_rtO, sSeq_ap, sNext_ap, sSet_ap, sOwn_ap, sTgt_ap, sRet_ap, retO_own, sRetO_ap, sIf_ap, sDrop_ap, sFor_ap, sApp_ap, sParN_ap, sParNK_ap, sVia_ap, eCall_ap, eCallV_ap, val_d, val_o, fin_rt, fin_rtO, fin_nx, DL.start, List.map_cons, List.map_nil, List.length_cons, List.length_nil, List.replicate, List.cons_append, List.nil_append, List.getElem?_cons_zero, List.getElem?_cons_succ, List.set_cons_zero, List.set_cons_succ, wipeG, Nat.reduceSub, Nat.reduceAdd, Nat.reduceLT, Nat.reduceLeDiff, if_true, if_false, Bool.not_true, Bool.not_false, Option.bind_some, Option.map_some, a1, a2, absD, Option.getD_some, true_and]
      · simp -implicitDefEqProofs only [ob_some, ob_bind, ob_map, eC_ap, eN_ap, eV_ap, slotN_dat, slotV_dat, slotV_own, slotV_odc, e1_ap, e2_ap, n2_ap, nLen_ap, aN_ap, aC_ap, eApp_ap, eTup_ap, nLst_ap, mkTup_0, mkTup_1, mkTup_2, mkTup_3, mkTup_4, mkLst_0, eL_ap, tV_ap, asBl_bl, tU_ap, ifB_t, ifB_f, tAnd_ap, tOr_ap, tNot_ap, tYes_ap, eIf_ap, ifD_bl, eAnd_ap, eOr_ap, notD_bl, eNot_ap, eChain_ap, dAdd_i, dSub_i, dNeg_i, dLt_i, dLe_i, dGt_i, dGe_i, dIsN2_n, dNotB_b, dEq_i, dNe_i, dEq_b, dNe_b, dEq_s, dNe_s, dLen_l, dLen_t, dLen_s, dTupOf_l, dTupOf_t, nLstOf_l, nLstOf_t, dAbs_i, itemsD_l, itemsD_t, iSeq_ap, iSeqL_ap', seqL_l, iRng1_ap, iRng2_ap, iDown_ap, iEnum_ap, iZip_ap, zip2_l, isi_ap, isTy_int_non, isTy_int_bl, isTy_int_int, isTy_int_str, isTy_int_lst, isTy_int_tup, isTy_int_dct, isTy_bool_non, isTy_bool_bl, isTy_bool_int, isTy_bool_str, isTy_bool_lst, isTy_bool_tup, isTy_bool_dct, isTy_str_non, isTy_str_bl, isTy_str_int, isTy_str_str, isTy_str_lst, isTy_str_tup, isTy_str_dct, isTy_tuple_non, isTy_tuple_bl, isTy_tuple_int, isTy_tuple_str, isTy_tuple_lst, isTy_tuple_tup, isTy_tuple_dct, isTy_list_non, isTy_list_bl, isTy_list_int, isTy_list_str, isTy_list_lst, isTy_list_tup, isTy_list_dct, isTy_dict_non, isTy_dict_bl, isTy_dict_int, isTy_dict_str, isTy_dict_lst, isTy_dict_tup, isTy_dict_dct, dIx_l, dIx_t, nLc_ap, gN_ap, goOn_nx, goOn_rt, goOn_rtO, sSeq_ap, sNext_ap, sSet_ap, sOwn_ap, sTgt_ap, sRet_ap, retO_own, sRetO_ap, sIf_ap, sDrop_ap, sFor_ap, sApp_ap, sParN_ap, sParNK_ap, sVia_ap, eCall_ap, eCallV_ap, val_d, val_o, fin_rt, fin_rtO, fin_nx, DL.start, List.map_cons, List.map_nil, List.length_cons, List.length_nil, List.replicate, List.cons_append, List.nil_append, List.getElem?_cons_zero, List.getElem?_cons_succ, List.set_cons_zero, List.set_cons_succ, wipeG, Nat.reduceSub, Nat.reduceAdd, Nat.reduceLT, Nat.reduceLeDiff, if_true, if_false, Bool.not_true, Bool.not_false, Option.bind_some, Option.map_some, dAll_m]; rfl
/-- what is_clause says of anything -/
def clD (m : Int) : D → Bool
  | .tup ds => ds.all (inB m) && ascD ds
  | _ => false
def goodD : D → Prop
  | .tup ds => (∀ d ∈ ds, isS d = false) ∧ ds.length ≤ 1000
  | .scr _ => False
  | _ => True
theorem is_clause_any (d : D) (m : Int) (h : goodD d) : f_is_clause [d, .int m] = some (.d (.bl (clD m d))) := by
  cases d
  case tup ds => exact is_clause_t ds m h.1 h.2
  case scr => exact h.elim
  all_goals rfl
def lenD : D → Nat
  | .tup ds => ds.length
  | _ => 0
def rowsD (b : Int) (ds : List D) : Bool := (ds.zipIdx 0).all fun p => clD (b + (p.2 : Nat)) p.1 && !(((lenD p.1 : Nat) : Int) == 1)
theorem gates_1 (s : Str) (b x : D) : atD [.str s, b, x] 1 = some b := rfl
theorem gates_2 (s : Str) (b x : D) : atD [.str s, b, x] 2 = some x := rfl
theorem nat3 : (((3 : Nat) : Int) == 3) = true := rfl
theorem is_gates_no (b : Int) (ds : List D) (h0 : 0 ≤ b) (h1 : b ≤ 400) (hl : ds.length ≤ 1000) (hg : ∀ d ∈ ds, goodD d) (hr : rowsD b ds = false) :
    f_is_gates [.tup [.str "gates", .int b, .tup ds]] = some (.d (.bl false)) := by
  apply of_fn rfl
  unfold s_is_gates
  have e2 : decide ((20000 : Int) < (ds.length : Int)) = false := by simp; omega
  simp -implicitDefEqProofs only [ob_some, ob_bind, ob_map, eC_ap, eN_ap, eV_ap, slotN_dat, slotV_dat, slotV_own, slotV_odc, e1_ap, e2_ap, n2_ap, nLen_ap, aN_ap, aC_ap, eApp_ap, eTup_ap, nLst_ap, mkTup_0, mkTup_1, mkTup_2, mkTup_3, mkTup_4, mkLst_0, eL_ap, tV_ap, asBl_bl, tU_ap, ifB_t, ifB_f, tAnd_ap, tOr_ap, tNot_ap, tYes_ap, eIf_ap, ifD_bl, eAnd_ap, eOr_ap, notD_bl, eNot_ap, eChain_ap, dAdd_i, dSub_i, dNeg_i, dLt_i, dLe_i, dGt_i, dGe_i, dIsN2_n, dNotB_b, dEq_i, dNe_i, dEq_b, dNe_b, dEq_s, dNe_s, dLen_l, dLen_t, dLen_s, dTupOf_l, dTupOf_t, nLstOf_l, nLstOf_t, dAbs_i, itemsD_l, itemsD_t, iSeq_ap, iSeqL_ap', seqL_l, iRng1_ap, iRng2_ap, iDown_ap, iEnum_ap, iZip_ap, zip2_l, isi_ap, isTy_int_non, isTy_int_bl, isTy_int_int, isTy_int_str, isTy_int_lst, isTy_int_tup, isTy_int_dct, isTy_bool_non, isTy_bool_bl, isTy_bool_int, isTy_bool_str, isTy_bool_lst, isTy_bool_tup, isTy_bool_dct, isTy_str_non, isTy_str_bl, isTy_str_int, isTy_str_str, isTy_str_lst, isTy_str_tup, isTy_str_dct, isTy_tuple_non, isTy_tuple_bl, isTy_tuple_int, isTy_tuple_str, isTy_tuple_lst, isTy_tuple_tup, isTy_tuple_dct, isTy_list_non, isTy_list_bl, isTy_list_int, isTy_list_str, isTy_list_lst, isTy_list_tup, isTy_list_dct, isTy_dict_non, isTy_dict_bl, isTy_dict_int, isTy_dict_str, isTy_dict_lst, isTy_dict_tup, isTy_dict_dct, dIx_l, dIx_t, nLc_ap, gN_ap, goOn_nx, goOn_rt, goOn_rtO, sSeq_ap, sNext_ap, sSet_ap, sOwn_ap, sTgt_ap, sRet_ap, retO_own, sRetO_ap, sIf_ap, sDrop_ap, sFor_ap, sApp_ap, sParN_ap, sParNK_ap, sVia_ap, eCall_ap, eCallV_ap, val_d, val_o, fin_rt, fin_rtO, fin_nx, DL.start, List.map_cons, List.map_nil, List.length_cons, List.length_nil, List.replicate, List.cons_append, List.nil_append, List.getElem?_cons_zero, List.getElem?_cons_succ, List.set_cons_zero, List.set_cons_succ, wipeG, Nat.reduceSub, Nat.reduceAdd, Nat.reduceLT, Nat.reduceLeDiff, if_true, if_false, Bool.not_true, Bool.not_false, Option.bind_some, Option.map_some, gates_1, gates_2, atD_0, is_integer_i, nat3, beq_self_eq_true, decide_eq_true h0, decide_eq_true h1, e2, pairs_zip]
  refine ob_lcm _ (fun p => .bl (clD (b + (p.2 : Nat)) p.1 && !(((lenD p.1 : Nat) : Int) == 1))) (fun p hp => ?_) (by simp [lim]; omega) ?_
  · obtain ⟨d, k⟩ := p
    have hd : d ∈ ds := by
      have := List.mem_zipIdx hp
      simp at this; exact this.2 ▸ List.getElem_mem _
    simp -implicitDefEqProofs only [ob_some, ob_bind, ob_map, eC_ap, eN_ap, eV_ap, slotN_dat, slotV_dat, slotV_own, slotV_odc, e1_ap, e2_ap, n2_ap, nLen_ap, aN_ap, aC_ap, eApp_ap, eTup_ap, nLst_ap, mkTup_0, mkTup_1, mkTup_2, mkTup_3, mkTup_4, mkLst_0, eL_ap, tV_ap, asBl_bl, tU_ap, ifB_t, ifB_f, tAnd_ap, tOr_ap, tNot_ap, tYes_ap, eIf_ap, ifD_bl, eAnd_ap, eOr_ap, notD_bl, eNot_ap, eChain_ap, dAdd_i, dSub_i, dNeg_i, dLt_i, dLe_i, dGt_i, dGe_i, dIsN2_n, dNotB_b, dEq_i, dNe_i, dEq_b, dNe_b, dEq_s, dNe_s, dLen_l, dLen_t, dLen_s, dTupOf_l, dTupOf_t, nLstOf_l, nLstOf_t, dAbs_i, itemsD_l, itemsD_t, iSeq_ap, iSeqL_ap', seqL_l, iRng1_ap, iRng2_ap, iDown_ap, iEnum_ap, iZip_ap, zip2_l, isi_ap, isTy_int_non, isTy_int_bl, isTy_int_int, isTy_int_str, isTy_int_lst, isTy_int_tup, isTy_int_dct, isTy_bool_non, isTy_bool_bl, isTy_bool_int, isTy_bool_str, isTy_bool_lst, isTy_bool_tup, isTy_bool_dct, isTy_str_non, isTy_str_bl, isTy_str_int, isTy_str_str, isTy_str_lst, isTy_str_tup, isTy_str_dct, isTy_tuple_non, isTy_tuple_bl, isTy_tuple_int, isTy_tuple_str, isTy_tuple_lst, isTy_tuple_tup, isTy_tuple_dct, isTy_list_non, isTy_list_bl, isTy_list_int, isTy_list_str, isTy_list_lst, isTy_list_tup, isTy_list_dct, isTy_dict_non, isTy_dict_bl, isTy_dict_int, isTy_dict_str, isTy_dict_lst, isTy_dict_tup, isTy_dict_dct, dIx_l, dIx_t, nLc_ap, gN_ap, goOn_nx, goOn_rt, goOn_rtO, sSeq_ap, sNext_ap, sSet_ap, sOwn_ap, sTgt_ap, sRet_ap, retO_own, sRetO_ap, sIf_ap, sDrop_ap, sFor_ap, sApp_ap, sParN_ap, sParNK_ap, sVia_ap, eCall_ap, eCallV_ap, val_d, val_o, fin_rt, fin_rtO, fin_nx, DL.start, List.map_cons, List.map_nil, List.length_cons, List.length_nil, List.replicate, List.cons_append, List.nil_append, List.getElem?_cons_zero, List.getElem?_cons_succ, List.set_cons_zero, List.set_cons_succ, wipeG, Nat.reduceSub, Nat.reduceAdd, Nat.reduceLT, Nat.reduceLeDiff, if_true, if_false, Bool.not_true, Bool.not_false, Option.bind_some, Option.map_some, gT_2, and_self, gates_1, is_clause_any _ _ (hg d hd), true_and]
    cases hc : clD (b + (k : Nat)) d with
    | false => simp -implicitDefEqProofs only [ob_some, ob_bind, ob_map, eC_ap, eN_ap, eV_ap, slotN_dat, slotV_dat, slotV_own, slotV_odc, e1_ap, e2_ap, n2_ap, nLen_ap, aN_ap, aC_ap, eApp_ap, eTup_ap, nLst_ap, mkTup_0, mkTup_1, mkTup_2, mkTup_3, mkTup_4, mkLst_0, eL_ap, tV_ap, asBl_bl, tU_ap, ifB_t, ifB_f, tAnd_ap, tOr_ap, tNot_ap, tYes_ap, eIf_ap, ifD_bl, eAnd_ap, eOr_ap, notD_bl, eNot_ap, eChain_ap, dAdd_i, dSub_i, dNeg_i, dLt_i, dLe_i, dGt_i, dGe_i, dIsN2_n, dNotB_b, dEq_i, dNe_i, dEq_b, dNe_b, dEq_s, dNe_s, dLen_l, dLen_t, dLen_s, dTupOf_l, dTupOf_t, nLstOf_l, nLstOf_t, dAbs_i, itemsD_l, itemsD_t, iSeq_ap, iSeqL_ap', seqL_l, iRng1_ap, iRng2_ap, iDown_ap, iEnum_ap, iZip_ap, zip2_l, isi_ap, isTy_int_non, isTy_int_bl, isTy_int_int, isTy_int_str, isTy_int_lst, isTy_int_tup, isTy_int_dct, isTy_bool_non, isTy_bool_bl, isTy_bool_int, isTy_bool_str, isTy_bool_lst, isTy_bool_tup, isTy_bool_dct, isTy_str_non, isTy_str_bl, isTy_str_int, isTy_str_str, isTy_str_lst, isTy_str_tup, isTy_str_dct, isTy_tuple_non, isTy_tuple_bl, isTy_tuple_int, isTy_tuple_str, isTy_tuple_lst, isTy_tuple_tup, isTy_tuple_dct, isTy_list_non, isTy_list_bl, isTy_list_int, isTy_list_str, isTy_list_lst, isTy_list_tup, isTy_list_dct, isTy_dict_non, isTy_dict_bl, isTy_dict_int, isTy_dict_str, isTy_dict_lst, isTy_dict_tup, isTy_dict_dct, dIx_l, dIx_t, nLc_ap, gN_ap, goOn_nx, goOn_rt, goOn_rtO, sSeq_ap, sNext_ap, sSet_ap, sOwn_ap, sTgt_ap, sRet_ap, retO_own, sRetO_ap, sIf_ap, sDrop_ap, sFor_ap, sApp_ap, sParN_ap, sParNK_ap, sVia_ap, eCall_ap, eCallV_ap, val_d, val_o, fin_rt, fin_rtO, fin_nx, DL.start, List.map_cons, List.map_nil, List.length_cons, List.length_nil, List.replicate, List.cons_append, List.nil_append, List.getElem?_cons_zero, List.getElem?_cons_succ, List.set_cons_zero, List.set_cons_succ, wipeG, Nat.reduceSub, Nat.reduceAdd, Nat.reduceLT, Nat.reduceLeDiff, if_true, if_false, Bool.not_true, Bool.not_false, Option.bind_some, Option.map_some, Bool.false_and]
    | true =>
      cases d <;> simp only [clD, Bool.false_eq_true] at hc
      simp -implicitDefEqProofs only [ob_some, ob_bind, ob_map, eC_ap, eN_ap, eV_ap, slotN_dat, slotV_dat, slotV_own, slotV_odc, e1_ap, e2_ap, n2_ap, nLen_ap, aN_ap, aC_ap, eApp_ap, eTup_ap, nLst_ap, mkTup_0, mkTup_1, mkTup_2, mkTup_3, mkTup_4, mkLst_0, eL_ap, tV_ap, asBl_bl, tU_ap, ifB_t, ifB_f, tAnd_ap, tOr_ap, tNot_ap, tYes_ap, eIf_ap, ifD_bl, eAnd_ap, eOr_ap, notD_bl, eNot_ap, eChain_ap, dAdd_i, dSub_i, dNeg_i, dLt_i, dLe_i, dGt_i, dGe_i, dIsN2_n, dNotB_b, dEq_i, dNe_i, dEq_b, dNe_b, dEq_s, dNe_s, dLen_l, dLen_t, dLen_s, dTupOf_l, dTupOf_t, nLstOf_l, nLstOf_t, dAbs_i, itemsD_l, itemsD_t, iSeq_ap, iSeqL_ap', seqL_l, iRng1_ap, iRng2_ap, iDown_ap, iEnum_ap, iZip_ap, zip2_l, isi_ap, isTy_int_non, isTy_int_bl, isTy_int_int, isTy_int_str, isTy_int_lst, isTy_int_tup, isTy_int_dct, isTy_bool_non, isTy_bool_bl, isTy_bool_int, isTy_bool_str, isTy_bool_lst, isTy_bool_tup, isTy_bool_dct, isTy_str_non, isTy_str_bl, isTy_str_int, isTy_str_str, isTy_str_lst, isTy_str_tup, isTy_str_dct, isTy_tuple_non, isTy_tuple_bl, isTy_tuple_int, isTy_tuple_str, isTy_tuple_lst, isTy_tuple_tup, isTy_tuple_dct, isTy_list_non, isTy_list_bl, isTy_list_int, isTy_list_str, isTy_list_lst, isTy_list_tup, isTy_list_dct, isTy_dict_non, isTy_dict_bl, isTy_dict_int, isTy_dict_str, isTy_dict_lst, isTy_dict_tup, isTy_dict_dct, dIx_l, dIx_t, nLc_ap, gN_ap, goOn_nx, goOn_rt, goOn_rtO, sSeq_ap, sNext_ap, sSet_ap, sOwn_ap, sTgt_ap, sRet_ap, retO_own, sRetO_ap, sIf_ap, sDrop_ap, sFor_ap, sApp_ap, sParN_ap, sParNK_ap, sVia_ap, eCall_ap, eCallV_ap, val_d, val_o, fin_rt, fin_rtO, fin_nx, DL.start, List.map_cons, List.map_nil, List.length_cons, List.length_nil, List.replicate, List.cons_append, List.nil_append, List.getElem?_cons_zero, List.getElem?_cons_succ, List.set_cons_zero, List.set_cons_succ, wipeG, Nat.reduceSub, Nat.reduceAdd, Nat.reduceLT, Nat.reduceLeDiff, if_true, if_false, Bool.not_true, Bool.not_false, Option.bind_some, Option.map_some, lenD, Bool.true_and]
  · simp -implicitDefEqProofs only [ob_some, ob_bind, ob_map, eC_ap, eN_ap, eV_ap, slotN_dat, slotV_dat, slotV_own, slotV_odc, e1_ap, e2_ap, n2_ap, nLen_ap, aN_ap, aC_ap, eApp_ap, eTup_ap, nLst_ap, mkTup_0, mkTup_1, mkTup_2, mkTup_3, mkTup_4, mkLst_0, eL_ap, tV_ap, asBl_bl, tU_ap, ifB_t, ifB_f, tAnd_ap, tOr_ap, tNot_ap, tYes_ap, eIf_ap, ifD_bl, eAnd_ap, eOr_ap, notD_bl, eNot_ap, eChain_ap, dAdd_i, dSub_i, dNeg_i, dLt_i, dLe_i, dGt_i, dGe_i, dIsN2_n, dNotB_b, dEq_i, dNe_i, dEq_b, dNe_b, dEq_s, dNe_s, dLen_l, dLen_t, dLen_s, dTupOf_l, dTupOf_t, nLstOf_l, nLstOf_t, dAbs_i, itemsD_l, itemsD_t, iSeq_ap, iSeqL_ap', seqL_l, iRng1_ap, iRng2_ap, iDown_ap, iEnum_ap, iZip_ap, zip2_l, isi_ap, isTy_int_non, isTy_int_bl, isTy_int_int, isTy_int_str, isTy_int_lst, isTy_int_tup, isTy_int_dct, isTy_bool_non, isTy_bool_bl, isTy_bool_int, isTy_bool_str, isTy_bool_lst, isTy_bool_tup, isTy_bool_dct, isTy_str_non, isTy_str_bl, isTy_str_int, isTy_str_str, isTy_str_lst, isTy_str_tup, isTy_str_dct, isTy_tuple_non, isTy_tuple_bl, isTy_tuple_int, isTy_tuple_str, isTy_tuple_lst, isTy_tuple_tup, isTy_tuple_dct, isTy_list_non, isTy_list_bl, isTy_list_int, isTy_list_str, isTy_list_lst, isTy_list_tup, isTy_list_dct, isTy_dict_non, isTy_dict_bl, isTy_dict_int, isTy_dict_str, isTy_dict_lst, isTy_dict_tup, isTy_dict_dct, dIx_l, dIx_t, nLc_ap, gN_ap, goOn_nx, goOn_rt, goOn_rtO, sSeq_ap, sNext_ap, sSet_ap, sOwn_ap, sTgt_ap, sRet_ap, retO_own, sRetO_ap, sIf_ap, sDrop_ap, sFor_ap, sApp_ap, sParN_ap, sParNK_ap, sVia_ap, eCall_ap, eCallV_ap, val_d, val_o, fin_rt, fin_rtO, fin_nx, DL.start, List.map_cons, List.map_nil, List.length_cons, List.length_nil, List.replicate, List.cons_append, List.nil_append, List.getElem?_cons_zero, List.getElem?_cons_succ, List.set_cons_zero, List.set_cons_succ, wipeG, Nat.reduceSub, Nat.reduceAdd, Nat.reduceLT, Nat.reduceLeDiff, if_true, if_false, Bool.not_true, Bool.not_false, Option.bind_some, Option.map_some, dAll_m]
    have : (ds.zipIdx 0).all (fun p => clD (b + (p.2 : Nat)) p.1 && !(((lenD p.1 : Nat) : Int) == 1)) = false := hr
    simp -implicitDefEqProofs only [ob_some, ob_bind, ob_map, eC_ap, eN_ap, eV_ap, slotN_dat, slotV_dat, slotV_own, slotV_odc, e1_ap, e2_ap, n2_ap, nLen_ap, aN_ap, aC_ap, eApp_ap, eTup_ap, nLst_ap, mkTup_0, mkTup_1, mkTup_2, mkTup_3, mkTup_4, mkLst_0, eL_ap, tV_ap, asBl_bl, tU_ap, ifB_t, ifB_f, tAnd_ap, tOr_ap, tNot_ap, tYes_ap, eIf_ap, ifD_bl, eAnd_ap, eOr_ap, notD_bl, eNot_ap, eChain_ap, dAdd_i, dSub_i, dNeg_i, dLt_i, dLe_i, dGt_i, dGe_i, dIsN2_n, dNotB_b, dEq_i, dNe_i, dEq_b, dNe_b, dEq_s, dNe_s, dLen_l, dLen_t, dLen_s, dTupOf_l, dTupOf_t, nLstOf_l, nLstOf_t, dAbs_i, itemsD_l, itemsD_t, iSeq_ap, iSeqL_ap', seqL_l, iRng1_ap, iRng2_ap, iDown_ap, iEnum_ap, iZip_ap, zip2_l, isi_ap, isTy_int_non, isTy_int_bl, isTy_int_int, isTy_int_str, isTy_int_lst, isTy_int_tup, isTy_int_dct, isTy_bool_non, isTy_bool_bl, isTy_bool_int, isTy_bool_str, isTy_bool_lst, isTy_bool_tup, isTy_bool_dct, isTy_str_non, isTy_str_bl, isTy_str_int, isTy_str_str, isTy_str_lst, isTy_str_tup, isTy_str_dct, isTy_tuple_non, isTy_tuple_bl, isTy_tuple_int, isTy_tuple_str, isTy_tuple_lst, isTy_tuple_tup, isTy_tuple_dct, isTy_list_non, isTy_list_bl, isTy_list_int, isTy_list_str, isTy_list_lst, isTy_list_tup, isTy_list_dct, isTy_dict_non, isTy_dict_bl, isTy_dict_int, isTy_dict_str, isTy_dict_lst, isTy_dict_tup, isTy_dict_dct, dIx_l, dIx_t, nLc_ap, gN_ap, goOn_nx, goOn_rt, goOn_rtO, sSeq_ap, sNext_ap, sSet_ap, sOwn_ap, sTgt_ap, sRet_ap, retO_own, sRetO_ap, sIf_ap, sDrop_ap, sFor_ap, sApp_ap, sParN_ap, sParNK_ap, sVia_ap, eCall_ap, eCallV_ap, val_d, val_o, fin_rt, fin_rtO, fin_nx, DL.start, List.map_cons, List.map_nil, List.length_cons, List.length_nil, List.replicate, List.cons_append, List.nil_append, List.getElem?_cons_zero, List.getElem?_cons_succ, List.set_cons_zero, List.set_cons_succ, wipeG, Nat.reduceSub, Nat.reduceAdd, Nat.reduceLT, Nat.reduceLeDiff, if_true, if_false, Bool.not_true, Bool.not_false, Option.bind_some, Option.map_some, this]
theorem is_gates_yes (b : Int) (ds : List D) (h0 : 0 ≤ b) (h1 : b ≤ 400) (hl : ds.length ≤ 1000) (hg : ∀ d ∈ ds, goodD d) (hr : rowsD b ds = true)
    (n : Int) (hn : dLenSet (.tup ds) = some (.int n)) :
    f_is_gates [.tup [.str "gates", .int b, .tup ds]] = some (.d (.bl (n == (ds.length : Int)))) := by
  apply of_fn rfl
  unfold s_is_gates
  have e2 : decide ((20000 : Int) < (ds.length : Int)) = false := by simp; omega
  simp -implicitDefEqProofs only [ob_some, ob_bind, ob_map, eC_ap, eN_ap, eV_ap, slotN_dat, slotV_dat, slotV_own, slotV_odc, e1_ap, e2_ap, n2_ap, nLen_ap, aN_ap, aC_ap, eApp_ap, eTup_ap, nLst_ap, mkTup_0, mkTup_1, mkTup_2, mkTup_3, mkTup_4, mkLst_0, eL_ap, tV_ap, asBl_bl, tU_ap, ifB_t, ifB_f, tAnd_ap, tOr_ap, tNot_ap, tYes_ap, eIf_ap, ifD_bl, eAnd_ap, eOr_ap, notD_bl, eNot_ap, eChain_ap, dAdd_i, dSub_i, dNeg_i, dLt_i, dLe_i, dGt_i, dGe_i, dIsN2_n, dNotB_b, dEq_i, dNe_i, dEq_b, dNe_b, dEq_s, dNe_s, dLen_l, dLen_t, dLen_s, dTupOf_l, dTupOf_t, nLstOf_l, nLstOf_t, dAbs_i, itemsD_l, itemsD_t, iSeq_ap, iSeqL_ap', seqL_l, iRng1_ap, iRng2_ap, iDown_ap, iEnum_ap, iZip_ap, zip2_l, isi_ap, isTy_int_non, isTy_int_bl, isTy_int_int, isTy_int_str, isTy_int_lst, isTy_int_tup, isTy_int_dct, isTy_bool_non, isTy_bool_bl, isTy_bool_int, isTy_bool_str, isTy_bool_lst, isTy_bool_tup, isTy_bool_dct, isTy_str_non, isTy_str_bl, isTy_str_int, isTy_str_str, isTy_str_lst, isTy_str_tup, isTy_str_dct, isTy_tuple_non, isTy_tuple_bl, isTy_tuple_int, isTy_tuple_str, isTy_tuple_lst, isTy_tuple_tup, isTy_tuple_dct, isTy_list_non, isTy_list_bl, isTy_list_int, isTy_list_str, isTy_list_lst, isTy_list_tup, isTy_list_dct, isTy_dict_non, isTy_dict_bl, isTy_dict_int, isTy_dict_str, isTy_dict_lst, isTy_dict_tup, isTy_dict_dct, dIx_l, dIx_t, nLc_ap, gN_ap, goOn_nx, goOn_rt, goOn_rtO, sSeq_ap, sNext_ap, sSet_ap, sOwn_ap, sTgt_ap, sRet_ap, retO_own, sRetO_ap, sIf_ap, sDrop_ap, sFor_ap, sApp_ap, sParN_ap, sParNK_ap, sVia_ap, eCall_ap, eCallV_ap, val_d, val_o, fin_rt, fin_rtO, fin_nx, DL.start, List.map_cons, List.map_nil, List.length_cons, List.length_nil, List.replicate, List.cons_append, List.nil_append, List.getElem?_cons_zero, List.getElem?_cons_succ, List.set_cons_zero, List.set_cons_succ, wipeG, Nat.reduceSub, Nat.reduceAdd, Nat.reduceLT, Nat.reduceLeDiff, if_true, if_false, Bool.not_true, Bool.not_false, Option.bind_some, Option.map_some, gates_1, gates_2, atD_0, is_integer_i, nat3, beq_self_eq_true, decide_eq_true h0, decide_eq_true h1, e2, pairs_zip]
  refine ob_lcm _ (fun p => .bl (clD (b + (p.2 : Nat)) p.1 && !(((lenD p.1 : Nat) : Int) == 1))) (fun p hp => ?_) (by simp [lim]; omega) ?_
  · obtain ⟨d, k⟩ := p
    have hd : d ∈ ds := by
      have := List.mem_zipIdx hp
      simp at this; exact this.2 ▸ List.getElem_mem _
    simp -implicitDefEqProofs only [ob_some, ob_bind, ob_map, eC_ap, eN_ap, eV_ap, slotN_dat, slotV_dat, slotV_own, slotV_odc, e1_ap, e2_ap, n2_ap, nLen_ap, aN_ap, aC_ap, eApp_ap, eTup_ap, nLst_ap, mkTup_0, mkTup_1, mkTup_2, mkTup_3, mkTup_4, mkLst_0, eL_ap, tV_ap, asBl_bl, tU_ap, ifB_t, ifB_f, tAnd_ap, tOr_ap, tNot_ap, tYes_ap, eIf_ap, ifD_bl, eAnd_ap, eOr_ap, notD_bl, eNot_ap, eChain_ap, dAdd_i, dSub_i, dNeg_i, dLt_i, dLe_i, dGt_i, dGe_i, dIsN2_n, dNotB_b, dEq_i, dNe_i, dEq_b, dNe_b, dEq_s, dNe_s, dLen_l, dLen_t, dLen_s, dTupOf_l, dTupOf_t, nLstOf_l, nLstOf_t, dAbs_i, itemsD_l, itemsD_t, iSeq_ap, iSeqL_ap', seqL_l, iRng1_ap, iRng2_ap, iDown_ap, iEnum_ap, iZip_ap, zip2_l, isi_ap, isTy_int_non, isTy_int_bl, isTy_int_int, isTy_int_str, isTy_int_lst, isTy_int_tup, isTy_int_dct, isTy_bool_non, isTy_bool_bl, isTy_bool_int, isTy_bool_str, isTy_bool_lst, isTy_bool_tup, isTy_bool_dct, isTy_str_non, isTy_str_bl, isTy_str_int, isTy_str_str, isTy_str_lst, isTy_str_tup, isTy_str_dct, isTy_tuple_non, isTy_tuple_bl, isTy_tuple_int, isTy_tuple_str, isTy_tuple_lst, isTy_tuple_tup, isTy_tuple_dct, isTy_list_non, isTy_list_bl, isTy_list_int, isTy_list_str, isTy_list_lst, isTy_list_tup, isTy_list_dct, isTy_dict_non, isTy_dict_bl, isTy_dict_int, isTy_dict_str, isTy_dict_lst, isTy_dict_tup, isTy_dict_dct, dIx_l, dIx_t, nLc_ap, gN_ap, goOn_nx, goOn_rt, goOn_rtO, sSeq_ap, sNext_ap, sSet_ap, sOwn_ap, sTgt_ap, sRet_ap, retO_own, sRetO_ap, sIf_ap, sDrop_ap, sFor_ap, sApp_ap, sParN_ap, sParNK_ap, sVia_ap, eCall_ap, eCallV_ap, val_d, val_o, fin_rt, fin_rtO, fin_nx, DL.start, List.map_cons, List.map_nil, List.length_cons, List.length_nil, List.replicate, List.cons_append, List.nil_append, List.getElem?_cons_zero, List.getElem?_cons_succ, List.set_cons_zero, List.set_cons_succ, wipeG, Nat.reduceSub, Nat.reduceAdd, Nat.reduceLT, Nat.reduceLeDiff, if_true, if_false, Bool.not_true, Bool.not_false, Option.bind_some, Option.map_some, gT_2, and_self, gates_1, is_clause_any _ _ (hg d hd), true_and]
    cases hc : clD (b + (k : Nat)) d with
    | false => simp -implicitDefEqProofs only [ob_some, ob_bind, ob_map, eC_ap, eN_ap, eV_ap, slotN_dat, slotV_dat, slotV_own, slotV_odc, e1_ap, e2_ap, n2_ap, nLen_ap, aN_ap, aC_ap, eApp_ap, eTup_ap, nLst_ap, mkTup_0, mkTup_1, mkTup_2, mkTup_3, mkTup_4, mkLst_0, eL_ap, tV_ap, asBl_bl, tU_ap, ifB_t, ifB_f, tAnd_ap, tOr_ap, tNot_ap, tYes_ap, eIf_ap, ifD_bl, eAnd_ap, eOr_ap, notD_bl, eNot_ap, eChain_ap, dAdd_i, dSub_i, dNeg_i, dLt_i, dLe_i, dGt_i, dGe_i, dIsN2_n, dNotB_b, dEq_i, dNe_i, dEq_b, dNe_b, dEq_s, dNe_s, dLen_l, dLen_t, dLen_s, dTupOf_l, dTupOf_t, nLstOf_l, nLstOf_t, dAbs_i, itemsD_l, itemsD_t, iSeq_ap, iSeqL_ap', seqL_l, iRng1_ap, iRng2_ap, iDown_ap, iEnum_ap, iZip_ap, zip2_l, isi_ap, isTy_int_non, isTy_int_bl, isTy_int_int, isTy_int_str, isTy_int_lst, isTy_int_tup, isTy_int_dct, isTy_bool_non, isTy_bool_bl, isTy_bool_int, isTy_bool_str, isTy_bool_lst, isTy_bool_tup, isTy_bool_dct, isTy_str_non, isTy_str_bl, isTy_str_int, isTy_str_str, isTy_str_lst, isTy_str_tup, isTy_str_dct, isTy_tuple_non, isTy_tuple_bl, isTy_tuple_int, isTy_tuple_str, isTy_tuple_lst, isTy_tuple_tup, isTy_tuple_dct, isTy_list_non, isTy_list_bl, isTy_list_int, isTy_list_str, isTy_list_lst, isTy_list_tup, isTy_list_dct, isTy_dict_non, isTy_dict_bl, isTy_dict_int, isTy_dict_str, isTy_dict_lst, isTy_dict_tup, isTy_dict_dct, dIx_l, dIx_t, nLc_ap, gN_ap, goOn_nx, goOn_rt, goOn_rtO, sSeq_ap, sNext_ap, sSet_ap, sOwn_ap, sTgt_ap, sRet_ap, retO_own, sRetO_ap, sIf_ap, sDrop_ap, sFor_ap, sApp_ap, sParN_ap, sParNK_ap, sVia_ap, eCall_ap, eCallV_ap, val_d, val_o, fin_rt, fin_rtO, fin_nx, DL.start, List.map_cons, List.map_nil, List.length_cons, List.length_nil, List.replicate, List.cons_append, List.nil_append, List.getElem?_cons_zero, List.getElem?_cons_succ, List.set_cons_zero, List.set_cons_succ, wipeG, Nat.reduceSub, Nat.reduceAdd, Nat.reduceLT, Nat.reduceLeDiff, if_true, if_false, Bool.not_true, Bool.not_false, Option.bind_some, Option.map_some, Bool.false_and]
    | true =>
      cases d <;> simp only [clD, Bool.false_eq_true] at hc
      simp -implicitDefEqProofs only [ob_some, ob_bind, ob_map, eC_ap, eN_ap, eV_ap, slotN_dat, slotV_dat, slotV_own, slotV_odc, e1_ap, e2_ap, n2_ap, nLen_ap, aN_ap, aC_ap, eApp_ap, eTup_ap, nLst_ap, mkTup_0, mkTup_1, mkTup_2, mkTup_3, mkTup_4, mkLst_0, eL_ap, tV_ap, asBl_bl, tU_ap, ifB_t, ifB_f, tAnd_ap, tOr_ap, tNot_ap, tYes_ap, eIf_ap, ifD_bl, eAnd_ap, eOr_ap, notD_bl, eNot_ap, eChain_ap, dAdd_i, dSub_i, dNeg_i, dLt_i, dLe_i, dGt_i, dGe_i, dIsN2_n, dNotB_b, dEq_i, dNe_i, dEq_b, dNe_b, dEq_s, dNe_s, dLen_l, dLen_t, dLen_s, dTupOf_l, dTupOf_t, nLstOf_l, nLstOf_t, dAbs_i, itemsD_l, itemsD_t, iSeq_ap, iSeqL_ap', seqL_l, iRng1_ap, iRng2_ap, iDown_ap, iEnum_ap, iZip_ap, zip2_l, isi_ap, isTy_int_non, isTy_int_bl, isTy_int_int, isTy_int_str, isTy_int_lst, isTy_int_tup, isTy_int_dct, isTy_bool_non, isTy_bool_bl, isTy_bool_int, isTy_bool_str, isTy_bool_lst, isTy_bool_tup, isTy_bool_dct, isTy_str_non, isTy_str_bl, isTy_str_int, isTy_str_str, isTy_str_lst, isTy_str_tup, isTy_str_dct, isTy_tuple_non, isTy_tuple_bl, isTy_tuple_int, isTy_tuple_str, isTy_tuple_lst, isTy_tuple_tup, isTy_tuple_dct, isTy_list_non, isTy_list_bl, isTy_list_int, isTy_list_str, isTy_list_lst, isTy_list_tup, isTy_list_dct, isTy_dict_non, isTy_dict_bl, isTy_dict_int, isTy_dict_str, isTy_dict_lst, isTy_dict_tup, isTy_dict_dct, dIx_l, dIx_t, nLc_ap, gN_ap, goOn_nx, goOn_rt, goOn_rtO, sSeq_ap, sNext_ap, sSet_ap, sOwn_ap, sTgt_ap, sRet_ap, retO_own, sRetO_ap, sIf_ap, sDrop_ap, sFor_ap, sApp_ap, sParN_ap, sParNK_ap, sVia_ap, eCall_ap, eCallV_ap, val_d, val_o, fin_rt, fin_rtO, fin_nx, DL.start, List.map_cons, List.map_nil, List.length_cons, List.length_nil, List.replicate, List.cons_append, List.nil_append, List.getElem?_cons_zero, List.getElem?_cons_succ, List.set_cons_zero, List.set_cons_succ, wipeG, Nat.reduceSub, Nat.reduceAdd, Nat.reduceLT, Nat.reduceLeDiff, if_true, if_false, Bool.not_true, Bool.not_false, Option.bind_some, Option.map_some, lenD, Bool.true_and]
  · simp -implicitDefEqProofs only [ob_some, ob_bind, ob_map, eC_ap, eN_ap, eV_ap, slotN_dat, slotV_dat, slotV_own, slotV_odc, e1_ap, e2_ap, n2_ap, nLen_ap, aN_ap, aC_ap, eApp_ap, eTup_ap, nLst_ap, mkTup_0, mkTup_1, mkTup_2, mkTup_3, mkTup_4, mkLst_0, eL_ap, tV_ap, asBl_bl, tU_ap, ifB_t, ifB_f, tAnd_ap, tOr_ap, tNot_ap, tYes_ap, eIf_ap, ifD_bl, eAnd_ap, eOr_ap, notD_bl, eNot_ap, eChain_ap, dAdd_i, dSub_i, dNeg_i, dLt_i, dLe_i, dGt_i, dGe_i, dIsN2_n, dNotB_b, dEq_i, dNe_i, dEq_b, dNe_b, dEq_s, dNe_s, dLen_l, dLen_t, dLen_s, dTupOf_l, dTupOf_t, nLstOf_l, nLstOf_t, dAbs_i, itemsD_l, itemsD_t, iSeq_ap, iSeqL_ap', seqL_l, iRng1_ap, iRng2_ap, iDown_ap, iEnum_ap, iZip_ap, zip2_l, isi_ap, isTy_int_non, isTy_int_bl, isTy_int_int, isTy_int_str, isTy_int_lst, isTy_int_tup, isTy_int_dct, isTy_bool_non, isTy_bool_bl, isTy_bool_int, isTy_bool_str, isTy_bool_lst, isTy_bool_tup, isTy_bool_dct, isTy_str_non, isTy_str_bl, isTy_str_int, isTy_str_str, isTy_str_lst, isTy_str_tup, isTy_str_dct, isTy_tuple_non, isTy_tuple_bl, isTy_tuple_int, isTy_tuple_str, isTy_tuple_lst, isTy_tuple_tup, isTy_tuple_dct, isTy_list_non, isTy_list_bl, isTy_list_int, isTy_list_str, isTy_list_lst, isTy_list_tup, isTy_list_dct, isTy_dict_non, isTy_dict_bl, isTy_dict_int, isTy_dict_str, isTy_dict_lst, isTy_dict_tup, isTy_dict_dct, dIx_l, dIx_t, nLc_ap, gN_ap, goOn_nx, goOn_rt, goOn_rtO, sSeq_ap, sNext_ap, sSet_ap, sOwn_ap, sTgt_ap, sRet_ap, retO_own, sRetO_ap, sIf_ap, sDrop_ap, sFor_ap, sApp_ap, sParN_ap, sParNK_ap, sVia_ap, eCall_ap, eCallV_ap, val_d, val_o, fin_rt, fin_rtO, fin_nx, DL.start, List.map_cons, List.map_nil, List.length_cons, List.length_nil, List.replicate, List.cons_append, List.nil_append, List.getElem?_cons_zero, List.getElem?_cons_succ, List.set_cons_zero, List.set_cons_succ, wipeG, Nat.reduceSub, Nat.reduceAdd, Nat.reduceLT, Nat.reduceLeDiff, if_true, if_false, Bool.not_true, Bool.not_false, Option.bind_some, Option.map_some, dAll_m]
    have : (ds.zipIdx 0).all (fun p => clD (b + (p.2 : Nat)) p.1 && !(((lenD p.1 : Nat) : Int) == 1)) = true := hr
    simp -implicitDefEqProofs only [ob_some, ob_bind, ob_map, eC_ap, eN_ap, eV_ap, slotN_dat, slotV_dat, slotV_own, slotV_odc, e1_ap, e2_ap, n2_ap, nLen_ap, aN_ap, aC_ap, eApp_ap, eTup_ap, nLst_ap, mkTup_0, mkTup_1, mkTup_2, mkTup_3, mkTup_4, mkLst_0, eL_ap, tV_ap, asBl_bl, tU_ap, ifB_t, ifB_f, tAnd_ap, tOr_ap, tNot_ap, tYes_ap, eIf_ap, ifD_bl, eAnd_ap, eOr_ap, notD_bl, eNot_ap, eChain_ap, dAdd_i, dSub_i, dNeg_i, dLt_i, dLe_i, dGt_i, dGe_i, dIsN2_n, dNotB_b, dEq_i, dNe_i, dEq_b, dNe_b, dEq_s, dNe_s, dLen_l, dLen_t, dLen_s, dTupOf_l, dTupOf_t, nLstOf_l, nLstOf_t, dAbs_i, itemsD_l, itemsD_t, iSeq_ap, iSeqL_ap', seqL_l, iRng1_ap, iRng2_ap, iDown_ap, iEnum_ap, iZip_ap, zip2_l, isi_ap, isTy_int_non, isTy_int_bl, isTy_int_int, isTy_int_str, isTy_int_lst, isTy_int_tup, isTy_int_dct, isTy_bool_non, isTy_bool_bl, isTy_bool_int, isTy_bool_str, isTy_bool_lst, isTy_bool_tup, isTy_bool_dct, isTy_str_non, isTy_str_bl, isTy_str_int, isTy_str_str, isTy_str_lst, isTy_str_tup, isTy_str_dct, isTy_tuple_non, isTy_tuple_bl, isTy_tuple_int, isTy_tuple_str, isTy_tuple_lst, isTy_tuple_tup, isTy_tuple_dct, isTy_list_non, isTy_list_bl, isTy_list_int, isTy_list_str, isTy_list_lst, isTy_list_tup, isTy_list_dct, isTy_dict_non, isTy_dict_bl, isTy_dict_int, isTy_dict_str, isTy_dict_lst, isTy_dict_tup, isTy_dict_dct, dIx_l, dIx_t, nLc_ap, gN_ap, goOn_nx, goOn_rt, goOn_rtO, sSeq_ap, sNext_ap, sSet_ap, sOwn_ap, sTgt_ap, sRet_ap, retO_own, sRetO_ap, sIf_ap, sDrop_ap, sFor_ap, sApp_ap, sParN_ap, sParNK_ap, sVia_ap, eCall_ap, eCallV_ap, val_d, val_o, fin_rt, fin_rtO, fin_nx, DL.start, List.map_cons, List.map_nil, List.length_cons, List.length_nil, List.replicate, List.cons_append, List.nil_append, List.getElem?_cons_zero, List.getElem?_cons_succ, List.set_cons_zero, List.set_cons_succ, wipeG, Nat.reduceSub, Nat.reduceAdd, Nat.reduceLT, Nat.reduceLeDiff, if_true, if_false, Bool.not_true, Bool.not_false, Option.bind_some, Option.map_some, this, hn]
/-- rows as the law lays them -/
def tI (r : List Int) : D := .tup (r.map .int)
def Cl (m : Nat) (r : List Int) : Prop := (∀ l ∈ r, 1 ≤ l.natAbs ∧ l.natAbs ≤ m) ∧ r.Pairwise (fun a b => a.natAbs < b.natAbs)
structure Valid (b : Nat) (rows : List (List Int)) : Prop where
  cl : ∀ k r, rows[k]? = some r → Cl (b + k) r ∧ r.length ≠ 1
  nd : rows.Nodup
  sz : ∀ r ∈ rows, r.length ≤ 3
  rs : rows.length ≤ 9
theorem good_tI (r : List Int) (h : r.length ≤ 1000) : goodD (tI r) := by
  refine ⟨?_, by simpa using h⟩
  intro d hd; simp at hd; obtain ⟨i, _, rfl⟩ := hd; rfl
theorem ascD_of (r : List Int) (h : r.Pairwise (fun a b => a.natAbs < b.natAbs)) : ascD (r.map .int) = true := by
  unfold ascD
  rw [List.all_eq_true]
  intro k hk
  rw [List.mem_range] at hk
  simp at hk
  have h1 : r[k]? = some r[k] := List.getElem?_eq_getElem (by omega)
  have h2 : r[k + 1]? = some r[k + 1] := List.getElem?_eq_getElem (by omega)
  have := List.pairwise_iff_getElem.mp h k (k + 1) (by omega) (by omega) (by omega)
  simp [h1, h2, absD]; exact this
theorem clD_tI {m : Nat} {r : List Int} (h : Cl m r) : clD m (tI r) = true := by
  simp only [clD, tI, ascD_of r h.2, Bool.and_true, List.all_map, List.all_eq_true]
  intro l hl
  have := h.1 l hl
  simp [inB]; omega
theorem rowsD_valid {b : Nat} {rows : List (List Int)} (v : Valid b rows) : rowsD b (rows.map tI) = true := by
  unfold rowsD
  rw [List.all_eq_true]
  rintro ⟨d, k⟩ hp
  rw [List.mem_zipIdx_iff_getElem?] at hp
  simp only [List.getElem?_map, Option.map_eq_some_iff] at hp
  obtain ⟨r, hr, rfl⟩ := hp
  have h := v.cl k r hr
  have := clD_tI h.1
  simp only [Int.natCast_add] at this
  have h2 := h.2
  simp only [lenD, tI, List.length_map]
  simp
  exact ⟨this, fun c => h2 (by exact_mod_cast c)⟩
theorem ddup_le (l : List (List Int)) : (ddup l).length ≤ l.length := by
  induction l with
  | nil => exact Nat.le_refl _
  | cons x l ih =>
    simp only [ddup, List.length_cons]; split
    · omega
    · rw [List.length_cons]; omega
theorem mem_ddup (l : List (List Int)) (x) : x ∈ ddup l ↔ x ∈ l := by
  induction l with
  | nil => exact Iff.rfl
  | cons y l ih =>
    simp only [ddup]; split
    · rename_i h; rw [ih, List.mem_cons]
      constructor
      · exact Or.inr
      · rintro (rfl | h2)
        · exact ih.mp h
        · exact h2
    · simp only [List.mem_cons, ih]
theorem ddup_nd (l : List (List Int)) (h : l.Nodup) : ddup l = l := by
  induction l with
  | nil => rfl
  | cons x l ih =>
    rw [List.nodup_cons] at h
    simp only [ddup, ih h.2, if_neg h.1]
theorem ddup_eq (l : List (List Int)) (h : (ddup l).length = l.length) : l.Nodup := by
  induction l with
  | nil => exact List.nodup_nil
  | cons x l ih =>
    have := ddup_le l
    simp only [ddup] at h
    split at h
    · simp at h; omega
    · rename_i hx
      rw [mem_ddup] at hx
      rw [List.nodup_cons]; exact ⟨hx, ih (by simpa using h)⟩
theorem lenSet_rows (rows : List (List Int)) (h : rows.length < 64) : dLenSet (.tup (rows.map tI)) = some (.int (ddup rows).length) := by
  have : (rows.map tI).mapM asInts = some rows := by
    clear h
    induction rows with
    | nil => rfl
    | cons r rows ih =>
      have h1 : (r.map D.int).mapM asInt = some r := by simpa using mapM_int r id
      simp only [List.map_cons, List.mapM_cons, ih, asInts, tI, h1]; rfl
  simp only [dLenSet, this, Option.bind_some, if_pos h]
theorem is_gates_valid {b : Nat} {rows : List (List Int)} (v : Valid b rows) (hb : b ≤ 4) :
    f_is_gates [.tup [.str "gates", .int b, .tup (rows.map tI)]] = some (.d (.bl true)) := by
  have hr := v.rs
  have hg : ∀ d ∈ rows.map tI, goodD d := by
    intro d hd; rw [List.mem_map] at hd; obtain ⟨r, h, rfl⟩ := hd
    exact good_tI r (by have := v.sz r h; omega)
  rw [is_gates_yes b _ (by omega) (by omega) (by simp; omega) hg (rowsD_valid v) _ (lenSet_rows rows (by omega)), ddup_nd _ v.nd]
  simp
/-- the rows, one more behind -/
theorem is_gates_more {b : Nat} {rows : List (List Int)} (v : Valid b rows) (hb : b ≤ 4) (d : D) (hg : goodD d)
    (h : (clD ((b : Int) + rows.length) d && !(((lenD d : Nat) : Int) == 1)) = false ∨ ∃ r ∈ rows, d = tI r) :
    f_is_gates [.tup [.str "gates", .int b, .tup (rows.map tI ++ [d])]] = some (.d (.bl false)) := by
  have hr := v.rs
  have hg : ∀ d' ∈ rows.map tI ++ [d], goodD d' := by
    intro d' hd; rw [List.mem_append, List.mem_map] at hd
    rcases hd with ⟨r, h, rfl⟩ | hd
    · exact good_tI r (by have := v.sz r h; omega)
    · simp at hd; rw [hd]; exact hg
  cases hc : rowsD b (rows.map tI ++ [d]) with
  | false => exact is_gates_no b _ (by omega) (by omega) (by simp; omega) hg hc
  | true =>
    rcases h with h | ⟨r, hr2, rfl⟩
    · exfalso
      unfold rowsD at hc
      rw [List.zipIdx_append, List.all_append] at hc
      simp only [List.zipIdx_cons, List.zipIdx_nil, List.all_cons, List.all_nil, List.length_map, Nat.zero_add, h, Bool.false_and, Bool.and_false, Bool.false_eq_true] at hc
    · have e : rows.map tI ++ [tI r] = (rows ++ [r]).map tI := by simp
      rw [e] at hg hc ⊢
      rw [is_gates_yes b _ (by omega) (by omega) (by simp; omega) hg hc _ (lenSet_rows (rows ++ [r]) (by simp; omega))]
      have : ((ddup (rows ++ [r])).length : Int) ≠ (((rows ++ [r]).map tI).length : Int) := by
        intro e2
        have e3 := ddup_eq (rows ++ [r]) (by rw [List.length_map] at e2; exact_mod_cast e2)
        rw [List.nodup_append] at e3
        exact e3.2.2 r hr2 r (by simp) rfl
      rw [beq_false_of_ne this]
end Gk00
end
/-! T2 -/
section
set_option linter.all false
namespace Gk00
open PySem DL DM

inductive Sm : Nat → D → Prop
  | non (n) : Sm n .non
  | bl (n b) : Sm n (.bl b)
  | int (n i) : Sm n (.int i)
  | str (n s) : Sm n (.str s)
  | tup (n ds) (h : ∀ d ∈ ds, Sm n d) (hl : ds.length ≤ lim) : Sm (n + 1) (.tup ds)
  | lst (n ds) (h : ∀ d ∈ ds, Sm n d) (hl : ds.length ≤ lim) : Sm (n + 1) (.lst ds)
theorem isNonD_n : isNonD .non = true := rfl
theorem isNonD_b (b : Bool) : isNonD (.bl b) = false := rfl
theorem isNonD_i (b : Int) : isNonD (.int b) = false := rfl
theorem isNonD_s (b : Str) : isNonD (.str b) = false := rfl
theorem isNonD_t (b : List D) : isNonD (.tup b) = false := rfl
theorem isNonD_l (b : List D) : isNonD (.lst b) = false := rfl
theorem lim_rng (n : Nat) (h : n ≤ lim) : -(2 ^ 62) ≤ (n : Int) ∧ (n : Int) < 2 ^ 62 := by
  have h1 : n ≤ 16777216 := h
  omega
theorem strictly_loop (k : Nat) (d : D) (ds : List D) (hd : d = .tup ds ∨ d = .lst ds) (ih : ∀ x ∈ ds, f__law_strictly k [x, x] = some (.d (.bl true))) (s : Slot) (P : Out → Prop)
    (hP : ∀ s, P (.nx [.dat d, .dat d, s])) :
    Ob (forGo (gN 2) (sIf (tNot (tV (eCall (f__law_strictly k) (aC (e2 dIx (eV 0) (eV 2)) (aC (e2 dIx (eV 1) (eV 2)) aN))))) (sRet (eC (.bl false))) sNext)
      ((List.range ds.length).map fun k => D.int ((k : Nat) : Int)) [.dat d, .dat d, s]) P := by
  refine ob_for (fun k : Nat => D.int (k : Int)) (fun _ g => ∃ s, g = [.dat d, .dat d, s]) ⟨s, rfl⟩ ?_ ?_
  · rintro pre x post g e ⟨s, rfl⟩
    have hx : x < ds.length := by
      have : x ∈ List.range ds.length := by rw [e]; simp
      simpa using this
    have h1 : ds[x]? = some ds[x] := List.getElem?_eq_getElem hx
    have a1 := atD_of ds (x : Int) ds[x] (by omega) (by simpa using h1)
    rcases hd with rfl | rfl
    · simp -implicitDefEqProofs only [ob_some, ob_bind, ob_map, eC_ap, eN_ap, eV_ap, slotN_dat, slotV_dat, slotV_own, slotV_odc, e1_ap, e2_ap, n2_ap, nLen_ap, aN_ap, aC_ap, eApp_ap, eTup_ap, nLst_ap, mkTup_0, mkTup_1, mkTup_2, mkTup_3, mkTup_4, mkLst_0, eL_ap, tV_ap, asBl_bl, tU_ap, ifB_t, ifB_f, tAnd_ap, tOr_ap, tNot_ap, tYes_ap, eIf_ap, ifD_bl, eAnd_ap, eOr_ap, notD_bl, eNot_ap, eChain_ap, dAdd_i, dSub_i, dNeg_i, dLt_i, dLe_i, dGt_i, dGe_i, dIsN2_n, dNotB_b, dEq_i, dNe_i, dEq_b, dNe_b, dEq_s, dNe_s, dLen_l, dLen_t, dLen_s, dTupOf_l, dTupOf_t, nLstOf_l, nLstOf_t, dAbs_i, itemsD_l, itemsD_t, iSeq_ap, iSeqL_ap', seqL_l, iRng1_ap, iRng2_ap, iDown_ap, iEnum_ap, iZip_ap, zip2_l, isi_ap, isTy_int_non, isTy_int_bl, isTy_int_int, isTy_int_str, isTy_int_lst, isTy_int_tup, isTy_int_dct, isTy_bool_non, isTy_bool_bl, isTy_bool_int, isTy_bool_str, isTy_bool_lst, isTy_bool_tup, isTy_bool_dct, isTy_str_non, isTy_str_bl, isTy_str_int, isTy_str_str, isTy_str_lst, isTy_str_tup, isTy_str_dct, isTy_tuple_non, isTy_tuple_bl, isTy_tuple_int, isTy_tuple_str, isTy_tuple_lst, isTy_tuple_tup, isTy_tuple_dct, isTy_list_non, isTy_list_bl, isTy_list_int, isTy_list_str, isTy_list_lst, isTy_list_tup, isTy_list_dct, isTy_dict_non, isTy_dict_bl, isTy_dict_int, isTy_dict_str, isTy_dict_lst, isTy_dict_tup, isTy_dict_dct, dIx_l, dIx_t, nLc_ap, gN_ap, goOn_nx, goOn_rt, goOn_rtO, sSeq_ap, sNext_ap, sSet_ap, sOwn_ap, sTgt_ap, sRet_ap, retO_own, sRetO_ap, sIf_ap, sDrop_ap, sFor_ap, sApp_ap, sParN_ap, sParNK_ap, sVia_ap, eCall_ap, eCallV_ap, val_d, val_o, fin_rt, fin_rtO, fin_nx, DL.start, List.map_cons, List.map_nil, List.length_cons, List.length_nil, List.replicate, List.cons_append, List.nil_append, List.getElem?_cons_zero, List.getElem?_cons_succ, List.set_cons_zero, List.set_cons_succ, wipeG, Nat.reduceSub, Nat.reduceAdd, Nat.reduceLT, Nat.reduceLeDiff, if_true, if_false, Bool.not_true, Bool.not_false, Option.bind_some, Option.map_some, a1, ih _ (List.getElem_mem hx)]
      exact ⟨_, rfl, _, rfl⟩
    · simp -implicitDefEqProofs only [ob_some, ob_bind, ob_map, eC_ap, eN_ap, eV_ap, slotN_dat, slotV_dat, slotV_own, slotV_odc, e1_ap, e2_ap, n2_ap, nLen_ap, aN_ap, aC_ap, eApp_ap, eTup_ap, nLst_ap, mkTup_0, mkTup_1, mkTup_2, mkTup_3, mkTup_4, mkLst_0, eL_ap, tV_ap, asBl_bl, tU_ap, ifB_t, ifB_f, tAnd_ap, tOr_ap, tNot_ap, tYes_ap, eIf_ap, ifD_bl, eAnd_ap, eOr_ap, notD_bl, eNot_ap, eChain_ap, dAdd_i, dSub_i, dNeg_i, dLt_i, dLe_i, dGt_i, dGe_i, dIsN2_n, dNotB_b, dEq_i, dNe_i, dEq_b, dNe_b, dEq_s, dNe_s, dLen_l, dLen_t, dLen_s, dTupOf_l, dTupOf_t, nLstOf_l, nLstOf_t, dAbs_i, itemsD_l, itemsD_t, iSeq_ap, iSeqL_ap', seqL_l, iRng1_ap, iRng2_ap, iDown_ap, iEnum_ap, iZip_ap, zip2_l, isi_ap, isTy_int_non, isTy_int_bl, isTy_int_int, isTy_int_str, isTy_int_lst, isTy_int_tup, isTy_int_dct, isTy_bool_non, isTy_bool_bl, isTy_bool_int, isTy_bool_str, isTy_bool_lst, isTy_bool_tup, isTy_bool_dct, isTy_str_non, isTy_str_bl, isTy_str_int, isTy_str_str, isTy_str_lst, isTy_str_tup, isTy_str_dct, isTy_tuple_non, isTy_tuple_bl, isTy_tuple_int, isTy_tuple_str, isTy_tuple_lst, isTy_tuple_tup, isTy_tuple_dct, isTy_list_non, isTy_list_bl, isTy_list_int, isTy_list_str, isTy_list_lst, isTy_list_tup, isTy_list_dct, isTy_dict_non, isTy_dict_bl, isTy_dict_int, isTy_dict_str, isTy_dict_lst, isTy_dict_tup, isTy_dict_dct, dIx_l, dIx_t, nLc_ap, gN_ap, goOn_nx, goOn_rt, goOn_rtO, sSeq_ap, sNext_ap, sSet_ap, sOwn_ap, sTgt_ap, sRet_ap, retO_own, sRetO_ap, sIf_ap, sDrop_ap, sFor_ap, sApp_ap, sParN_ap, sParNK_ap, sVia_ap, eCall_ap, eCallV_ap, val_d, val_o, fin_rt, fin_rtO, fin_nx, DL.start, List.map_cons, List.map_nil, List.length_cons, List.length_nil, List.replicate, List.cons_append, List.nil_append, List.getElem?_cons_zero, List.getElem?_cons_succ, List.set_cons_zero, List.set_cons_succ, wipeG, Nat.reduceSub, Nat.reduceAdd, Nat.reduceLT, Nat.reduceLeDiff, if_true, if_false, Bool.not_true, Bool.not_false, Option.bind_some, Option.map_some, a1, ih _ (List.getElem_mem hx)]
      exact ⟨_, rfl, _, rfl⟩
  · rintro g ⟨s, rfl⟩; exact hP s
set_option maxRecDepth 20000 in
theorem strictly_refl (n : Nat) (d : D) (h : Sm n d) : ∀ m, n < m → f__law_strictly m [d, d] = some (.d (.bl true)) := by
  induction h with
  | non n =>
    intro m hm
    obtain ⟨k, rfl⟩ : ∃ k, m = k + 1 := ⟨m - 1, by omega⟩
    apply of_fn rfl; unfold s__law_strictly
    simp -implicitDefEqProofs only [ob_some, ob_bind, ob_map, eC_ap, eN_ap, eV_ap, slotN_dat, slotV_dat, slotV_own, slotV_odc, e1_ap, e2_ap, n2_ap, nLen_ap, aN_ap, aC_ap, eApp_ap, eTup_ap, nLst_ap, mkTup_0, mkTup_1, mkTup_2, mkTup_3, mkTup_4, mkLst_0, eL_ap, tV_ap, asBl_bl, tU_ap, ifB_t, ifB_f, tAnd_ap, tOr_ap, tNot_ap, tYes_ap, eIf_ap, ifD_bl, eAnd_ap, eOr_ap, notD_bl, eNot_ap, eChain_ap, dAdd_i, dSub_i, dNeg_i, dLt_i, dLe_i, dGt_i, dGe_i, dIsN2_n, dNotB_b, dEq_i, dNe_i, dEq_b, dNe_b, dEq_s, dNe_s, dLen_l, dLen_t, dLen_s, dTupOf_l, dTupOf_t, nLstOf_l, nLstOf_t, dAbs_i, itemsD_l, itemsD_t, iSeq_ap, iSeqL_ap', seqL_l, iRng1_ap, iRng2_ap, iDown_ap, iEnum_ap, iZip_ap, zip2_l, isi_ap, isTy_int_non, isTy_int_bl, isTy_int_int, isTy_int_str, isTy_int_lst, isTy_int_tup, isTy_int_dct, isTy_bool_non, isTy_bool_bl, isTy_bool_int, isTy_bool_str, isTy_bool_lst, isTy_bool_tup, isTy_bool_dct, isTy_str_non, isTy_str_bl, isTy_str_int, isTy_str_str, isTy_str_lst, isTy_str_tup, isTy_str_dct, isTy_tuple_non, isTy_tuple_bl, isTy_tuple_int, isTy_tuple_str, isTy_tuple_lst, isTy_tuple_tup, isTy_tuple_dct, isTy_list_non, isTy_list_bl, isTy_list_int, isTy_list_str, isTy_list_lst, isTy_list_tup, isTy_list_dct, isTy_dict_non, isTy_dict_bl, isTy_dict_int, isTy_dict_str, isTy_dict_lst, isTy_dict_tup, isTy_dict_dct, dIx_l, dIx_t, nLc_ap, gN_ap, goOn_nx, goOn_rt, goOn_rtO, sSeq_ap, sNext_ap, sSet_ap, sOwn_ap, sTgt_ap, sRet_ap, retO_own, sRetO_ap, sIf_ap, sDrop_ap, sFor_ap, sApp_ap, sParN_ap, sParNK_ap, sVia_ap, eCall_ap, eCallV_ap, val_d, val_o, fin_rt, fin_rtO, fin_nx, DL.start, List.map_cons, List.map_nil, List.length_cons, List.length_nil, List.replicate, List.cons_append, List.nil_append, List.getElem?_cons_zero, List.getElem?_cons_succ, List.set_cons_zero, List.set_cons_succ, wipeG, Nat.reduceSub, Nat.reduceAdd, Nat.reduceLT, Nat.reduceLeDiff, if_true, if_false, Bool.not_true, Bool.not_false, Option.bind_some, Option.map_some, isNonD_n]
  | bl n b =>
    intro m hm
    obtain ⟨k, rfl⟩ : ∃ k, m = k + 1 := ⟨m - 1, by omega⟩
    apply of_fn rfl; unfold s__law_strictly
    simp -implicitDefEqProofs only [ob_some, ob_bind, ob_map, eC_ap, eN_ap, eV_ap, slotN_dat, slotV_dat, slotV_own, slotV_odc, e1_ap, e2_ap, n2_ap, nLen_ap, aN_ap, aC_ap, eApp_ap, eTup_ap, nLst_ap, mkTup_0, mkTup_1, mkTup_2, mkTup_3, mkTup_4, mkLst_0, eL_ap, tV_ap, asBl_bl, tU_ap, ifB_t, ifB_f, tAnd_ap, tOr_ap, tNot_ap, tYes_ap, eIf_ap, ifD_bl, eAnd_ap, eOr_ap, notD_bl, eNot_ap, eChain_ap, dAdd_i, dSub_i, dNeg_i, dLt_i, dLe_i, dGt_i, dGe_i, dIsN2_n, dNotB_b, dEq_i, dNe_i, dEq_b, dNe_b, dEq_s, dNe_s, dLen_l, dLen_t, dLen_s, dTupOf_l, dTupOf_t, nLstOf_l, nLstOf_t, dAbs_i, itemsD_l, itemsD_t, iSeq_ap, iSeqL_ap', seqL_l, iRng1_ap, iRng2_ap, iDown_ap, iEnum_ap, iZip_ap, zip2_l, isi_ap, isTy_int_non, isTy_int_bl, isTy_int_int, isTy_int_str, isTy_int_lst, isTy_int_tup, isTy_int_dct, isTy_bool_non, isTy_bool_bl, isTy_bool_int, isTy_bool_str, isTy_bool_lst, isTy_bool_tup, isTy_bool_dct, isTy_str_non, isTy_str_bl, isTy_str_int, isTy_str_str, isTy_str_lst, isTy_str_tup, isTy_str_dct, isTy_tuple_non, isTy_tuple_bl, isTy_tuple_int, isTy_tuple_str, isTy_tuple_lst, isTy_tuple_tup, isTy_tuple_dct, isTy_list_non, isTy_list_bl, isTy_list_int, isTy_list_str, isTy_list_lst, isTy_list_tup, isTy_list_dct, isTy_dict_non, isTy_dict_bl, isTy_dict_int, isTy_dict_str, isTy_dict_lst, isTy_dict_tup, isTy_dict_dct, dIx_l, dIx_t, nLc_ap, gN_ap, goOn_nx, goOn_rt, goOn_rtO, sSeq_ap, sNext_ap, sSet_ap, sOwn_ap, sTgt_ap, sRet_ap, retO_own, sRetO_ap, sIf_ap, sDrop_ap, sFor_ap, sApp_ap, sParN_ap, sParNK_ap, sVia_ap, eCall_ap, eCallV_ap, val_d, val_o, fin_rt, fin_rtO, fin_nx, DL.start, List.map_cons, List.map_nil, List.length_cons, List.length_nil, List.replicate, List.cons_append, List.nil_append, List.getElem?_cons_zero, List.getElem?_cons_succ, List.set_cons_zero, List.set_cons_succ, wipeG, Nat.reduceSub, Nat.reduceAdd, Nat.reduceLT, Nat.reduceLeDiff, if_true, if_false, Bool.not_true, Bool.not_false, Option.bind_some, Option.map_some, isNonD_b, beq_self_eq_true]
  | int n i =>
    intro m hm
    obtain ⟨k, rfl⟩ : ∃ k, m = k + 1 := ⟨m - 1, by omega⟩
    apply of_fn rfl; unfold s__law_strictly
    simp -implicitDefEqProofs only [ob_some, ob_bind, ob_map, eC_ap, eN_ap, eV_ap, slotN_dat, slotV_dat, slotV_own, slotV_odc, e1_ap, e2_ap, n2_ap, nLen_ap, aN_ap, aC_ap, eApp_ap, eTup_ap, nLst_ap, mkTup_0, mkTup_1, mkTup_2, mkTup_3, mkTup_4, mkLst_0, eL_ap, tV_ap, asBl_bl, tU_ap, ifB_t, ifB_f, tAnd_ap, tOr_ap, tNot_ap, tYes_ap, eIf_ap, ifD_bl, eAnd_ap, eOr_ap, notD_bl, eNot_ap, eChain_ap, dAdd_i, dSub_i, dNeg_i, dLt_i, dLe_i, dGt_i, dGe_i, dIsN2_n, dNotB_b, dEq_i, dNe_i, dEq_b, dNe_b, dEq_s, dNe_s, dLen_l, dLen_t, dLen_s, dTupOf_l, dTupOf_t, nLstOf_l, nLstOf_t, dAbs_i, itemsD_l, itemsD_t, iSeq_ap, iSeqL_ap', seqL_l, iRng1_ap, iRng2_ap, iDown_ap, iEnum_ap, iZip_ap, zip2_l, isi_ap, isTy_int_non, isTy_int_bl, isTy_int_int, isTy_int_str, isTy_int_lst, isTy_int_tup, isTy_int_dct, isTy_bool_non, isTy_bool_bl, isTy_bool_int, isTy_bool_str, isTy_bool_lst, isTy_bool_tup, isTy_bool_dct, isTy_str_non, isTy_str_bl, isTy_str_int, isTy_str_str, isTy_str_lst, isTy_str_tup, isTy_str_dct, isTy_tuple_non, isTy_tuple_bl, isTy_tuple_int, isTy_tuple_str, isTy_tuple_lst, isTy_tuple_tup, isTy_tuple_dct, isTy_list_non, isTy_list_bl, isTy_list_int, isTy_list_str, isTy_list_lst, isTy_list_tup, isTy_list_dct, isTy_dict_non, isTy_dict_bl, isTy_dict_int, isTy_dict_str, isTy_dict_lst, isTy_dict_tup, isTy_dict_dct, dIx_l, dIx_t, nLc_ap, gN_ap, goOn_nx, goOn_rt, goOn_rtO, sSeq_ap, sNext_ap, sSet_ap, sOwn_ap, sTgt_ap, sRet_ap, retO_own, sRetO_ap, sIf_ap, sDrop_ap, sFor_ap, sApp_ap, sParN_ap, sParNK_ap, sVia_ap, eCall_ap, eCallV_ap, val_d, val_o, fin_rt, fin_rtO, fin_nx, DL.start, List.map_cons, List.map_nil, List.length_cons, List.length_nil, List.replicate, List.cons_append, List.nil_append, List.getElem?_cons_zero, List.getElem?_cons_succ, List.set_cons_zero, List.set_cons_succ, wipeG, Nat.reduceSub, Nat.reduceAdd, Nat.reduceLT, Nat.reduceLeDiff, if_true, if_false, Bool.not_true, Bool.not_false, Option.bind_some, Option.map_some, isNonD_i, beq_self_eq_true]
  | str n i =>
    intro m hm
    obtain ⟨k, rfl⟩ : ∃ k, m = k + 1 := ⟨m - 1, by omega⟩
    apply of_fn rfl; unfold s__law_strictly
    simp -implicitDefEqProofs only [ob_some, ob_bind, ob_map, eC_ap, eN_ap, eV_ap, slotN_dat, slotV_dat, slotV_own, slotV_odc, e1_ap, e2_ap, n2_ap, nLen_ap, aN_ap, aC_ap, eApp_ap, eTup_ap, nLst_ap, mkTup_0, mkTup_1, mkTup_2, mkTup_3, mkTup_4, mkLst_0, eL_ap, tV_ap, asBl_bl, tU_ap, ifB_t, ifB_f, tAnd_ap, tOr_ap, tNot_ap, tYes_ap, eIf_ap, ifD_bl, eAnd_ap, eOr_ap, notD_bl, eNot_ap, eChain_ap, dAdd_i, dSub_i, dNeg_i, dLt_i, dLe_i, dGt_i, dGe_i, dIsN2_n, dNotB_b, dEq_i, dNe_i, dEq_b, dNe_b, dEq_s, dNe_s, dLen_l, dLen_t, dLen_s, dTupOf_l, dTupOf_t, nLstOf_l, nLstOf_t, dAbs_i, itemsD_l, itemsD_t, iSeq_ap, iSeqL_ap', seqL_l, iRng1_ap, iRng2_ap, iDown_ap, iEnum_ap, iZip_ap, zip2_l, isi_ap, isTy_int_non, isTy_int_bl, isTy_int_int, isTy_int_str, isTy_int_lst, isTy_int_tup, isTy_int_dct, isTy_bool_non, isTy_bool_bl, isTy_bool_int, isTy_bool_str, isTy_bool_lst, isTy_bool_tup, isTy_bool_dct, isTy_str_non, isTy_str_bl, isTy_str_int, isTy_str_str, isTy_str_lst, isTy_str_tup, isTy_str_dct, isTy_tuple_non, isTy_tuple_bl, isTy_tuple_int, isTy_tuple_str, isTy_tuple_lst, isTy_tuple_tup, isTy_tuple_dct, isTy_list_non, isTy_list_bl, isTy_list_int, isTy_list_str, isTy_list_lst, isTy_list_tup, isTy_list_dct, isTy_dict_non, isTy_dict_bl, isTy_dict_int, isTy_dict_str, isTy_dict_lst, isTy_dict_tup, isTy_dict_dct, dIx_l, dIx_t, nLc_ap, gN_ap, goOn_nx, goOn_rt, goOn_rtO, sSeq_ap, sNext_ap, sSet_ap, sOwn_ap, sTgt_ap, sRet_ap, retO_own, sRetO_ap, sIf_ap, sDrop_ap, sFor_ap, sApp_ap, sParN_ap, sParNK_ap, sVia_ap, eCall_ap, eCallV_ap, val_d, val_o, fin_rt, fin_rtO, fin_nx, DL.start, List.map_cons, List.map_nil, List.length_cons, List.length_nil, List.replicate, List.cons_append, List.nil_append, List.getElem?_cons_zero, List.getElem?_cons_succ, List.set_cons_zero, List.set_cons_succ, wipeG, Nat.reduceSub, Nat.reduceAdd, Nat.reduceLT, Nat.reduceLeDiff, if_true, if_false, Bool.not_true, Bool.not_false, Option.bind_some, Option.map_some, isNonD_s, beq_self_eq_true]
  | tup n ds h hl ih =>
    intro m hm
    obtain ⟨k, rfl⟩ : ∃ k, m = k + 1 := ⟨m - 1, by omega⟩
    apply of_fn rfl; unfold s__law_strictly
    have hz := lim_rng _ hl
    simp -implicitDefEqProofs only [ob_some, ob_bind, ob_map, eC_ap, eN_ap, eV_ap, slotN_dat, slotV_dat, slotV_own, slotV_odc, e1_ap, e2_ap, n2_ap, nLen_ap, aN_ap, aC_ap, eApp_ap, eTup_ap, nLst_ap, mkTup_0, mkTup_1, mkTup_2, mkTup_3, mkTup_4, mkLst_0, eL_ap, tV_ap, asBl_bl, tU_ap, ifB_t, ifB_f, tAnd_ap, tOr_ap, tNot_ap, tYes_ap, eIf_ap, ifD_bl, eAnd_ap, eOr_ap, notD_bl, eNot_ap, eChain_ap, dAdd_i, dSub_i, dNeg_i, dLt_i, dLe_i, dGt_i, dGe_i, dIsN2_n, dNotB_b, dEq_i, dNe_i, dEq_b, dNe_b, dEq_s, dNe_s, dLen_l, dLen_t, dLen_s, dTupOf_l, dTupOf_t, nLstOf_l, nLstOf_t, dAbs_i, itemsD_l, itemsD_t, iSeq_ap, iSeqL_ap', seqL_l, iRng1_ap, iRng2_ap, iDown_ap, iEnum_ap, iZip_ap, zip2_l, isi_ap, isTy_int_non, isTy_int_bl, isTy_int_int, isTy_int_str, isTy_int_lst, isTy_int_tup, isTy_int_dct, isTy_bool_non, isTy_bool_bl, isTy_bool_int, isTy_bool_str, isTy_bool_lst, isTy_bool_tup, isTy_bool_dct, isTy_str_non, isTy_str_bl, isTy_str_int, isTy_str_str, isTy_str_lst, isTy_str_tup, isTy_str_dct, isTy_tuple_non, isTy_tuple_bl, isTy_tuple_int, isTy_tuple_str, isTy_tuple_lst, isTy_tuple_tup, isTy_tuple_dct, isTy_list_non, isTy_list_bl, isTy_list_int, isTy_list_str, isTy_list_lst, isTy_list_tup, isTy_list_dct, isTy_dict_non, isTy_dict_bl, isTy_dict_int, isTy_dict_str, isTy_dict_lst, isTy_dict_tup, isTy_dict_dct, dIx_l, dIx_t, nLc_ap, gN_ap, goOn_nx, goOn_rt, goOn_rtO, sSeq_ap, sNext_ap, sSet_ap, sOwn_ap, sTgt_ap, sRet_ap, retO_own, sRetO_ap, sIf_ap, sDrop_ap, sFor_ap, sApp_ap, sParN_ap, sParNK_ap, sVia_ap, eCall_ap, eCallV_ap, val_d, val_o, fin_rt, fin_rtO, fin_nx, DL.start, List.map_cons, List.map_nil, List.length_cons, List.length_nil, List.replicate, List.cons_append, List.nil_append, List.getElem?_cons_zero, List.getElem?_cons_succ, List.set_cons_zero, List.set_cons_succ, wipeG, Nat.reduceSub, Nat.reduceAdd, Nat.reduceLT, Nat.reduceLeDiff, if_true, if_false, Bool.not_true, Bool.not_false, Option.bind_some, Option.map_some, isNonD_t, beq_self_eq_true, rng1_i _ hz, Int.toNat_natCast]
    refine strictly_loop k _ ds (Or.inl rfl) (fun x hx => ih x hx k (by omega)) _ _ fun s => ?_
    simp -implicitDefEqProofs only [ob_some, ob_bind, ob_map, eC_ap, eN_ap, eV_ap, slotN_dat, slotV_dat, slotV_own, slotV_odc, e1_ap, e2_ap, n2_ap, nLen_ap, aN_ap, aC_ap, eApp_ap, eTup_ap, nLst_ap, mkTup_0, mkTup_1, mkTup_2, mkTup_3, mkTup_4, mkLst_0, eL_ap, tV_ap, asBl_bl, tU_ap, ifB_t, ifB_f, tAnd_ap, tOr_ap, tNot_ap, tYes_ap, eIf_ap, ifD_bl, eAnd_ap, eOr_ap, notD_bl, eNot_ap, eChain_ap, dAdd_i, dSub_i, dNeg_i, dLt_i, dLe_i, dGt_i, dGe_i, dIsN2_n, dNotB_b, dEq_i, dNe_i, dEq_b, dNe_b, dEq_s, dNe_s, dLen_l, dLen_t, dLen_s, dTupOf_l, dTupOf_t, nLstOf_l, nLstOf_t, dAbs_i, itemsD_l, itemsD_t, iSeq_ap, iSeqL_ap', seqL_l, iRng1_ap, iRng2_ap, iDown_ap, iEnum_ap, iZip_ap, zip2_l, isi_ap, isTy_int_non, isTy_int_bl, isTy_int_int, isTy_int_str, isTy_int_lst, isTy_int_tup, isTy_int_dct, isTy_bool_non, isTy_bool_bl, isTy_bool_int, isTy_bool_str, isTy_bool_lst, isTy_bool_tup, isTy_bool_dct, isTy_str_non, isTy_str_bl, isTy_str_int, isTy_str_str, isTy_str_lst, isTy_str_tup, isTy_str_dct, isTy_tuple_non, isTy_tuple_bl, isTy_tuple_int, isTy_tuple_str, isTy_tuple_lst, isTy_tuple_tup, isTy_tuple_dct, isTy_list_non, isTy_list_bl, isTy_list_int, isTy_list_str, isTy_list_lst, isTy_list_tup, isTy_list_dct, isTy_dict_non, isTy_dict_bl, isTy_dict_int, isTy_dict_str, isTy_dict_lst, isTy_dict_tup, isTy_dict_dct, dIx_l, dIx_t, nLc_ap, gN_ap, goOn_nx, goOn_rt, goOn_rtO, sSeq_ap, sNext_ap, sSet_ap, sOwn_ap, sTgt_ap, sRet_ap, retO_own, sRetO_ap, sIf_ap, sDrop_ap, sFor_ap, sApp_ap, sParN_ap, sParNK_ap, sVia_ap, eCall_ap, eCallV_ap, val_d, val_o, fin_rt, fin_rtO, fin_nx, DL.start, List.map_cons, List.map_nil, List.length_cons, List.length_nil, List.replicate, List.cons_append, List.nil_append, List.getElem?_cons_zero, List.getElem?_cons_succ, List.set_cons_zero, List.set_cons_succ, wipeG, Nat.reduceSub, Nat.reduceAdd, Nat.reduceLT, Nat.reduceLeDiff, if_true, if_false, Bool.not_true, Bool.not_false, Option.bind_some, Option.map_some]
  | lst n ds h hl ih =>
    intro m hm
    obtain ⟨k, rfl⟩ : ∃ k, m = k + 1 := ⟨m - 1, by omega⟩
    apply of_fn rfl; unfold s__law_strictly
    have hz := lim_rng _ hl
    simp -implicitDefEqProofs only [ob_some, ob_bind, ob_map, eC_ap, eN_ap, eV_ap, slotN_dat, slotV_dat, slotV_own, slotV_odc, e1_ap, e2_ap, n2_ap, nLen_ap, aN_ap, aC_ap, eApp_ap, eTup_ap, nLst_ap, mkTup_0, mkTup_1, mkTup_2, mkTup_3, mkTup_4, mkLst_0, eL_ap, tV_ap, asBl_bl, tU_ap, ifB_t, ifB_f, tAnd_ap, tOr_ap, tNot_ap, tYes_ap, eIf_ap, ifD_bl, eAnd_ap, eOr_ap, notD_bl, eNot_ap, eChain_ap, dAdd_i, dSub_i, dNeg_i, dLt_i, dLe_i, dGt_i, dGe_i, dIsN2_n, dNotB_b, dEq_i, dNe_i, dEq_b, dNe_b, dEq_s, dNe_s, dLen_l, dLen_t, dLen_s, dTupOf_l, dTupOf_t, nLstOf_l, nLstOf_t, dAbs_i, itemsD_l, itemsD_t, iSeq_ap, iSeqL_ap', seqL_l, iRng1_ap, iRng2_ap, iDown_ap, iEnum_ap, iZip_ap, zip2_l, isi_ap, isTy_int_non, isTy_int_bl, isTy_int_int, isTy_int_str, isTy_int_lst, isTy_int_tup, isTy_int_dct, isTy_bool_non, isTy_bool_bl, isTy_bool_int, isTy_bool_str, isTy_bool_lst, isTy_bool_tup, isTy_bool_dct, isTy_str_non, isTy_str_bl, isTy_str_int, isTy_str_str, isTy_str_lst, isTy_str_tup, isTy_str_dct, isTy_tuple_non, isTy_tuple_bl, isTy_tuple_int, isTy_tuple_str, isTy_tuple_lst, isTy_tuple_tup, isTy_tuple_dct, isTy_list_non, isTy_list_bl, isTy_list_int, isTy_list_str, isTy_list_lst, isTy_list_tup, isTy_list_dct, isTy_dict_non, isTy_dict_bl, isTy_dict_int, isTy_dict_str, isTy_dict_lst, isTy_dict_tup, isTy_dict_dct, dIx_l, dIx_t, nLc_ap, gN_ap, goOn_nx, goOn_rt, goOn_rtO, sSeq_ap, sNext_ap, sSet_ap, sOwn_ap, sTgt_ap, sRet_ap, retO_own, sRetO_ap, sIf_ap, sDrop_ap, sFor_ap, sApp_ap, sParN_ap, sParNK_ap, sVia_ap, eCall_ap, eCallV_ap, val_d, val_o, fin_rt, fin_rtO, fin_nx, DL.start, List.map_cons, List.map_nil, List.length_cons, List.length_nil, List.replicate, List.cons_append, List.nil_append, List.getElem?_cons_zero, List.getElem?_cons_succ, List.set_cons_zero, List.set_cons_succ, wipeG, Nat.reduceSub, Nat.reduceAdd, Nat.reduceLT, Nat.reduceLeDiff, if_true, if_false, Bool.not_true, Bool.not_false, Option.bind_some, Option.map_some, isNonD_l, beq_self_eq_true, rng1_i _ hz, Int.toNat_natCast]
    refine strictly_loop k _ ds (Or.inr rfl) (fun x hx => ih x hx k (by omega)) _ _ fun s => ?_
    simp -implicitDefEqProofs only [ob_some, ob_bind, ob_map, eC_ap, eN_ap, eV_ap, slotN_dat, slotV_dat, slotV_own, slotV_odc, e1_ap, e2_ap, n2_ap, nLen_ap, aN_ap, aC_ap, eApp_ap, eTup_ap, nLst_ap, mkTup_0, mkTup_1, mkTup_2, mkTup_3, mkTup_4, mkLst_0, eL_ap, tV_ap, asBl_bl, tU_ap, ifB_t, ifB_f, tAnd_ap, tOr_ap, tNot_ap, tYes_ap, eIf_ap, ifD_bl, eAnd_ap, eOr_ap, notD_bl, eNot_ap, eChain_ap, dAdd_i, dSub_i, dNeg_i, dLt_i, dLe_i, dGt_i, dGe_i, dIsN2_n, dNotB_b, dEq_i, dNe_i, dEq_b, dNe_b, dEq_s, dNe_s, dLen_l, dLen_t, dLen_s, dTupOf_l, dTupOf_t, nLstOf_l, nLstOf_t, dAbs_i, itemsD_l, itemsD_t, iSeq_ap, iSeqL_ap', seqL_l, iRng1_ap, iRng2_ap, iDown_ap, iEnum_ap, iZip_ap, zip2_l, isi_ap, isTy_int_non, isTy_int_bl, isTy_int_int, isTy_int_str, isTy_int_lst, isTy_int_tup, isTy_int_dct, isTy_bool_non, isTy_bool_bl, isTy_bool_int, isTy_bool_str, isTy_bool_lst, isTy_bool_tup, isTy_bool_dct, isTy_str_non, isTy_str_bl, isTy_str_int, isTy_str_str, isTy_str_lst, isTy_str_tup, isTy_str_dct, isTy_tuple_non, isTy_tuple_bl, isTy_tuple_int, isTy_tuple_str, isTy_tuple_lst, isTy_tuple_tup, isTy_tuple_dct, isTy_list_non, isTy_list_bl, isTy_list_int, isTy_list_str, isTy_list_lst, isTy_list_tup, isTy_list_dct, isTy_dict_non, isTy_dict_bl, isTy_dict_int, isTy_dict_str, isTy_dict_lst, isTy_dict_tup, isTy_dict_dct, dIx_l, dIx_t, nLc_ap, gN_ap, goOn_nx, goOn_rt, goOn_rtO, sSeq_ap, sNext_ap, sSet_ap, sOwn_ap, sTgt_ap, sRet_ap, retO_own, sRetO_ap, sIf_ap, sDrop_ap, sFor_ap, sApp_ap, sParN_ap, sParNK_ap, sVia_ap, eCall_ap, eCallV_ap, val_d, val_o, fin_rt, fin_rtO, fin_nx, DL.start, List.map_cons, List.map_nil, List.length_cons, List.length_nil, List.replicate, List.cons_append, List.nil_append, List.getElem?_cons_zero, List.getElem?_cons_succ, List.set_cons_zero, List.set_cons_succ, wipeG, Nat.reduceSub, Nat.reduceAdd, Nat.reduceLT, Nat.reduceLeDiff, if_true, if_false, Bool.not_true, Bool.not_false, Option.bind_some, Option.map_some]
theorem strictly_i (i : Int) : f__law_strictly 6 [.int i, .int i] = some (.d (.bl true)) := strictly_refl 0 _ (.int _ _) 6 (by omega)
theorem strictly_t {α : Type} (l : List α) (f : α → D) (hf : ∀ x ∈ l, Sm 2 (f x)) (hl : l.length ≤ lim) : f__law_strictly 6 [.tup (l.map f), .tup (l.map f)] = some (.d (.bl true)) :=
  strictly_refl 3 _ (.tup _ _ (by intro d hd; rw [List.mem_map] at hd; obtain ⟨x, h, rfl⟩ := hd; exact hf x h) (by simpa using hl)) 6 (by omega)
theorem strictly_l {α : Type} (l : List α) (f : α → D) (hf : ∀ x ∈ l, Sm 2 (f x)) (hl : l.length ≤ lim) : f__law_strictly 6 [.lst (l.map f), .lst (l.map f)] = some (.d (.bl true)) :=
  strictly_refl 3 _ (.lst _ _ (by intro d hd; rw [List.mem_map] at hd; obtain ⟨x, h, rfl⟩ := hd; exact hf x h) (by simpa using hl)) 6 (by omega)
theorem isB_n (ds : List D) (b : Int) : True := trivial

/-! codes -/
def tB (c : List Bool) : D := .tup (c.map .bl)
def cds : Nat → List (List Bool)
  | 0 => [[]]
  | n + 1 => (cds n).flatMap fun c => [c ++ [false], c ++ [true]]
theorem law_codes_eq (b : Nat) (h : b = 2 ∨ b = 3 ∨ b = 4) : f__law_codes [.int b] = some (.d (.lst ((cds b).map tB))) := by
  rcases h with rfl | rfl | rfl <;> rfl
theorem codes_eq (b : Nat) (h : b = 2 ∨ b = 3 ∨ b = 4) : f_codes [.int b] = some (.d (.lst ((cds b).map tB))) := by
  rcases h with rfl | rfl | rfl <;> rfl
theorem cds_len (b : Nat) (h : b = 2 ∨ b = 3 ∨ b = 4) : (cds b).length ≤ 16 ∧ ∀ c ∈ cds b, c.length = b := by
  rcases h with rfl | rfl | rfl <;> decide
end Gk00
end
/-! T3 -/
section
set_option linter.all false
namespace Gk00
open PySem DL DM

def bents (m : Int) (r : D) : List D := [.tup [.int 1], .tup [.int 2, .int 1], .tup [.int 1, .int 1], .tup [.int 1, .int (-1)], .tup [.int 1, .int (m + 1)], .tup [.int 0, .int 1], r,
  .tup [.int 1, .bl true], .lst [.int 1, .int 2], .tup [.int 1, .int (-m - 1)], .non, .tup [.int 1, .str "2"], .tup [.int (-1)], .tup [.int 2, .int 2, .int 3]]
theorem law_bent_eq (b : Nat) (rows : List (List Int)) (dg pl : Int) (d : D) (h9 : rows.length ≤ 9) (hp : 0 ≤ pl) (hd : 0 ≤ dg) (r : List Int) (hr : rows[pl.toNat]? = some r)
    (h : (bents ((b : Int) + rows.length) (tI r))[dg.toNat]? = some d) :
    f__law_bent [.lst (rows.map tI), .int b, .int dg, .int pl] = some (.d (.tup [.str "gates", .int b, .tup (rows.map tI ++ [d])])) := by
  apply of_fn rfl
  unfold s__law_bent
  have a1 : atD (rows.map tI) pl = some (tI r) := atD_of _ _ _ hp (by simp [hr])
  have a2 := atD_of _ _ _ hd h
  simp only [bents] at a2
  have a3 : rows.length + 1 ≤ lim := by simp only [lim]; omega
  simp -implicitDefEqProofs only [ob_some, ob_bind, ob_map, eC_ap, eN_ap, eV_ap, slotN_dat, slotV_dat, slotV_own, slotV_odc, e1_ap, e2_ap, n2_ap, nLen_ap, aN_ap, aC_ap, eApp_ap, eTup_ap, nLst_ap, mkTup_0, mkTup_1, mkTup_2, mkTup_3, mkTup_4, mkLst_0, eL_ap, tV_ap, asBl_bl, tU_ap, ifB_t, ifB_f, tAnd_ap, tOr_ap, tNot_ap, tYes_ap, eIf_ap, ifD_bl, eAnd_ap, eOr_ap, notD_bl, eNot_ap, eChain_ap, dAdd_i, dSub_i, dNeg_i, dLt_i, dLe_i, dGt_i, dGe_i, dIsN2_n, dNotB_b, dEq_i, dNe_i, dEq_b, dNe_b, dEq_s, dNe_s, dLen_l, dLen_t, dLen_s, dTupOf_l, dTupOf_t, nLstOf_l, nLstOf_t, dAbs_i, itemsD_l, itemsD_t, iSeq_ap, iSeqL_ap', seqL_l, iRng1_ap, iRng2_ap, iDown_ap, iEnum_ap, iZip_ap, zip2_l, isi_ap, isTy_int_non, isTy_int_bl, isTy_int_int, isTy_int_str, isTy_int_lst, isTy_int_tup, isTy_int_dct, isTy_bool_non, isTy_bool_bl, isTy_bool_int, isTy_bool_str, isTy_bool_lst, isTy_bool_tup, isTy_bool_dct, isTy_str_non, isTy_str_bl, isTy_str_int, isTy_str_str, isTy_str_lst, isTy_str_tup, isTy_str_dct, isTy_tuple_non, isTy_tuple_bl, isTy_tuple_int, isTy_tuple_str, isTy_tuple_lst, isTy_tuple_tup, isTy_tuple_dct, isTy_list_non, isTy_list_bl, isTy_list_int, isTy_list_str, isTy_list_lst, isTy_list_tup, isTy_list_dct, isTy_dict_non, isTy_dict_bl, isTy_dict_int, isTy_dict_str, isTy_dict_lst, isTy_dict_tup, isTy_dict_dct, dIx_l, dIx_t, nLc_ap, gN_ap, goOn_nx, goOn_rt, goOn_rtO, sSeq_ap, sNext_ap, sSet_ap, sOwn_ap, sTgt_ap, sRet_ap, retO_own, sRetO_ap, sIf_ap, sDrop_ap, sFor_ap, sApp_ap, sParN_ap, sParNK_ap, sVia_ap, eCall_ap, eCallV_ap, val_d, val_o, fin_rt, fin_rtO, fin_nx, DL.start, List.map_cons, List.map_nil, List.length_cons, List.length_nil, List.replicate, List.cons_append, List.nil_append, List.getElem?_cons_zero, List.getElem?_cons_succ, List.set_cons_zero, List.set_cons_succ, wipeG, Nat.reduceSub, Nat.reduceAdd, Nat.reduceLT, Nat.reduceLeDiff, if_true, if_false, Bool.not_true, Bool.not_false, Option.bind_some, Option.map_some, mkLst_c, a1, List.length_map, a2, dAdd, a3]
theorem bent_no {b : Nat} {rows : List (List Int)} (v : Valid b rows) (hb : b ≤ 4) (r : List Int) (hr : r ∈ rows) (d : D) (h : d ∈ bents ((b : Int) + rows.length) (tI r)) :
    f_is_gates [.tup [.str "gates", .int b, .tup (rows.map tI ++ [d])]] = some (.d (.bl false)) := by
  have h0 : (0 : Int) ≤ (b : Int) + rows.length := by omega
  generalize hm : (b : Int) + rows.length = m at *
  simp only [bents, List.mem_cons, List.not_mem_nil, or_false] at h
  have two : ∀ (x y : D), isS x = false → isS y = false → goodD (.tup [x, y]) := by
    intro x y hx hy; refine ⟨?_, by simp⟩
    intro d hd; simp at hd; rcases hd with rfl | rfl <;> assumption
  rcases h with rfl | rfl | rfl | rfl | rfl | rfl | rfl | rfl | rfl | rfl | rfl | rfl | rfl | rfl
  · exact is_gates_more v hb _ ⟨by simp [isS], by simp⟩ (Or.inl (by rw [hm]; simp [lenD]))
  · exact is_gates_more v hb _ (two _ _ rfl rfl) (Or.inl (by rw [hm]; simp [clD, ascD, absD]))
  · exact is_gates_more v hb _ (two _ _ rfl rfl) (Or.inl (by rw [hm]; simp [clD, ascD, absD]))
  · exact is_gates_more v hb _ (two _ _ rfl rfl) (Or.inl (by rw [hm]; simp [clD, ascD, absD]))
  · refine is_gates_more v hb _ (two _ _ rfl rfl) (Or.inl (by rw [hm]; simp [clD, inB]; intros; omega))
  · exact is_gates_more v hb _ (two _ _ rfl rfl) (Or.inl (by rw [hm]; simp [clD, inB]))
  · exact is_gates_more v hb _ (good_tI r (by have := v.sz r hr; omega)) (Or.inr ⟨r, hr, rfl⟩)
  · exact is_gates_more v hb _ (two _ _ rfl rfl) (Or.inl (by rw [hm]; simp [clD, inB]))
  · exact is_gates_more v hb _ trivial (Or.inl (by rw [hm]; simp [clD]))
  · refine is_gates_more v hb _ (two _ _ rfl rfl) (Or.inl (by rw [hm]; simp [clD, inB]; intros; omega))
  · exact is_gates_more v hb _ trivial (Or.inl (by rw [hm]; simp [clD]))
  · exact is_gates_more v hb _ (two _ _ rfl rfl) (Or.inl (by rw [hm]; simp [clD, inB]))
  · exact is_gates_more v hb _ ⟨by simp [isS], by simp⟩ (Or.inl (by rw [hm]; simp [lenD]))
  · refine is_gates_more v hb _ ⟨by simp [isS], by simp⟩ (Or.inl (by rw [hm]; simp only [clD, show ascD [.int 2, .int 2, .int 3] = false from rfl, Bool.and_false, Bool.false_and]))
/-! wrong things -/
theorem wrong1 (b : Int) (x : List D) : f_is_gates [.tup [.str "gates", .int b, .lst x]] = some (.d (.bl false)) := by
  apply of_fn rfl
  unfold s_is_gates
  simp -implicitDefEqProofs only [ob_some, ob_bind, ob_map, eC_ap, eN_ap, eV_ap, slotN_dat, slotV_dat, slotV_own, slotV_odc, e1_ap, e2_ap, n2_ap, nLen_ap, aN_ap, aC_ap, eApp_ap, eTup_ap, nLst_ap, mkTup_0, mkTup_1, mkTup_2, mkTup_3, mkTup_4, mkLst_0, eL_ap, tV_ap, asBl_bl, tU_ap, ifB_t, ifB_f, tAnd_ap, tOr_ap, tNot_ap, tYes_ap, eIf_ap, ifD_bl, eAnd_ap, eOr_ap, notD_bl, eNot_ap, eChain_ap, dAdd_i, dSub_i, dNeg_i, dLt_i, dLe_i, dGt_i, dGe_i, dIsN2_n, dNotB_b, dEq_i, dNe_i, dEq_b, dNe_b, dEq_s, dNe_s, dLen_l, dLen_t, dLen_s, dTupOf_l, dTupOf_t, nLstOf_l, nLstOf_t, dAbs_i, itemsD_l, itemsD_t, iSeq_ap, iSeqL_ap', seqL_l, iRng1_ap, iRng2_ap, iDown_ap, iEnum_ap, iZip_ap, zip2_l, isi_ap, isTy_int_non, isTy_int_bl, isTy_int_int, isTy_int_str, isTy_int_lst, isTy_int_tup, isTy_int_dct, isTy_bool_non, isTy_bool_bl, isTy_bool_int, isTy_bool_str, isTy_bool_lst, isTy_bool_tup, isTy_bool_dct, isTy_str_non, isTy_str_bl, isTy_str_int, isTy_str_str, isTy_str_lst, isTy_str_tup, isTy_str_dct, isTy_tuple_non, isTy_tuple_bl, isTy_tuple_int, isTy_tuple_str, isTy_tuple_lst, isTy_tuple_tup, isTy_tuple_dct, isTy_list_non, isTy_list_bl, isTy_list_int, isTy_list_str, isTy_list_lst, isTy_list_tup, isTy_list_dct, isTy_dict_non, isTy_dict_bl, isTy_dict_int, isTy_dict_str, isTy_dict_lst, isTy_dict_tup, isTy_dict_dct, dIx_l, dIx_t, nLc_ap, gN_ap, goOn_nx, goOn_rt, goOn_rtO, sSeq_ap, sNext_ap, sSet_ap, sOwn_ap, sTgt_ap, sRet_ap, retO_own, sRetO_ap, sIf_ap, sDrop_ap, sFor_ap, sApp_ap, sParN_ap, sParNK_ap, sVia_ap, eCall_ap, eCallV_ap, val_d, val_o, fin_rt, fin_rtO, fin_nx, DL.start, List.map_cons, List.map_nil, List.length_cons, List.length_nil, List.replicate, List.cons_append, List.nil_append, List.getElem?_cons_zero, List.getElem?_cons_succ, List.set_cons_zero, List.set_cons_succ, wipeG, Nat.reduceSub, Nat.reduceAdd, Nat.reduceLT, Nat.reduceLeDiff, if_true, if_false, Bool.not_true, Bool.not_false, Option.bind_some, Option.map_some, gates_1, gates_2, atD_0, is_integer_i, nat3, beq_self_eq_true]
  by_cases h0 : 0 ≤ b
  · by_cases h1 : b ≤ 400
    · simp -implicitDefEqProofs only [ob_some, ob_bind, ob_map, eC_ap, eN_ap, eV_ap, slotN_dat, slotV_dat, slotV_own, slotV_odc, e1_ap, e2_ap, n2_ap, nLen_ap, aN_ap, aC_ap, eApp_ap, eTup_ap, nLst_ap, mkTup_0, mkTup_1, mkTup_2, mkTup_3, mkTup_4, mkLst_0, eL_ap, tV_ap, asBl_bl, tU_ap, ifB_t, ifB_f, tAnd_ap, tOr_ap, tNot_ap, tYes_ap, eIf_ap, ifD_bl, eAnd_ap, eOr_ap, notD_bl, eNot_ap, eChain_ap, dAdd_i, dSub_i, dNeg_i, dLt_i, dLe_i, dGt_i, dGe_i, dIsN2_n, dNotB_b, dEq_i, dNe_i, dEq_b, dNe_b, dEq_s, dNe_s, dLen_l, dLen_t, dLen_s, dTupOf_l, dTupOf_t, nLstOf_l, nLstOf_t, dAbs_i, itemsD_l, itemsD_t, iSeq_ap, iSeqL_ap', seqL_l, iRng1_ap, iRng2_ap, iDown_ap, iEnum_ap, iZip_ap, zip2_l, isi_ap, isTy_int_non, isTy_int_bl, isTy_int_int, isTy_int_str, isTy_int_lst, isTy_int_tup, isTy_int_dct, isTy_bool_non, isTy_bool_bl, isTy_bool_int, isTy_bool_str, isTy_bool_lst, isTy_bool_tup, isTy_bool_dct, isTy_str_non, isTy_str_bl, isTy_str_int, isTy_str_str, isTy_str_lst, isTy_str_tup, isTy_str_dct, isTy_tuple_non, isTy_tuple_bl, isTy_tuple_int, isTy_tuple_str, isTy_tuple_lst, isTy_tuple_tup, isTy_tuple_dct, isTy_list_non, isTy_list_bl, isTy_list_int, isTy_list_str, isTy_list_lst, isTy_list_tup, isTy_list_dct, isTy_dict_non, isTy_dict_bl, isTy_dict_int, isTy_dict_str, isTy_dict_lst, isTy_dict_tup, isTy_dict_dct, dIx_l, dIx_t, nLc_ap, gN_ap, goOn_nx, goOn_rt, goOn_rtO, sSeq_ap, sNext_ap, sSet_ap, sOwn_ap, sTgt_ap, sRet_ap, retO_own, sRetO_ap, sIf_ap, sDrop_ap, sFor_ap, sApp_ap, sParN_ap, sParNK_ap, sVia_ap, eCall_ap, eCallV_ap, val_d, val_o, fin_rt, fin_rtO, fin_nx, DL.start, List.map_cons, List.map_nil, List.length_cons, List.length_nil, List.replicate, List.cons_append, List.nil_append, List.getElem?_cons_zero, List.getElem?_cons_succ, List.set_cons_zero, List.set_cons_succ, wipeG, Nat.reduceSub, Nat.reduceAdd, Nat.reduceLT, Nat.reduceLeDiff, if_true, if_false, Bool.not_true, Bool.not_false, Option.bind_some, Option.map_some, decide_eq_true h0, decide_eq_true h1]
    · simp -implicitDefEqProofs only [ob_some, ob_bind, ob_map, eC_ap, eN_ap, eV_ap, slotN_dat, slotV_dat, slotV_own, slotV_odc, e1_ap, e2_ap, n2_ap, nLen_ap, aN_ap, aC_ap, eApp_ap, eTup_ap, nLst_ap, mkTup_0, mkTup_1, mkTup_2, mkTup_3, mkTup_4, mkLst_0, eL_ap, tV_ap, asBl_bl, tU_ap, ifB_t, ifB_f, tAnd_ap, tOr_ap, tNot_ap, tYes_ap, eIf_ap, ifD_bl, eAnd_ap, eOr_ap, notD_bl, eNot_ap, eChain_ap, dAdd_i, dSub_i, dNeg_i, dLt_i, dLe_i, dGt_i, dGe_i, dIsN2_n, dNotB_b, dEq_i, dNe_i, dEq_b, dNe_b, dEq_s, dNe_s, dLen_l, dLen_t, dLen_s, dTupOf_l, dTupOf_t, nLstOf_l, nLstOf_t, dAbs_i, itemsD_l, itemsD_t, iSeq_ap, iSeqL_ap', seqL_l, iRng1_ap, iRng2_ap, iDown_ap, iEnum_ap, iZip_ap, zip2_l, isi_ap, isTy_int_non, isTy_int_bl, isTy_int_int, isTy_int_str, isTy_int_lst, isTy_int_tup, isTy_int_dct, isTy_bool_non, isTy_bool_bl, isTy_bool_int, isTy_bool_str, isTy_bool_lst, isTy_bool_tup, isTy_bool_dct, isTy_str_non, isTy_str_bl, isTy_str_int, isTy_str_str, isTy_str_lst, isTy_str_tup, isTy_str_dct, isTy_tuple_non, isTy_tuple_bl, isTy_tuple_int, isTy_tuple_str, isTy_tuple_lst, isTy_tuple_tup, isTy_tuple_dct, isTy_list_non, isTy_list_bl, isTy_list_int, isTy_list_str, isTy_list_lst, isTy_list_tup, isTy_list_dct, isTy_dict_non, isTy_dict_bl, isTy_dict_int, isTy_dict_str, isTy_dict_lst, isTy_dict_tup, isTy_dict_dct, dIx_l, dIx_t, nLc_ap, gN_ap, goOn_nx, goOn_rt, goOn_rtO, sSeq_ap, sNext_ap, sSet_ap, sOwn_ap, sTgt_ap, sRet_ap, retO_own, sRetO_ap, sIf_ap, sDrop_ap, sFor_ap, sApp_ap, sParN_ap, sParNK_ap, sVia_ap, eCall_ap, eCallV_ap, val_d, val_o, fin_rt, fin_rtO, fin_nx, DL.start, List.map_cons, List.map_nil, List.length_cons, List.length_nil, List.replicate, List.cons_append, List.nil_append, List.getElem?_cons_zero, List.getElem?_cons_succ, List.set_cons_zero, List.set_cons_succ, wipeG, Nat.reduceSub, Nat.reduceAdd, Nat.reduceLT, Nat.reduceLeDiff, if_true, if_false, Bool.not_true, Bool.not_false, Option.bind_some, Option.map_some, decide_eq_true h0, decide_eq_false h1]
  · simp -implicitDefEqProofs only [ob_some, ob_bind, ob_map, eC_ap, eN_ap, eV_ap, slotN_dat, slotV_dat, slotV_own, slotV_odc, e1_ap, e2_ap, n2_ap, nLen_ap, aN_ap, aC_ap, eApp_ap, eTup_ap, nLst_ap, mkTup_0, mkTup_1, mkTup_2, mkTup_3, mkTup_4, mkLst_0, eL_ap, tV_ap, asBl_bl, tU_ap, ifB_t, ifB_f, tAnd_ap, tOr_ap, tNot_ap, tYes_ap, eIf_ap, ifD_bl, eAnd_ap, eOr_ap, notD_bl, eNot_ap, eChain_ap, dAdd_i, dSub_i, dNeg_i, dLt_i, dLe_i, dGt_i, dGe_i, dIsN2_n, dNotB_b, dEq_i, dNe_i, dEq_b, dNe_b, dEq_s, dNe_s, dLen_l, dLen_t, dLen_s, dTupOf_l, dTupOf_t, nLstOf_l, nLstOf_t, dAbs_i, itemsD_l, itemsD_t, iSeq_ap, iSeqL_ap', seqL_l, iRng1_ap, iRng2_ap, iDown_ap, iEnum_ap, iZip_ap, zip2_l, isi_ap, isTy_int_non, isTy_int_bl, isTy_int_int, isTy_int_str, isTy_int_lst, isTy_int_tup, isTy_int_dct, isTy_bool_non, isTy_bool_bl, isTy_bool_int, isTy_bool_str, isTy_bool_lst, isTy_bool_tup, isTy_bool_dct, isTy_str_non, isTy_str_bl, isTy_str_int, isTy_str_str, isTy_str_lst, isTy_str_tup, isTy_str_dct, isTy_tuple_non, isTy_tuple_bl, isTy_tuple_int, isTy_tuple_str, isTy_tuple_lst, isTy_tuple_tup, isTy_tuple_dct, isTy_list_non, isTy_list_bl, isTy_list_int, isTy_list_str, isTy_list_lst, isTy_list_tup, isTy_list_dct, isTy_dict_non, isTy_dict_bl, isTy_dict_int, isTy_dict_str, isTy_dict_lst, isTy_dict_tup, isTy_dict_dct, dIx_l, dIx_t, nLc_ap, gN_ap, goOn_nx, goOn_rt, goOn_rtO, sSeq_ap, sNext_ap, sSet_ap, sOwn_ap, sTgt_ap, sRet_ap, retO_own, sRetO_ap, sIf_ap, sDrop_ap, sFor_ap, sApp_ap, sParN_ap, sParNK_ap, sVia_ap, eCall_ap, eCallV_ap, val_d, val_o, fin_rt, fin_rtO, fin_nx, DL.start, List.map_cons, List.map_nil, List.length_cons, List.length_nil, List.replicate, List.cons_append, List.nil_append, List.getElem?_cons_zero, List.getElem?_cons_succ, List.set_cons_zero, List.set_cons_succ, wipeG, Nat.reduceSub, Nat.reduceAdd, Nat.reduceLT, Nat.reduceLeDiff, if_true, if_false, Bool.not_true, Bool.not_false, Option.bind_some, Option.map_some, decide_eq_false h0]
theorem wrong2 (b x : D) : f_is_gates [.tup [.str "gate", b, x]] = some (.d (.bl false)) := rfl
theorem wrong3 (b : D) : f_is_gates [.tup [.str "gates", b]] = some (.d (.bl false)) := rfl
theorem wrong4 : f_is_gates [.non] = some (.d (.bl false)) := rfl
theorem wrong5 (x : D) : f_is_gates [.tup [.str "gates", .bl true, x]] = some (.d (.bl false)) := rfl
theorem wrong6 (b x y : D) : f_is_gates [.tup [.str "gates", b, x, y]] = some (.d (.bl false)) := rfl

def gD (b : Nat) (rows : List (List Int)) : D := .tup [.str "gates", .int b, .tup (rows.map tI)]
theorem check_gates_ok {b : Nat} {rows : List (List Int)} (v : Valid b rows) (hb : b ≤ 4) : f_check_gates [gD b rows] = some (.d .non) := by
  apply of_fn rfl
  unfold s_check_gates
  simp -implicitDefEqProofs only [ob_some, ob_bind, ob_map, eC_ap, eN_ap, eV_ap, slotN_dat, slotV_dat, slotV_own, slotV_odc, e1_ap, e2_ap, n2_ap, nLen_ap, aN_ap, aC_ap, eApp_ap, eTup_ap, nLst_ap, mkTup_0, mkTup_1, mkTup_2, mkTup_3, mkTup_4, mkLst_0, eL_ap, tV_ap, asBl_bl, tU_ap, ifB_t, ifB_f, tAnd_ap, tOr_ap, tNot_ap, tYes_ap, eIf_ap, ifD_bl, eAnd_ap, eOr_ap, notD_bl, eNot_ap, eChain_ap, dAdd_i, dSub_i, dNeg_i, dLt_i, dLe_i, dGt_i, dGe_i, dIsN2_n, dNotB_b, dEq_i, dNe_i, dEq_b, dNe_b, dEq_s, dNe_s, dLen_l, dLen_t, dLen_s, dTupOf_l, dTupOf_t, nLstOf_l, nLstOf_t, dAbs_i, itemsD_l, itemsD_t, iSeq_ap, iSeqL_ap', seqL_l, iRng1_ap, iRng2_ap, iDown_ap, iEnum_ap, iZip_ap, zip2_l, isi_ap, isTy_int_non, isTy_int_bl, isTy_int_int, isTy_int_str, isTy_int_lst, isTy_int_tup, isTy_int_dct, isTy_bool_non, isTy_bool_bl, isTy_bool_int, isTy_bool_str, isTy_bool_lst, isTy_bool_tup, isTy_bool_dct, isTy_str_non, isTy_str_bl, isTy_str_int, isTy_str_str, isTy_str_lst, isTy_str_tup, isTy_str_dct, isTy_tuple_non, isTy_tuple_bl, isTy_tuple_int, isTy_tuple_str, isTy_tuple_lst, isTy_tuple_tup, isTy_tuple_dct, isTy_list_non, isTy_list_bl, isTy_list_int, isTy_list_str, isTy_list_lst, isTy_list_tup, isTy_list_dct, isTy_dict_non, isTy_dict_bl, isTy_dict_int, isTy_dict_str, isTy_dict_lst, isTy_dict_tup, isTy_dict_dct, dIx_l, dIx_t, nLc_ap, gN_ap, goOn_nx, goOn_rt, goOn_rtO, sSeq_ap, sNext_ap, sSet_ap, sOwn_ap, sTgt_ap, sRet_ap, retO_own, sRetO_ap, sIf_ap, sDrop_ap, sFor_ap, sApp_ap, sParN_ap, sParNK_ap, sVia_ap, eCall_ap, eCallV_ap, val_d, val_o, fin_rt, fin_rtO, fin_nx, DL.start, List.map_cons, List.map_nil, List.length_cons, List.length_nil, List.replicate, List.cons_append, List.nil_append, List.getElem?_cons_zero, List.getElem?_cons_succ, List.set_cons_zero, List.set_cons_succ, wipeG, Nat.reduceSub, Nat.reduceAdd, Nat.reduceLT, Nat.reduceLeDiff, if_true, if_false, Bool.not_true, Bool.not_false, Option.bind_some, Option.map_some, gD, is_gates_valid v hb]
theorem variables_in_eq {b : Nat} {rows : List (List Int)} (v : Valid b rows) (hb : b ≤ 4) : f_variables_in [gD b rows] = some (.d (.int ((b : Int) + rows.length))) := by
  apply of_fn rfl
  unfold s_variables_in
  simp -implicitDefEqProofs only [ob_some, ob_bind, ob_map, eC_ap, eN_ap, eV_ap, slotN_dat, slotV_dat, slotV_own, slotV_odc, e1_ap, e2_ap, n2_ap, nLen_ap, aN_ap, aC_ap, eApp_ap, eTup_ap, nLst_ap, mkTup_0, mkTup_1, mkTup_2, mkTup_3, mkTup_4, mkLst_0, eL_ap, tV_ap, asBl_bl, tU_ap, ifB_t, ifB_f, tAnd_ap, tOr_ap, tNot_ap, tYes_ap, eIf_ap, ifD_bl, eAnd_ap, eOr_ap, notD_bl, eNot_ap, eChain_ap, dAdd_i, dSub_i, dNeg_i, dLt_i, dLe_i, dGt_i, dGe_i, dIsN2_n, dNotB_b, dEq_i, dNe_i, dEq_b, dNe_b, dEq_s, dNe_s, dLen_l, dLen_t, dLen_s, dTupOf_l, dTupOf_t, nLstOf_l, nLstOf_t, dAbs_i, itemsD_l, itemsD_t, iSeq_ap, iSeqL_ap', seqL_l, iRng1_ap, iRng2_ap, iDown_ap, iEnum_ap, iZip_ap, zip2_l, isi_ap, isTy_int_non, isTy_int_bl, isTy_int_int, isTy_int_str, isTy_int_lst, isTy_int_tup, isTy_int_dct, isTy_bool_non, isTy_bool_bl, isTy_bool_int, isTy_bool_str, isTy_bool_lst, isTy_bool_tup, isTy_bool_dct, isTy_str_non, isTy_str_bl, isTy_str_int, isTy_str_str, isTy_str_lst, isTy_str_tup, isTy_str_dct, isTy_tuple_non, isTy_tuple_bl, isTy_tuple_int, isTy_tuple_str, isTy_tuple_lst, isTy_tuple_tup, isTy_tuple_dct, isTy_list_non, isTy_list_bl, isTy_list_int, isTy_list_str, isTy_list_lst, isTy_list_tup, isTy_list_dct, isTy_dict_non, isTy_dict_bl, isTy_dict_int, isTy_dict_str, isTy_dict_lst, isTy_dict_tup, isTy_dict_dct, dIx_l, dIx_t, nLc_ap, gN_ap, goOn_nx, goOn_rt, goOn_rtO, sSeq_ap, sNext_ap, sSet_ap, sOwn_ap, sTgt_ap, sRet_ap, retO_own, sRetO_ap, sIf_ap, sDrop_ap, sFor_ap, sApp_ap, sParN_ap, sParNK_ap, sVia_ap, eCall_ap, eCallV_ap, val_d, val_o, fin_rt, fin_rtO, fin_nx, DL.start, List.map_cons, List.map_nil, List.length_cons, List.length_nil, List.replicate, List.cons_append, List.nil_append, List.getElem?_cons_zero, List.getElem?_cons_succ, List.set_cons_zero, List.set_cons_succ, wipeG, Nat.reduceSub, Nat.reduceAdd, Nat.reduceLT, Nat.reduceLeDiff, if_true, if_false, Bool.not_true, Bool.not_false, Option.bind_some, Option.map_some, check_gates_ok v hb]
  simp -implicitDefEqProofs only [ob_some, ob_bind, ob_map, eC_ap, eN_ap, eV_ap, slotN_dat, slotV_dat, slotV_own, slotV_odc, e1_ap, e2_ap, n2_ap, nLen_ap, aN_ap, aC_ap, eApp_ap, eTup_ap, nLst_ap, mkTup_0, mkTup_1, mkTup_2, mkTup_3, mkTup_4, mkLst_0, eL_ap, tV_ap, asBl_bl, tU_ap, ifB_t, ifB_f, tAnd_ap, tOr_ap, tNot_ap, tYes_ap, eIf_ap, ifD_bl, eAnd_ap, eOr_ap, notD_bl, eNot_ap, eChain_ap, dAdd_i, dSub_i, dNeg_i, dLt_i, dLe_i, dGt_i, dGe_i, dIsN2_n, dNotB_b, dEq_i, dNe_i, dEq_b, dNe_b, dEq_s, dNe_s, dLen_l, dLen_t, dLen_s, dTupOf_l, dTupOf_t, nLstOf_l, nLstOf_t, dAbs_i, itemsD_l, itemsD_t, iSeq_ap, iSeqL_ap', seqL_l, iRng1_ap, iRng2_ap, iDown_ap, iEnum_ap, iZip_ap, zip2_l, isi_ap, isTy_int_non, isTy_int_bl, isTy_int_int, isTy_int_str, isTy_int_lst, isTy_int_tup, isTy_int_dct, isTy_bool_non, isTy_bool_bl, isTy_bool_int, isTy_bool_str, isTy_bool_lst, isTy_bool_tup, isTy_bool_dct, isTy_str_non, isTy_str_bl, isTy_str_int, isTy_str_str, isTy_str_lst, isTy_str_tup, isTy_str_dct, isTy_tuple_non, isTy_tuple_bl, isTy_tuple_int, isTy_tuple_str, isTy_tuple_lst, isTy_tuple_tup, isTy_tuple_dct, isTy_list_non, isTy_list_bl, isTy_list_int, isTy_list_str, isTy_list_lst, isTy_list_tup, isTy_list_dct, isTy_dict_non, isTy_dict_bl, isTy_dict_int, isTy_dict_str, isTy_dict_lst, isTy_dict_tup, isTy_dict_dct, dIx_l, dIx_t, nLc_ap, gN_ap, goOn_nx, goOn_rt, goOn_rtO, sSeq_ap, sNext_ap, sSet_ap, sOwn_ap, sTgt_ap, sRet_ap, retO_own, sRetO_ap, sIf_ap, sDrop_ap, sFor_ap, sApp_ap, sParN_ap, sParNK_ap, sVia_ap, eCall_ap, eCallV_ap, val_d, val_o, fin_rt, fin_rtO, fin_nx, DL.start, List.map_cons, List.map_nil, List.length_cons, List.length_nil, List.replicate, List.cons_append, List.nil_append, List.getElem?_cons_zero, List.getElem?_cons_succ, List.set_cons_zero, List.set_cons_succ, wipeG, Nat.reduceSub, Nat.reduceAdd, Nat.reduceLT, Nat.reduceLeDiff, if_true, if_false, Bool.not_true, Bool.not_false, Option.bind_some, Option.map_some, gD, gates_1, gates_2, List.length_map]
end Gk00
end
/-! T4 -/
section
set_option linter.all false
namespace Gk00
open PySem DL DM

def oB : Option Bool → D
  | none => .non
  | some b => .bl b
def told (f : List (Option Bool)) (l : Int) : Option Bool := (gt f l).map fun x => x == decide (0 < l)
def kand (f : List (Option Bool)) (r : List Int) : Option Bool :=
  if (r.map (told f)).any (· == some false) then some false else if (r.map (told f)).any (· == none) then none else some true
def kval (rows : List (List Int)) (half : List (Option Bool)) : List (Option Bool) := rows.foldl (fun f r => f ++ [kand f r]) half
theorem kval_app (pre : List (List Int)) (x : List Int) (h) : kval (pre ++ [x]) h = kval pre h ++ [kand (kval pre h) x] := by
  simp [kval]
theorem kval_len (rows : List (List Int)) (h) : (kval rows h).length = h.length + rows.length := by
  unfold kval
  induction rows generalizing h with
  | nil => rfl
  | cons r rows ih => rw [List.foldl_cons, ih]; simp; omega
def val (rows : List (List Int)) (c : List Bool) : List Bool := rows.foldl (fun f r => f ++ [r.all fun l => gt f l == decide (0 < l)]) c
theorem val_app (pre : List (List Int)) (x : List Int) (h) : val (pre ++ [x]) h = val pre h ++ [x.all fun l => gt (val pre h) l == decide (0 < l)] := by
  simp [val]
theorem val_len (rows : List (List Int)) (h) : (val rows h).length = h.length + rows.length := by
  unfold val
  induction rows generalizing h with
  | nil => rfl
  | cons r rows ih => rw [List.foldl_cons, ih]; simp; omega
theorem okDs_oB (n : Nat) (t : List (Option Bool)) : okDs n (t.map oB) = true := by
  induction t with
  | nil => cases n <;> rfl
  | cons a t ih => cases n <;> cases a <;> simp_all [okDs, okD, oB]
theorem in_false (t : List (Option Bool)) : dIn (.bl false) (.lst (t.map oB)) = some (.bl (t.any (· == some false))) := by
  have h1 : memD (.bl false) (t.map oB) = t.any (· == some false) := by
    unfold memD; rw [List.any_map]; congr 1; funext x; rcases x with _ | _ | _ <;> rfl
  simp only [dIn, okDs_oB, okD, Bool.and_self, if_true, h1]
theorem in_none (t : List (Option Bool)) : dIn .non (.lst (t.map oB)) = some (.bl (t.any (· == none))) := by
  have h1 : memD .non (t.map oB) = t.any (· == none) := by
    unfold memD; rw [List.any_map]; congr 1; funext x; rcases x with _ | _ | _ <;> rfl
  simp only [dIn, okDs_oB, okD, Bool.and_self, if_true, h1]
theorem valid_at {b : Nat} {rows pre post : List (List Int)} {x : List Int} (v : Valid b rows) (e : rows = pre ++ x :: post) :
    (∀ l ∈ x, 1 ≤ l.natAbs ∧ l.natAbs ≤ b + pre.length) ∧ pre.length ≤ 9 ∧ x.length ≤ 3 := by
  have h1 : rows[pre.length]? = some x := by rw [e]; simp
  have h2 := v.rs
  have h3 : x ∈ rows := by rw [e]; simp
  refine ⟨(v.cl _ _ h1).1.1, ?_, v.sz x h3⟩
  rw [e] at h2; simp at h2; omega
theorem is_code_ok (b : Nat) (c : List Bool) (h : c.length = b) (hb : b ≤ 4) : f_is_code [tB c, .int b] = some (.d (.bl true)) := by
  apply of_fn rfl
  unfold s_is_code
  subst h
  simp -implicitDefEqProofs only [ob_some, ob_bind, ob_map, eC_ap, eN_ap, eV_ap, slotN_dat, slotV_dat, slotV_own, slotV_odc, e1_ap, e2_ap, n2_ap, nLen_ap, aN_ap, aC_ap, eApp_ap, eTup_ap, nLst_ap, mkTup_0, mkTup_1, mkTup_2, mkTup_3, mkTup_4, mkLst_0, eL_ap, tV_ap, asBl_bl, tU_ap, ifB_t, ifB_f, tAnd_ap, tOr_ap, tNot_ap, tYes_ap, eIf_ap, ifD_bl, eAnd_ap, eOr_ap, notD_bl, eNot_ap, eChain_ap, dAdd_i, dSub_i, dNeg_i, dLt_i, dLe_i, dGt_i, dGe_i, dIsN2_n, dNotB_b, dEq_i, dNe_i, dEq_b, dNe_b, dEq_s, dNe_s, dLen_l, dLen_t, dLen_s, dTupOf_l, dTupOf_t, nLstOf_l, nLstOf_t, dAbs_i, itemsD_l, itemsD_t, iSeq_ap, iSeqL_ap', seqL_l, iRng1_ap, iRng2_ap, iDown_ap, iEnum_ap, iZip_ap, zip2_l, isi_ap, isTy_int_non, isTy_int_bl, isTy_int_int, isTy_int_str, isTy_int_lst, isTy_int_tup, isTy_int_dct, isTy_bool_non, isTy_bool_bl, isTy_bool_int, isTy_bool_str, isTy_bool_lst, isTy_bool_tup, isTy_bool_dct, isTy_str_non, isTy_str_bl, isTy_str_int, isTy_str_str, isTy_str_lst, isTy_str_tup, isTy_str_dct, isTy_tuple_non, isTy_tuple_bl, isTy_tuple_int, isTy_tuple_str, isTy_tuple_lst, isTy_tuple_tup, isTy_tuple_dct, isTy_list_non, isTy_list_bl, isTy_list_int, isTy_list_str, isTy_list_lst, isTy_list_tup, isTy_list_dct, isTy_dict_non, isTy_dict_bl, isTy_dict_int, isTy_dict_str, isTy_dict_lst, isTy_dict_tup, isTy_dict_dct, dIx_l, dIx_t, nLc_ap, gN_ap, goOn_nx, goOn_rt, goOn_rtO, sSeq_ap, sNext_ap, sSet_ap, sOwn_ap, sTgt_ap, sRet_ap, retO_own, sRetO_ap, sIf_ap, sDrop_ap, sFor_ap, sApp_ap, sParN_ap, sParNK_ap, sVia_ap, eCall_ap, eCallV_ap, val_d, val_o, fin_rt, fin_rtO, fin_nx, DL.start, List.map_cons, List.map_nil, List.length_cons, List.length_nil, List.replicate, List.cons_append, List.nil_append, List.getElem?_cons_zero, List.getElem?_cons_succ, List.set_cons_zero, List.set_cons_succ, wipeG, Nat.reduceSub, Nat.reduceAdd, Nat.reduceLT, Nat.reduceLeDiff, if_true, if_false, Bool.not_true, Bool.not_false, Option.bind_some, Option.map_some, tB, List.length_map, beq_self_eq_true]
  refine ob_lcm .bl (fun _ => .bl true) (fun x hx => ?_) (by simp only [lim]; omega) ?_
  · simp -implicitDefEqProofs only [ob_some, ob_bind, ob_map, eC_ap, eN_ap, eV_ap, slotN_dat, slotV_dat, slotV_own, slotV_odc, e1_ap, e2_ap, n2_ap, nLen_ap, aN_ap, aC_ap, eApp_ap, eTup_ap, nLst_ap, mkTup_0, mkTup_1, mkTup_2, mkTup_3, mkTup_4, mkLst_0, eL_ap, tV_ap, asBl_bl, tU_ap, ifB_t, ifB_f, tAnd_ap, tOr_ap, tNot_ap, tYes_ap, eIf_ap, ifD_bl, eAnd_ap, eOr_ap, notD_bl, eNot_ap, eChain_ap, dAdd_i, dSub_i, dNeg_i, dLt_i, dLe_i, dGt_i, dGe_i, dIsN2_n, dNotB_b, dEq_i, dNe_i, dEq_b, dNe_b, dEq_s, dNe_s, dLen_l, dLen_t, dLen_s, dTupOf_l, dTupOf_t, nLstOf_l, nLstOf_t, dAbs_i, itemsD_l, itemsD_t, iSeq_ap, iSeqL_ap', seqL_l, iRng1_ap, iRng2_ap, iDown_ap, iEnum_ap, iZip_ap, zip2_l, isi_ap, isTy_int_non, isTy_int_bl, isTy_int_int, isTy_int_str, isTy_int_lst, isTy_int_tup, isTy_int_dct, isTy_bool_non, isTy_bool_bl, isTy_bool_int, isTy_bool_str, isTy_bool_lst, isTy_bool_tup, isTy_bool_dct, isTy_str_non, isTy_str_bl, isTy_str_int, isTy_str_str, isTy_str_lst, isTy_str_tup, isTy_str_dct, isTy_tuple_non, isTy_tuple_bl, isTy_tuple_int, isTy_tuple_str, isTy_tuple_lst, isTy_tuple_tup, isTy_tuple_dct, isTy_list_non, isTy_list_bl, isTy_list_int, isTy_list_str, isTy_list_lst, isTy_list_tup, isTy_list_dct, isTy_dict_non, isTy_dict_bl, isTy_dict_int, isTy_dict_str, isTy_dict_lst, isTy_dict_tup, isTy_dict_dct, dIx_l, dIx_t, nLc_ap, gN_ap, goOn_nx, goOn_rt, goOn_rtO, sSeq_ap, sNext_ap, sSet_ap, sOwn_ap, sTgt_ap, sRet_ap, retO_own, sRetO_ap, sIf_ap, sDrop_ap, sFor_ap, sApp_ap, sParN_ap, sParNK_ap, sVia_ap, eCall_ap, eCallV_ap, val_d, val_o, fin_rt, fin_rtO, fin_nx, DL.start, List.map_cons, List.map_nil, List.length_cons, List.length_nil, List.replicate, List.cons_append, List.nil_append, List.getElem?_cons_zero, List.getElem?_cons_succ, List.set_cons_zero, List.set_cons_succ, wipeG, Nat.reduceSub, Nat.reduceAdd, Nat.reduceLT, Nat.reduceLeDiff, if_true, if_false, Bool.not_true, Bool.not_false, Option.bind_some, Option.map_some, true_and]
  · simp -implicitDefEqProofs only [ob_some, ob_bind, ob_map, eC_ap, eN_ap, eV_ap, slotN_dat, slotV_dat, slotV_own, slotV_odc, e1_ap, e2_ap, n2_ap, nLen_ap, aN_ap, aC_ap, eApp_ap, eTup_ap, nLst_ap, mkTup_0, mkTup_1, mkTup_2, mkTup_3, mkTup_4, mkLst_0, eL_ap, tV_ap, asBl_bl, tU_ap, ifB_t, ifB_f, tAnd_ap, tOr_ap, tNot_ap, tYes_ap, eIf_ap, ifD_bl, eAnd_ap, eOr_ap, notD_bl, eNot_ap, eChain_ap, dAdd_i, dSub_i, dNeg_i, dLt_i, dLe_i, dGt_i, dGe_i, dIsN2_n, dNotB_b, dEq_i, dNe_i, dEq_b, dNe_b, dEq_s, dNe_s, dLen_l, dLen_t, dLen_s, dTupOf_l, dTupOf_t, nLstOf_l, nLstOf_t, dAbs_i, itemsD_l, itemsD_t, iSeq_ap, iSeqL_ap', seqL_l, iRng1_ap, iRng2_ap, iDown_ap, iEnum_ap, iZip_ap, zip2_l, isi_ap, isTy_int_non, isTy_int_bl, isTy_int_int, isTy_int_str, isTy_int_lst, isTy_int_tup, isTy_int_dct, isTy_bool_non, isTy_bool_bl, isTy_bool_int, isTy_bool_str, isTy_bool_lst, isTy_bool_tup, isTy_bool_dct, isTy_str_non, isTy_str_bl, isTy_str_int, isTy_str_str, isTy_str_lst, isTy_str_tup, isTy_str_dct, isTy_tuple_non, isTy_tuple_bl, isTy_tuple_int, isTy_tuple_str, isTy_tuple_lst, isTy_tuple_tup, isTy_tuple_dct, isTy_list_non, isTy_list_bl, isTy_list_int, isTy_list_str, isTy_list_lst, isTy_list_tup, isTy_list_dct, isTy_dict_non, isTy_dict_bl, isTy_dict_int, isTy_dict_str, isTy_dict_lst, isTy_dict_tup, isTy_dict_dct, dIx_l, dIx_t, nLc_ap, gN_ap, goOn_nx, goOn_rt, goOn_rtO, sSeq_ap, sNext_ap, sSet_ap, sOwn_ap, sTgt_ap, sRet_ap, retO_own, sRetO_ap, sIf_ap, sDrop_ap, sFor_ap, sApp_ap, sParN_ap, sParNK_ap, sVia_ap, eCall_ap, eCallV_ap, val_d, val_o, fin_rt, fin_rtO, fin_nx, DL.start, List.map_cons, List.map_nil, List.length_cons, List.length_nil, List.replicate, List.cons_append, List.nil_append, List.getElem?_cons_zero, List.getElem?_cons_succ, List.set_cons_zero, List.set_cons_succ, wipeG, Nat.reduceSub, Nat.reduceAdd, Nat.reduceLT, Nat.reduceLeDiff, if_true, if_false, Bool.not_true, Bool.not_false, Option.bind_some, Option.map_some, dAll_m, List.all_eq_true, implies_true]
    simp
theorem values_eq {b : Nat} {rows : List (List Int)} (v : Valid b rows) (hb : b ≤ 4) (c : List Bool) (h : c.length = b) :
    f_values [gD b rows, tB c] = some (.d (tB (val rows c))) := by
  apply of_fn rfl
  unfold s_values
  simp -implicitDefEqProofs only [ob_some, ob_bind, ob_map, eC_ap, eN_ap, eV_ap, slotN_dat, slotV_dat, slotV_own, slotV_odc, e1_ap, e2_ap, n2_ap, nLen_ap, aN_ap, aC_ap, eApp_ap, eTup_ap, nLst_ap, mkTup_0, mkTup_1, mkTup_2, mkTup_3, mkTup_4, mkLst_0, eL_ap, tV_ap, asBl_bl, tU_ap, ifB_t, ifB_f, tAnd_ap, tOr_ap, tNot_ap, tYes_ap, eIf_ap, ifD_bl, eAnd_ap, eOr_ap, notD_bl, eNot_ap, eChain_ap, dAdd_i, dSub_i, dNeg_i, dLt_i, dLe_i, dGt_i, dGe_i, dIsN2_n, dNotB_b, dEq_i, dNe_i, dEq_b, dNe_b, dEq_s, dNe_s, dLen_l, dLen_t, dLen_s, dTupOf_l, dTupOf_t, nLstOf_l, nLstOf_t, dAbs_i, itemsD_l, itemsD_t, iSeq_ap, iSeqL_ap', seqL_l, iRng1_ap, iRng2_ap, iDown_ap, iEnum_ap, iZip_ap, zip2_l, isi_ap, isTy_int_non, isTy_int_bl, isTy_int_int, isTy_int_str, isTy_int_lst, isTy_int_tup, isTy_int_dct, isTy_bool_non, isTy_bool_bl, isTy_bool_int, isTy_bool_str, isTy_bool_lst, isTy_bool_tup, isTy_bool_dct, isTy_str_non, isTy_str_bl, isTy_str_int, isTy_str_str, isTy_str_lst, isTy_str_tup, isTy_str_dct, isTy_tuple_non, isTy_tuple_bl, isTy_tuple_int, isTy_tuple_str, isTy_tuple_lst, isTy_tuple_tup, isTy_tuple_dct, isTy_list_non, isTy_list_bl, isTy_list_int, isTy_list_str, isTy_list_lst, isTy_list_tup, isTy_list_dct, isTy_dict_non, isTy_dict_bl, isTy_dict_int, isTy_dict_str, isTy_dict_lst, isTy_dict_tup, isTy_dict_dct, dIx_l, dIx_t, nLc_ap, gN_ap, goOn_nx, goOn_rt, goOn_rtO, sSeq_ap, sNext_ap, sSet_ap, sOwn_ap, sTgt_ap, sRet_ap, retO_own, sRetO_ap, sIf_ap, sDrop_ap, sFor_ap, sApp_ap, sParN_ap, sParNK_ap, sVia_ap, eCall_ap, eCallV_ap, val_d, val_o, fin_rt, fin_rtO, fin_nx, DL.start, List.map_cons, List.map_nil, List.length_cons, List.length_nil, List.replicate, List.cons_append, List.nil_append, List.getElem?_cons_zero, List.getElem?_cons_succ, List.set_cons_zero, List.set_cons_succ, wipeG, Nat.reduceSub, Nat.reduceAdd, Nat.reduceLT, Nat.reduceLeDiff, if_true, if_false, Bool.not_true, Bool.not_false, Option.bind_some, Option.map_some, check_gates_ok v hb]
  have a1 : atD [D.str "gates", .int b, .tup (rows.map tI)] 1 = some (.int b) := rfl
  have a2 : atD [D.str "gates", .int b, .tup (rows.map tI)] 2 = some (.tup (rows.map tI)) := rfl
  have i1 : dIx (gD b rows) (.int 1) = some (.int b) := a1
  have i2 : dIx (gD b rows) (.int 2) = some (.tup (rows.map tI)) := a2
  have n1 : nLstOf [tB c] = some (c.map .bl) := rfl
  simp -implicitDefEqProofs only [ob_some, ob_bind, ob_map, eC_ap, eN_ap, eV_ap, slotN_dat, slotV_dat, slotV_own, slotV_odc, e1_ap, e2_ap, n2_ap, nLen_ap, aN_ap, aC_ap, eApp_ap, eTup_ap, nLst_ap, mkTup_0, mkTup_1, mkTup_2, mkTup_3, mkTup_4, mkLst_0, eL_ap, tV_ap, asBl_bl, tU_ap, ifB_t, ifB_f, tAnd_ap, tOr_ap, tNot_ap, tYes_ap, eIf_ap, ifD_bl, eAnd_ap, eOr_ap, notD_bl, eNot_ap, eChain_ap, dAdd_i, dSub_i, dNeg_i, dLt_i, dLe_i, dGt_i, dGe_i, dIsN2_n, dNotB_b, dEq_i, dNe_i, dEq_b, dNe_b, dEq_s, dNe_s, dLen_l, dLen_t, dLen_s, dTupOf_l, dTupOf_t, nLstOf_l, nLstOf_t, dAbs_i, itemsD_l, itemsD_t, iSeq_ap, iSeqL_ap', seqL_l, iRng1_ap, iRng2_ap, iDown_ap, iEnum_ap, iZip_ap, zip2_l, isi_ap, isTy_int_non, isTy_int_bl, isTy_int_int, isTy_int_str, isTy_int_lst, isTy_int_tup, isTy_int_dct, isTy_bool_non, isTy_bool_bl, isTy_bool_int, isTy_bool_str, isTy_bool_lst, isTy_bool_tup, isTy_bool_dct, isTy_str_non, isTy_str_bl, isTy_str_int, isTy_str_str, isTy_str_lst, isTy_str_tup, isTy_str_dct, isTy_tuple_non, isTy_tuple_bl, isTy_tuple_int, isTy_tuple_str, isTy_tuple_lst, isTy_tuple_tup, isTy_tuple_dct, isTy_list_non, isTy_list_bl, isTy_list_int, isTy_list_str, isTy_list_lst, isTy_list_tup, isTy_list_dct, isTy_dict_non, isTy_dict_bl, isTy_dict_int, isTy_dict_str, isTy_dict_lst, isTy_dict_tup, isTy_dict_dct, dIx_l, dIx_t, nLc_ap, gN_ap, goOn_nx, goOn_rt, goOn_rtO, sSeq_ap, sNext_ap, sSet_ap, sOwn_ap, sTgt_ap, sRet_ap, retO_own, sRetO_ap, sIf_ap, sDrop_ap, sFor_ap, sApp_ap, sParN_ap, sParNK_ap, sVia_ap, eCall_ap, eCallV_ap, val_d, val_o, fin_rt, fin_rtO, fin_nx, DL.start, List.map_cons, List.map_nil, List.length_cons, List.length_nil, List.replicate, List.cons_append, List.nil_append, List.getElem?_cons_zero, List.getElem?_cons_succ, List.set_cons_zero, List.set_cons_succ, wipeG, Nat.reduceSub, Nat.reduceAdd, Nat.reduceLT, Nat.reduceLeDiff, if_true, if_false, Bool.not_true, Bool.not_false, Option.bind_some, Option.map_some, i1, i2, is_code_ok b c h hb, n1]
  refine ob_for tI (fun pre g => ∃ s t, g = [.dat (gD b rows), .dat (tB c), .own ((val pre c).map .bl), s, t]) ⟨_, _, rfl⟩ ?_ ?_
  · rintro pre x post g e ⟨s, t, rfl⟩
    obtain ⟨v1, v2, v3⟩ := valid_at v e
    have hl : (val pre c).length = b + pre.length := by rw [val_len, h]
    simp -implicitDefEqProofs only [ob_some, ob_bind, ob_map, eC_ap, eN_ap, eV_ap, slotN_dat, slotV_dat, slotV_own, slotV_odc, e1_ap, e2_ap, n2_ap, nLen_ap, aN_ap, aC_ap, eApp_ap, eTup_ap, nLst_ap, mkTup_0, mkTup_1, mkTup_2, mkTup_3, mkTup_4, mkLst_0, eL_ap, tV_ap, asBl_bl, tU_ap, ifB_t, ifB_f, tAnd_ap, tOr_ap, tNot_ap, tYes_ap, eIf_ap, ifD_bl, eAnd_ap, eOr_ap, notD_bl, eNot_ap, eChain_ap, dAdd_i, dSub_i, dNeg_i, dLt_i, dLe_i, dGt_i, dGe_i, dIsN2_n, dNotB_b, dEq_i, dNe_i, dEq_b, dNe_b, dEq_s, dNe_s, dLen_l, dLen_t, dLen_s, dTupOf_l, dTupOf_t, nLstOf_l, nLstOf_t, dAbs_i, itemsD_l, itemsD_t, iSeq_ap, iSeqL_ap', seqL_l, iRng1_ap, iRng2_ap, iDown_ap, iEnum_ap, iZip_ap, zip2_l, isi_ap, isTy_int_non, isTy_int_bl, isTy_int_int, isTy_int_str, isTy_int_lst, isTy_int_tup, isTy_int_dct, isTy_bool_non, isTy_bool_bl, isTy_bool_int, isTy_bool_str, isTy_bool_lst, isTy_bool_tup, isTy_bool_dct, isTy_str_non, isTy_str_bl, isTy_str_int, isTy_str_str, isTy_str_lst, isTy_str_tup, isTy_str_dct, isTy_tuple_non, isTy_tuple_bl, isTy_tuple_int, isTy_tuple_str, isTy_tuple_lst, isTy_tuple_tup, isTy_tuple_dct, isTy_list_non, isTy_list_bl, isTy_list_int, isTy_list_str, isTy_list_lst, isTy_list_tup, isTy_list_dct, isTy_dict_non, isTy_dict_bl, isTy_dict_int, isTy_dict_str, isTy_dict_lst, isTy_dict_tup, isTy_dict_dct, dIx_l, dIx_t, nLc_ap, gN_ap, goOn_nx, goOn_rt, goOn_rtO, sSeq_ap, sNext_ap, sSet_ap, sOwn_ap, sTgt_ap, sRet_ap, retO_own, sRetO_ap, sIf_ap, sDrop_ap, sFor_ap, sApp_ap, sParN_ap, sParNK_ap, sVia_ap, eCall_ap, eCallV_ap, val_d, val_o, fin_rt, fin_rtO, fin_nx, DL.start, List.map_cons, List.map_nil, List.length_cons, List.length_nil, List.replicate, List.cons_append, List.nil_append, List.getElem?_cons_zero, List.getElem?_cons_succ, List.set_cons_zero, List.set_cons_succ, wipeG, Nat.reduceSub, Nat.reduceAdd, Nat.reduceLT, Nat.reduceLeDiff, if_true, if_false, Bool.not_true, Bool.not_false, Option.bind_some, Option.map_some, tI]
    refine ob_lcm .int (fun l => .bl (gt (val pre c) l == decide (0 < l))) (fun l hl2 => ?_) (by simp only [lim]; omega) ?_
    · have := v1 l hl2
      simp -implicitDefEqProofs only [ob_some, ob_bind, ob_map, eC_ap, eN_ap, eV_ap, slotN_dat, slotV_dat, slotV_own, slotV_odc, e1_ap, e2_ap, n2_ap, nLen_ap, aN_ap, aC_ap, eApp_ap, eTup_ap, nLst_ap, mkTup_0, mkTup_1, mkTup_2, mkTup_3, mkTup_4, mkLst_0, eL_ap, tV_ap, asBl_bl, tU_ap, ifB_t, ifB_f, tAnd_ap, tOr_ap, tNot_ap, tYes_ap, eIf_ap, ifD_bl, eAnd_ap, eOr_ap, notD_bl, eNot_ap, eChain_ap, dAdd_i, dSub_i, dNeg_i, dLt_i, dLe_i, dGt_i, dGe_i, dIsN2_n, dNotB_b, dEq_i, dNe_i, dEq_b, dNe_b, dEq_s, dNe_s, dLen_l, dLen_t, dLen_s, dTupOf_l, dTupOf_t, nLstOf_l, nLstOf_t, dAbs_i, itemsD_l, itemsD_t, iSeq_ap, iSeqL_ap', seqL_l, iRng1_ap, iRng2_ap, iDown_ap, iEnum_ap, iZip_ap, zip2_l, isi_ap, isTy_int_non, isTy_int_bl, isTy_int_int, isTy_int_str, isTy_int_lst, isTy_int_tup, isTy_int_dct, isTy_bool_non, isTy_bool_bl, isTy_bool_int, isTy_bool_str, isTy_bool_lst, isTy_bool_tup, isTy_bool_dct, isTy_str_non, isTy_str_bl, isTy_str_int, isTy_str_str, isTy_str_lst, isTy_str_tup, isTy_str_dct, isTy_tuple_non, isTy_tuple_bl, isTy_tuple_int, isTy_tuple_str, isTy_tuple_lst, isTy_tuple_tup, isTy_tuple_dct, isTy_list_non, isTy_list_bl, isTy_list_int, isTy_list_str, isTy_list_lst, isTy_list_tup, isTy_list_dct, isTy_dict_non, isTy_dict_bl, isTy_dict_int, isTy_dict_str, isTy_dict_lst, isTy_dict_tup, isTy_dict_dct, dIx_l, dIx_t, nLc_ap, gN_ap, goOn_nx, goOn_rt, goOn_rtO, sSeq_ap, sNext_ap, sSet_ap, sOwn_ap, sTgt_ap, sRet_ap, retO_own, sRetO_ap, sIf_ap, sDrop_ap, sFor_ap, sApp_ap, sParN_ap, sParNK_ap, sVia_ap, eCall_ap, eCallV_ap, val_d, val_o, fin_rt, fin_rtO, fin_nx, DL.start, List.map_cons, List.map_nil, List.length_cons, List.length_nil, List.replicate, List.cons_append, List.nil_append, List.getElem?_cons_zero, List.getElem?_cons_succ, List.set_cons_zero, List.set_cons_succ, wipeG, Nat.reduceSub, Nat.reduceAdd, Nat.reduceLT, Nat.reduceLeDiff, if_true, if_false, Bool.not_true, Bool.not_false, Option.bind_some, Option.map_some, atD_gt D.bl (val pre c) l this.1 (by omega), true_and]
    · simp -implicitDefEqProofs only [ob_some, ob_bind, ob_map, eC_ap, eN_ap, eV_ap, slotN_dat, slotV_dat, slotV_own, slotV_odc, e1_ap, e2_ap, n2_ap, nLen_ap, aN_ap, aC_ap, eApp_ap, eTup_ap, nLst_ap, mkTup_0, mkTup_1, mkTup_2, mkTup_3, mkTup_4, mkLst_0, eL_ap, tV_ap, asBl_bl, tU_ap, ifB_t, ifB_f, tAnd_ap, tOr_ap, tNot_ap, tYes_ap, eIf_ap, ifD_bl, eAnd_ap, eOr_ap, notD_bl, eNot_ap, eChain_ap, dAdd_i, dSub_i, dNeg_i, dLt_i, dLe_i, dGt_i, dGe_i, dIsN2_n, dNotB_b, dEq_i, dNe_i, dEq_b, dNe_b, dEq_s, dNe_s, dLen_l, dLen_t, dLen_s, dTupOf_l, dTupOf_t, nLstOf_l, nLstOf_t, dAbs_i, itemsD_l, itemsD_t, iSeq_ap, iSeqL_ap', seqL_l, iRng1_ap, iRng2_ap, iDown_ap, iEnum_ap, iZip_ap, zip2_l, isi_ap, isTy_int_non, isTy_int_bl, isTy_int_int, isTy_int_str, isTy_int_lst, isTy_int_tup, isTy_int_dct, isTy_bool_non, isTy_bool_bl, isTy_bool_int, isTy_bool_str, isTy_bool_lst, isTy_bool_tup, isTy_bool_dct, isTy_str_non, isTy_str_bl, isTy_str_int, isTy_str_str, isTy_str_lst, isTy_str_tup, isTy_str_dct, isTy_tuple_non, isTy_tuple_bl, isTy_tuple_int, isTy_tuple_str, isTy_tuple_lst, isTy_tuple_tup, isTy_tuple_dct, isTy_list_non, isTy_list_bl, isTy_list_int, isTy_list_str, isTy_list_lst, isTy_list_tup, isTy_list_dct, isTy_dict_non, isTy_dict_bl, isTy_dict_int, isTy_dict_str, isTy_dict_lst, isTy_dict_tup, isTy_dict_dct, dIx_l, dIx_t, nLc_ap, gN_ap, goOn_nx, goOn_rt, goOn_rtO, sSeq_ap, sNext_ap, sSet_ap, sOwn_ap, sTgt_ap, sRet_ap, retO_own, sRetO_ap, sIf_ap, sDrop_ap, sFor_ap, sApp_ap, sParN_ap, sParNK_ap, sVia_ap, eCall_ap, eCallV_ap, val_d, val_o, fin_rt, fin_rtO, fin_nx, DL.start, List.map_cons, List.map_nil, List.length_cons, List.length_nil, List.replicate, List.cons_append, List.nil_append, List.getElem?_cons_zero, List.getElem?_cons_succ, List.set_cons_zero, List.set_cons_succ, wipeG, Nat.reduceSub, Nat.reduceAdd, Nat.reduceLT, Nat.reduceLeDiff, if_true, if_false, Bool.not_true, Bool.not_false, Option.bind_some, Option.map_some, dAll_m, appTo_own _ _ _ ((val pre c).map .bl) (by simp only [List.length_map, lim]; omega)]
      refine ⟨_, rfl, _, _, by rw [val_app]; simp; exact ⟨rfl, rfl⟩⟩
  · rintro g ⟨s, t, rfl⟩
    simp -implicitDefEqProofs only [ob_some, ob_bind, ob_map, eC_ap, eN_ap, eV_ap, slotN_dat, slotV_dat, slotV_own, slotV_odc, e1_ap, e2_ap, n2_ap, nLen_ap, aN_ap, aC_ap, eApp_ap, eTup_ap, nLst_ap, mkTup_0, mkTup_1, mkTup_2, mkTup_3, mkTup_4, mkLst_0, eL_ap, tV_ap, asBl_bl, tU_ap, ifB_t, ifB_f, tAnd_ap, tOr_ap, tNot_ap, tYes_ap, eIf_ap, ifD_bl, eAnd_ap, eOr_ap, notD_bl, eNot_ap, eChain_ap, dAdd_i, dSub_i, dNeg_i, dLt_i, dLe_i, dGt_i, dGe_i, dIsN2_n, dNotB_b, dEq_i, dNe_i, dEq_b, dNe_b, dEq_s, dNe_s, dLen_l, dLen_t, dLen_s, dTupOf_l, dTupOf_t, nLstOf_l, nLstOf_t, dAbs_i, itemsD_l, itemsD_t, iSeq_ap, iSeqL_ap', seqL_l, iRng1_ap, iRng2_ap, iDown_ap, iEnum_ap, iZip_ap, zip2_l, isi_ap, isTy_int_non, isTy_int_bl, isTy_int_int, isTy_int_str, isTy_int_lst, isTy_int_tup, isTy_int_dct, isTy_bool_non, isTy_bool_bl, isTy_bool_int, isTy_bool_str, isTy_bool_lst, isTy_bool_tup, isTy_bool_dct, isTy_str_non, isTy_str_bl, isTy_str_int, isTy_str_str, isTy_str_lst, isTy_str_tup, isTy_str_dct, isTy_tuple_non, isTy_tuple_bl, isTy_tuple_int, isTy_tuple_str, isTy_tuple_lst, isTy_tuple_tup, isTy_tuple_dct, isTy_list_non, isTy_list_bl, isTy_list_int, isTy_list_str, isTy_list_lst, isTy_list_tup, isTy_list_dct, isTy_dict_non, isTy_dict_bl, isTy_dict_int, isTy_dict_str, isTy_dict_lst, isTy_dict_tup, isTy_dict_dct, dIx_l, dIx_t, nLc_ap, gN_ap, goOn_nx, goOn_rt, goOn_rtO, sSeq_ap, sNext_ap, sSet_ap, sOwn_ap, sTgt_ap, sRet_ap, retO_own, sRetO_ap, sIf_ap, sDrop_ap, sFor_ap, sApp_ap, sParN_ap, sParNK_ap, sVia_ap, eCall_ap, eCallV_ap, val_d, val_o, fin_rt, fin_rtO, fin_nx, DL.start, List.map_cons, List.map_nil, List.length_cons, List.length_nil, List.replicate, List.cons_append, List.nil_append, List.getElem?_cons_zero, List.getElem?_cons_succ, List.set_cons_zero, List.set_cons_succ, wipeG, Nat.reduceSub, Nat.reduceAdd, Nat.reduceLT, Nat.reduceLeDiff, if_true, if_false, Bool.not_true, Bool.not_false, Option.bind_some, Option.map_some, tB]
theorem known_literal_eq (f : List (Option Bool)) (l : Int) (h : 1 ≤ l.natAbs) (h2 : l.natAbs ≤ f.length) : f_known_literal [.lst (f.map oB), .int l] = some (.d (oB (told f l))) := by
  apply of_fn rfl
  unfold s_known_literal
  simp -implicitDefEqProofs only [ob_some, ob_bind, ob_map, eC_ap, eN_ap, eV_ap, slotN_dat, slotV_dat, slotV_own, slotV_odc, e1_ap, e2_ap, n2_ap, nLen_ap, aN_ap, aC_ap, eApp_ap, eTup_ap, nLst_ap, mkTup_0, mkTup_1, mkTup_2, mkTup_3, mkTup_4, mkLst_0, eL_ap, tV_ap, asBl_bl, tU_ap, ifB_t, ifB_f, tAnd_ap, tOr_ap, tNot_ap, tYes_ap, eIf_ap, ifD_bl, eAnd_ap, eOr_ap, notD_bl, eNot_ap, eChain_ap, dAdd_i, dSub_i, dNeg_i, dLt_i, dLe_i, dGt_i, dGe_i, dIsN2_n, dNotB_b, dEq_i, dNe_i, dEq_b, dNe_b, dEq_s, dNe_s, dLen_l, dLen_t, dLen_s, dTupOf_l, dTupOf_t, nLstOf_l, nLstOf_t, dAbs_i, itemsD_l, itemsD_t, iSeq_ap, iSeqL_ap', seqL_l, iRng1_ap, iRng2_ap, iDown_ap, iEnum_ap, iZip_ap, zip2_l, isi_ap, isTy_int_non, isTy_int_bl, isTy_int_int, isTy_int_str, isTy_int_lst, isTy_int_tup, isTy_int_dct, isTy_bool_non, isTy_bool_bl, isTy_bool_int, isTy_bool_str, isTy_bool_lst, isTy_bool_tup, isTy_bool_dct, isTy_str_non, isTy_str_bl, isTy_str_int, isTy_str_str, isTy_str_lst, isTy_str_tup, isTy_str_dct, isTy_tuple_non, isTy_tuple_bl, isTy_tuple_int, isTy_tuple_str, isTy_tuple_lst, isTy_tuple_tup, isTy_tuple_dct, isTy_list_non, isTy_list_bl, isTy_list_int, isTy_list_str, isTy_list_lst, isTy_list_tup, isTy_list_dct, isTy_dict_non, isTy_dict_bl, isTy_dict_int, isTy_dict_str, isTy_dict_lst, isTy_dict_tup, isTy_dict_dct, dIx_l, dIx_t, nLc_ap, gN_ap, goOn_nx, goOn_rt, goOn_rtO, sSeq_ap, sNext_ap, sSet_ap, sOwn_ap, sTgt_ap, sRet_ap, retO_own, sRetO_ap, sIf_ap, sDrop_ap, sFor_ap, sApp_ap, sParN_ap, sParNK_ap, sVia_ap, eCall_ap, eCallV_ap, val_d, val_o, fin_rt, fin_rtO, fin_nx, DL.start, List.map_cons, List.map_nil, List.length_cons, List.length_nil, List.replicate, List.cons_append, List.nil_append, List.getElem?_cons_zero, List.getElem?_cons_succ, List.set_cons_zero, List.set_cons_succ, wipeG, Nat.reduceSub, Nat.reduceAdd, Nat.reduceLT, Nat.reduceLeDiff, if_true, if_false, Bool.not_true, Bool.not_false, Option.bind_some, Option.map_some, atD_gt oB f l h h2]
  cases hg : gt f l with
  | none => simp -implicitDefEqProofs only [ob_some, ob_bind, ob_map, eC_ap, eN_ap, eV_ap, slotN_dat, slotV_dat, slotV_own, slotV_odc, e1_ap, e2_ap, n2_ap, nLen_ap, aN_ap, aC_ap, eApp_ap, eTup_ap, nLst_ap, mkTup_0, mkTup_1, mkTup_2, mkTup_3, mkTup_4, mkLst_0, eL_ap, tV_ap, asBl_bl, tU_ap, ifB_t, ifB_f, tAnd_ap, tOr_ap, tNot_ap, tYes_ap, eIf_ap, ifD_bl, eAnd_ap, eOr_ap, notD_bl, eNot_ap, eChain_ap, dAdd_i, dSub_i, dNeg_i, dLt_i, dLe_i, dGt_i, dGe_i, dIsN2_n, dNotB_b, dEq_i, dNe_i, dEq_b, dNe_b, dEq_s, dNe_s, dLen_l, dLen_t, dLen_s, dTupOf_l, dTupOf_t, nLstOf_l, nLstOf_t, dAbs_i, itemsD_l, itemsD_t, iSeq_ap, iSeqL_ap', seqL_l, iRng1_ap, iRng2_ap, iDown_ap, iEnum_ap, iZip_ap, zip2_l, isi_ap, isTy_int_non, isTy_int_bl, isTy_int_int, isTy_int_str, isTy_int_lst, isTy_int_tup, isTy_int_dct, isTy_bool_non, isTy_bool_bl, isTy_bool_int, isTy_bool_str, isTy_bool_lst, isTy_bool_tup, isTy_bool_dct, isTy_str_non, isTy_str_bl, isTy_str_int, isTy_str_str, isTy_str_lst, isTy_str_tup, isTy_str_dct, isTy_tuple_non, isTy_tuple_bl, isTy_tuple_int, isTy_tuple_str, isTy_tuple_lst, isTy_tuple_tup, isTy_tuple_dct, isTy_list_non, isTy_list_bl, isTy_list_int, isTy_list_str, isTy_list_lst, isTy_list_tup, isTy_list_dct, isTy_dict_non, isTy_dict_bl, isTy_dict_int, isTy_dict_str, isTy_dict_lst, isTy_dict_tup, isTy_dict_dct, dIx_l, dIx_t, nLc_ap, gN_ap, goOn_nx, goOn_rt, goOn_rtO, sSeq_ap, sNext_ap, sSet_ap, sOwn_ap, sTgt_ap, sRet_ap, retO_own, sRetO_ap, sIf_ap, sDrop_ap, sFor_ap, sApp_ap, sParN_ap, sParNK_ap, sVia_ap, eCall_ap, eCallV_ap, val_d, val_o, fin_rt, fin_rtO, fin_nx, DL.start, List.map_cons, List.map_nil, List.length_cons, List.length_nil, List.replicate, List.cons_append, List.nil_append, List.getElem?_cons_zero, List.getElem?_cons_succ, List.set_cons_zero, List.set_cons_succ, wipeG, Nat.reduceSub, Nat.reduceAdd, Nat.reduceLT, Nat.reduceLeDiff, if_true, if_false, Bool.not_true, Bool.not_false, Option.bind_some, Option.map_some, oB, isNonD_n, told, hg]; rfl
  | some x => simp -implicitDefEqProofs only [ob_some, ob_bind, ob_map, eC_ap, eN_ap, eV_ap, slotN_dat, slotV_dat, slotV_own, slotV_odc, e1_ap, e2_ap, n2_ap, nLen_ap, aN_ap, aC_ap, eApp_ap, eTup_ap, nLst_ap, mkTup_0, mkTup_1, mkTup_2, mkTup_3, mkTup_4, mkLst_0, eL_ap, tV_ap, asBl_bl, tU_ap, ifB_t, ifB_f, tAnd_ap, tOr_ap, tNot_ap, tYes_ap, eIf_ap, ifD_bl, eAnd_ap, eOr_ap, notD_bl, eNot_ap, eChain_ap, dAdd_i, dSub_i, dNeg_i, dLt_i, dLe_i, dGt_i, dGe_i, dIsN2_n, dNotB_b, dEq_i, dNe_i, dEq_b, dNe_b, dEq_s, dNe_s, dLen_l, dLen_t, dLen_s, dTupOf_l, dTupOf_t, nLstOf_l, nLstOf_t, dAbs_i, itemsD_l, itemsD_t, iSeq_ap, iSeqL_ap', seqL_l, iRng1_ap, iRng2_ap, iDown_ap, iEnum_ap, iZip_ap, zip2_l, isi_ap, isTy_int_non, isTy_int_bl, isTy_int_int, isTy_int_str, isTy_int_lst, isTy_int_tup, isTy_int_dct, isTy_bool_non, isTy_bool_bl, isTy_bool_int, isTy_bool_str, isTy_bool_lst, isTy_bool_tup, isTy_bool_dct, isTy_str_non, isTy_str_bl, isTy_str_int, isTy_str_str, isTy_str_lst, isTy_str_tup, isTy_str_dct, isTy_tuple_non, isTy_tuple_bl, isTy_tuple_int, isTy_tuple_str, isTy_tuple_lst, isTy_tuple_tup, isTy_tuple_dct, isTy_list_non, isTy_list_bl, isTy_list_int, isTy_list_str, isTy_list_lst, isTy_list_tup, isTy_list_dct, isTy_dict_non, isTy_dict_bl, isTy_dict_int, isTy_dict_str, isTy_dict_lst, isTy_dict_tup, isTy_dict_dct, dIx_l, dIx_t, nLc_ap, gN_ap, goOn_nx, goOn_rt, goOn_rtO, sSeq_ap, sNext_ap, sSet_ap, sOwn_ap, sTgt_ap, sRet_ap, retO_own, sRetO_ap, sIf_ap, sDrop_ap, sFor_ap, sApp_ap, sParN_ap, sParNK_ap, sVia_ap, eCall_ap, eCallV_ap, val_d, val_o, fin_rt, fin_rtO, fin_nx, DL.start, List.map_cons, List.map_nil, List.length_cons, List.length_nil, List.replicate, List.cons_append, List.nil_append, List.getElem?_cons_zero, List.getElem?_cons_succ, List.set_cons_zero, List.set_cons_succ, wipeG, Nat.reduceSub, Nat.reduceAdd, Nat.reduceLT, Nat.reduceLeDiff, if_true, if_false, Bool.not_true, Bool.not_false, Option.bind_some, Option.map_some, oB, isNonD_b, told, hg]
theorem is_half_ok (b : Nat) (c : List (Option Bool)) (h : c.length = b) (hb : b ≤ 4) : f_is_half [.tup (c.map oB), .int b] = some (.d (.bl true)) := by
  apply of_fn rfl
  unfold s_is_half
  subst h
  simp -implicitDefEqProofs only [ob_some, ob_bind, ob_map, eC_ap, eN_ap, eV_ap, slotN_dat, slotV_dat, slotV_own, slotV_odc, e1_ap, e2_ap, n2_ap, nLen_ap, aN_ap, aC_ap, eApp_ap, eTup_ap, nLst_ap, mkTup_0, mkTup_1, mkTup_2, mkTup_3, mkTup_4, mkLst_0, eL_ap, tV_ap, asBl_bl, tU_ap, ifB_t, ifB_f, tAnd_ap, tOr_ap, tNot_ap, tYes_ap, eIf_ap, ifD_bl, eAnd_ap, eOr_ap, notD_bl, eNot_ap, eChain_ap, dAdd_i, dSub_i, dNeg_i, dLt_i, dLe_i, dGt_i, dGe_i, dIsN2_n, dNotB_b, dEq_i, dNe_i, dEq_b, dNe_b, dEq_s, dNe_s, dLen_l, dLen_t, dLen_s, dTupOf_l, dTupOf_t, nLstOf_l, nLstOf_t, dAbs_i, itemsD_l, itemsD_t, iSeq_ap, iSeqL_ap', seqL_l, iRng1_ap, iRng2_ap, iDown_ap, iEnum_ap, iZip_ap, zip2_l, isi_ap, isTy_int_non, isTy_int_bl, isTy_int_int, isTy_int_str, isTy_int_lst, isTy_int_tup, isTy_int_dct, isTy_bool_non, isTy_bool_bl, isTy_bool_int, isTy_bool_str, isTy_bool_lst, isTy_bool_tup, isTy_bool_dct, isTy_str_non, isTy_str_bl, isTy_str_int, isTy_str_str, isTy_str_lst, isTy_str_tup, isTy_str_dct, isTy_tuple_non, isTy_tuple_bl, isTy_tuple_int, isTy_tuple_str, isTy_tuple_lst, isTy_tuple_tup, isTy_tuple_dct, isTy_list_non, isTy_list_bl, isTy_list_int, isTy_list_str, isTy_list_lst, isTy_list_tup, isTy_list_dct, isTy_dict_non, isTy_dict_bl, isTy_dict_int, isTy_dict_str, isTy_dict_lst, isTy_dict_tup, isTy_dict_dct, dIx_l, dIx_t, nLc_ap, gN_ap, goOn_nx, goOn_rt, goOn_rtO, sSeq_ap, sNext_ap, sSet_ap, sOwn_ap, sTgt_ap, sRet_ap, retO_own, sRetO_ap, sIf_ap, sDrop_ap, sFor_ap, sApp_ap, sParN_ap, sParNK_ap, sVia_ap, eCall_ap, eCallV_ap, val_d, val_o, fin_rt, fin_rtO, fin_nx, DL.start, List.map_cons, List.map_nil, List.length_cons, List.length_nil, List.replicate, List.cons_append, List.nil_append, List.getElem?_cons_zero, List.getElem?_cons_succ, List.set_cons_zero, List.set_cons_succ, wipeG, Nat.reduceSub, Nat.reduceAdd, Nat.reduceLT, Nat.reduceLeDiff, if_true, if_false, Bool.not_true, Bool.not_false, Option.bind_some, Option.map_some, List.length_map, beq_self_eq_true]
  refine ob_lcm oB (fun _ => .bl true) (fun x hx => ?_) (by simp only [lim]; omega) ?_
  · cases x <;> simp -implicitDefEqProofs only [ob_some, ob_bind, ob_map, eC_ap, eN_ap, eV_ap, slotN_dat, slotV_dat, slotV_own, slotV_odc, e1_ap, e2_ap, n2_ap, nLen_ap, aN_ap, aC_ap, eApp_ap, eTup_ap, nLst_ap, mkTup_0, mkTup_1, mkTup_2, mkTup_3, mkTup_4, mkLst_0, eL_ap, tV_ap, asBl_bl, tU_ap, ifB_t, ifB_f, tAnd_ap, tOr_ap, tNot_ap, tYes_ap, eIf_ap, ifD_bl, eAnd_ap, eOr_ap, notD_bl, eNot_ap, eChain_ap, dAdd_i, dSub_i, dNeg_i, dLt_i, dLe_i, dGt_i, dGe_i, dIsN2_n, dNotB_b, dEq_i, dNe_i, dEq_b, dNe_b, dEq_s, dNe_s, dLen_l, dLen_t, dLen_s, dTupOf_l, dTupOf_t, nLstOf_l, nLstOf_t, dAbs_i, itemsD_l, itemsD_t, iSeq_ap, iSeqL_ap', seqL_l, iRng1_ap, iRng2_ap, iDown_ap, iEnum_ap, iZip_ap, zip2_l, isi_ap, isTy_int_non, isTy_int_bl, isTy_int_int, isTy_int_str, isTy_int_lst, isTy_int_tup, isTy_int_dct, isTy_bool_non, isTy_bool_bl, isTy_bool_int, isTy_bool_str, isTy_bool_lst, isTy_bool_tup, isTy_bool_dct, isTy_str_non, isTy_str_bl, isTy_str_int, isTy_str_str, isTy_str_lst, isTy_str_tup, isTy_str_dct, isTy_tuple_non, isTy_tuple_bl, isTy_tuple_int, isTy_tuple_str, isTy_tuple_lst, isTy_tuple_tup, isTy_tuple_dct, isTy_list_non, isTy_list_bl, isTy_list_int, isTy_list_str, isTy_list_lst, isTy_list_tup, isTy_list_dct, isTy_dict_non, isTy_dict_bl, isTy_dict_int, isTy_dict_str, isTy_dict_lst, isTy_dict_tup, isTy_dict_dct, dIx_l, dIx_t, nLc_ap, gN_ap, goOn_nx, goOn_rt, goOn_rtO, sSeq_ap, sNext_ap, sSet_ap, sOwn_ap, sTgt_ap, sRet_ap, retO_own, sRetO_ap, sIf_ap, sDrop_ap, sFor_ap, sApp_ap, sParN_ap, sParNK_ap, sVia_ap, eCall_ap, eCallV_ap, val_d, val_o, fin_rt, fin_rtO, fin_nx, DL.start, List.map_cons, List.map_nil, List.length_cons, List.length_nil, List.replicate, List.cons_append, List.nil_append, List.getElem?_cons_zero, List.getElem?_cons_succ, List.set_cons_zero, List.set_cons_succ, wipeG, Nat.reduceSub, Nat.reduceAdd, Nat.reduceLT, Nat.reduceLeDiff, if_true, if_false, Bool.not_true, Bool.not_false, Option.bind_some, Option.map_some, oB, isNonD_n, isNonD_b, true_and]
  · simp -implicitDefEqProofs only [ob_some, ob_bind, ob_map, eC_ap, eN_ap, eV_ap, slotN_dat, slotV_dat, slotV_own, slotV_odc, e1_ap, e2_ap, n2_ap, nLen_ap, aN_ap, aC_ap, eApp_ap, eTup_ap, nLst_ap, mkTup_0, mkTup_1, mkTup_2, mkTup_3, mkTup_4, mkLst_0, eL_ap, tV_ap, asBl_bl, tU_ap, ifB_t, ifB_f, tAnd_ap, tOr_ap, tNot_ap, tYes_ap, eIf_ap, ifD_bl, eAnd_ap, eOr_ap, notD_bl, eNot_ap, eChain_ap, dAdd_i, dSub_i, dNeg_i, dLt_i, dLe_i, dGt_i, dGe_i, dIsN2_n, dNotB_b, dEq_i, dNe_i, dEq_b, dNe_b, dEq_s, dNe_s, dLen_l, dLen_t, dLen_s, dTupOf_l, dTupOf_t, nLstOf_l, nLstOf_t, dAbs_i, itemsD_l, itemsD_t, iSeq_ap, iSeqL_ap', seqL_l, iRng1_ap, iRng2_ap, iDown_ap, iEnum_ap, iZip_ap, zip2_l, isi_ap, isTy_int_non, isTy_int_bl, isTy_int_int, isTy_int_str, isTy_int_lst, isTy_int_tup, isTy_int_dct, isTy_bool_non, isTy_bool_bl, isTy_bool_int, isTy_bool_str, isTy_bool_lst, isTy_bool_tup, isTy_bool_dct, isTy_str_non, isTy_str_bl, isTy_str_int, isTy_str_str, isTy_str_lst, isTy_str_tup, isTy_str_dct, isTy_tuple_non, isTy_tuple_bl, isTy_tuple_int, isTy_tuple_str, isTy_tuple_lst, isTy_tuple_tup, isTy_tuple_dct, isTy_list_non, isTy_list_bl, isTy_list_int, isTy_list_str, isTy_list_lst, isTy_list_tup, isTy_list_dct, isTy_dict_non, isTy_dict_bl, isTy_dict_int, isTy_dict_str, isTy_dict_lst, isTy_dict_tup, isTy_dict_dct, dIx_l, dIx_t, nLc_ap, gN_ap, goOn_nx, goOn_rt, goOn_rtO, sSeq_ap, sNext_ap, sSet_ap, sOwn_ap, sTgt_ap, sRet_ap, retO_own, sRetO_ap, sIf_ap, sDrop_ap, sFor_ap, sApp_ap, sParN_ap, sParNK_ap, sVia_ap, eCall_ap, eCallV_ap, val_d, val_o, fin_rt, fin_rtO, fin_nx, DL.start, List.map_cons, List.map_nil, List.length_cons, List.length_nil, List.replicate, List.cons_append, List.nil_append, List.getElem?_cons_zero, List.getElem?_cons_succ, List.set_cons_zero, List.set_cons_succ, wipeG, Nat.reduceSub, Nat.reduceAdd, Nat.reduceLT, Nat.reduceLeDiff, if_true, if_false, Bool.not_true, Bool.not_false, Option.bind_some, Option.map_some, dAll_m]
    simp
theorem noL_oB (x : Option Bool) : noL (oB x) = true := by cases x <;> rfl
theorem known_values_eq {b : Nat} {rows : List (List Int)} (v : Valid b rows) (hb : b ≤ 4) (c : List (Option Bool)) (h : c.length = b) :
    f_known_values [gD b rows, .tup (c.map oB)] = some (.d (.tup ((kval rows c).map oB))) := by
  apply of_fn rfl
  unfold s_known_values
  simp -implicitDefEqProofs only [ob_some, ob_bind, ob_map, eC_ap, eN_ap, eV_ap, slotN_dat, slotV_dat, slotV_own, slotV_odc, e1_ap, e2_ap, n2_ap, nLen_ap, aN_ap, aC_ap, eApp_ap, eTup_ap, nLst_ap, mkTup_0, mkTup_1, mkTup_2, mkTup_3, mkTup_4, mkLst_0, eL_ap, tV_ap, asBl_bl, tU_ap, ifB_t, ifB_f, tAnd_ap, tOr_ap, tNot_ap, tYes_ap, eIf_ap, ifD_bl, eAnd_ap, eOr_ap, notD_bl, eNot_ap, eChain_ap, dAdd_i, dSub_i, dNeg_i, dLt_i, dLe_i, dGt_i, dGe_i, dIsN2_n, dNotB_b, dEq_i, dNe_i, dEq_b, dNe_b, dEq_s, dNe_s, dLen_l, dLen_t, dLen_s, dTupOf_l, dTupOf_t, nLstOf_l, nLstOf_t, dAbs_i, itemsD_l, itemsD_t, iSeq_ap, iSeqL_ap', seqL_l, iRng1_ap, iRng2_ap, iDown_ap, iEnum_ap, iZip_ap, zip2_l, isi_ap, isTy_int_non, isTy_int_bl, isTy_int_int, isTy_int_str, isTy_int_lst, isTy_int_tup, isTy_int_dct, isTy_bool_non, isTy_bool_bl, isTy_bool_int, isTy_bool_str, isTy_bool_lst, isTy_bool_tup, isTy_bool_dct, isTy_str_non, isTy_str_bl, isTy_str_int, isTy_str_str, isTy_str_lst, isTy_str_tup, isTy_str_dct, isTy_tuple_non, isTy_tuple_bl, isTy_tuple_int, isTy_tuple_str, isTy_tuple_lst, isTy_tuple_tup, isTy_tuple_dct, isTy_list_non, isTy_list_bl, isTy_list_int, isTy_list_str, isTy_list_lst, isTy_list_tup, isTy_list_dct, isTy_dict_non, isTy_dict_bl, isTy_dict_int, isTy_dict_str, isTy_dict_lst, isTy_dict_tup, isTy_dict_dct, dIx_l, dIx_t, nLc_ap, gN_ap, goOn_nx, goOn_rt, goOn_rtO, sSeq_ap, sNext_ap, sSet_ap, sOwn_ap, sTgt_ap, sRet_ap, retO_own, sRetO_ap, sIf_ap, sDrop_ap, sFor_ap, sApp_ap, sParN_ap, sParNK_ap, sVia_ap, eCall_ap, eCallV_ap, val_d, val_o, fin_rt, fin_rtO, fin_nx, DL.start, List.map_cons, List.map_nil, List.length_cons, List.length_nil, List.replicate, List.cons_append, List.nil_append, List.getElem?_cons_zero, List.getElem?_cons_succ, List.set_cons_zero, List.set_cons_succ, wipeG, Nat.reduceSub, Nat.reduceAdd, Nat.reduceLT, Nat.reduceLeDiff, if_true, if_false, Bool.not_true, Bool.not_false, Option.bind_some, Option.map_some, check_gates_ok v hb]
  have i1 : dIx (gD b rows) (.int 1) = some (.int b) := rfl
  have i2 : dIx (gD b rows) (.int 2) = some (.tup (rows.map tI)) := rfl
  simp -implicitDefEqProofs only [ob_some, ob_bind, ob_map, eC_ap, eN_ap, eV_ap, slotN_dat, slotV_dat, slotV_own, slotV_odc, e1_ap, e2_ap, n2_ap, nLen_ap, aN_ap, aC_ap, eApp_ap, eTup_ap, nLst_ap, mkTup_0, mkTup_1, mkTup_2, mkTup_3, mkTup_4, mkLst_0, eL_ap, tV_ap, asBl_bl, tU_ap, ifB_t, ifB_f, tAnd_ap, tOr_ap, tNot_ap, tYes_ap, eIf_ap, ifD_bl, eAnd_ap, eOr_ap, notD_bl, eNot_ap, eChain_ap, dAdd_i, dSub_i, dNeg_i, dLt_i, dLe_i, dGt_i, dGe_i, dIsN2_n, dNotB_b, dEq_i, dNe_i, dEq_b, dNe_b, dEq_s, dNe_s, dLen_l, dLen_t, dLen_s, dTupOf_l, dTupOf_t, nLstOf_l, nLstOf_t, dAbs_i, itemsD_l, itemsD_t, iSeq_ap, iSeqL_ap', seqL_l, iRng1_ap, iRng2_ap, iDown_ap, iEnum_ap, iZip_ap, zip2_l, isi_ap, isTy_int_non, isTy_int_bl, isTy_int_int, isTy_int_str, isTy_int_lst, isTy_int_tup, isTy_int_dct, isTy_bool_non, isTy_bool_bl, isTy_bool_int, isTy_bool_str, isTy_bool_lst, isTy_bool_tup, isTy_bool_dct, isTy_str_non, isTy_str_bl, isTy_str_int, isTy_str_str, isTy_str_lst, isTy_str_tup, isTy_str_dct, isTy_tuple_non, isTy_tuple_bl, isTy_tuple_int, isTy_tuple_str, isTy_tuple_lst, isTy_tuple_tup, isTy_tuple_dct, isTy_list_non, isTy_list_bl, isTy_list_int, isTy_list_str, isTy_list_lst, isTy_list_tup, isTy_list_dct, isTy_dict_non, isTy_dict_bl, isTy_dict_int, isTy_dict_str, isTy_dict_lst, isTy_dict_tup, isTy_dict_dct, dIx_l, dIx_t, nLc_ap, gN_ap, goOn_nx, goOn_rt, goOn_rtO, sSeq_ap, sNext_ap, sSet_ap, sOwn_ap, sTgt_ap, sRet_ap, retO_own, sRetO_ap, sIf_ap, sDrop_ap, sFor_ap, sApp_ap, sParN_ap, sParNK_ap, sVia_ap, eCall_ap, eCallV_ap, val_d, val_o, fin_rt, fin_rtO, fin_nx, DL.start, List.map_cons, List.map_nil, List.length_cons, List.length_nil, List.replicate, List.cons_append, List.nil_append, List.getElem?_cons_zero, List.getElem?_cons_succ, List.set_cons_zero, List.set_cons_succ, wipeG, Nat.reduceSub, Nat.reduceAdd, Nat.reduceLT, Nat.reduceLeDiff, if_true, if_false, Bool.not_true, Bool.not_false, Option.bind_some, Option.map_some, i1, i2, is_half_ok b c h hb]
  refine ob_for tI (fun pre g => ∃ s t u, g = [.dat (gD b rows), .dat (.tup (c.map oB)), .own ((kval pre c).map oB), s, t, u]) ⟨_, _, _, rfl⟩ ?_ ?_
  · rintro pre x post g e ⟨s, t, u, rfl⟩
    obtain ⟨v1, v2, v3⟩ := valid_at v e
    have hl : (kval pre c).length = b + pre.length := by rw [kval_len, h]
    simp -implicitDefEqProofs only [ob_some, ob_bind, ob_map, eC_ap, eN_ap, eV_ap, slotN_dat, slotV_dat, slotV_own, slotV_odc, e1_ap, e2_ap, n2_ap, nLen_ap, aN_ap, aC_ap, eApp_ap, eTup_ap, nLst_ap, mkTup_0, mkTup_1, mkTup_2, mkTup_3, mkTup_4, mkLst_0, eL_ap, tV_ap, asBl_bl, tU_ap, ifB_t, ifB_f, tAnd_ap, tOr_ap, tNot_ap, tYes_ap, eIf_ap, ifD_bl, eAnd_ap, eOr_ap, notD_bl, eNot_ap, eChain_ap, dAdd_i, dSub_i, dNeg_i, dLt_i, dLe_i, dGt_i, dGe_i, dIsN2_n, dNotB_b, dEq_i, dNe_i, dEq_b, dNe_b, dEq_s, dNe_s, dLen_l, dLen_t, dLen_s, dTupOf_l, dTupOf_t, nLstOf_l, nLstOf_t, dAbs_i, itemsD_l, itemsD_t, iSeq_ap, iSeqL_ap', seqL_l, iRng1_ap, iRng2_ap, iDown_ap, iEnum_ap, iZip_ap, zip2_l, isi_ap, isTy_int_non, isTy_int_bl, isTy_int_int, isTy_int_str, isTy_int_lst, isTy_int_tup, isTy_int_dct, isTy_bool_non, isTy_bool_bl, isTy_bool_int, isTy_bool_str, isTy_bool_lst, isTy_bool_tup, isTy_bool_dct, isTy_str_non, isTy_str_bl, isTy_str_int, isTy_str_str, isTy_str_lst, isTy_str_tup, isTy_str_dct, isTy_tuple_non, isTy_tuple_bl, isTy_tuple_int, isTy_tuple_str, isTy_tuple_lst, isTy_tuple_tup, isTy_tuple_dct, isTy_list_non, isTy_list_bl, isTy_list_int, isTy_list_str, isTy_list_lst, isTy_list_tup, isTy_list_dct, isTy_dict_non, isTy_dict_bl, isTy_dict_int, isTy_dict_str, isTy_dict_lst, isTy_dict_tup, isTy_dict_dct, dIx_l, dIx_t, nLc_ap, gN_ap, goOn_nx, goOn_rt, goOn_rtO, sSeq_ap, sNext_ap, sSet_ap, sOwn_ap, sTgt_ap, sRet_ap, retO_own, sRetO_ap, sIf_ap, sDrop_ap, sFor_ap, sApp_ap, sParN_ap, sParNK_ap, sVia_ap, eCall_ap, eCallV_ap, val_d, val_o, fin_rt, fin_rtO, fin_nx, DL.start, List.map_cons, List.map_nil, List.length_cons, List.length_nil, List.replicate, List.cons_append, List.nil_append, List.getElem?_cons_zero, List.getElem?_cons_succ, List.set_cons_zero, List.set_cons_succ, wipeG, Nat.reduceSub, Nat.reduceAdd, Nat.reduceLT, Nat.reduceLeDiff, if_true, if_false, Bool.not_true, Bool.not_false, Option.bind_some, Option.map_some, tI]
    refine ob_lcm .int (fun l => oB (told (kval pre c) l)) (fun l hl2 => ?_) (by simp only [lim]; omega) ?_
    · have := v1 l hl2
      simp -implicitDefEqProofs only [ob_some, ob_bind, ob_map, eC_ap, eN_ap, eV_ap, slotN_dat, slotV_dat, slotV_own, slotV_odc, e1_ap, e2_ap, n2_ap, nLen_ap, aN_ap, aC_ap, eApp_ap, eTup_ap, nLst_ap, mkTup_0, mkTup_1, mkTup_2, mkTup_3, mkTup_4, mkLst_0, eL_ap, tV_ap, asBl_bl, tU_ap, ifB_t, ifB_f, tAnd_ap, tOr_ap, tNot_ap, tYes_ap, eIf_ap, ifD_bl, eAnd_ap, eOr_ap, notD_bl, eNot_ap, eChain_ap, dAdd_i, dSub_i, dNeg_i, dLt_i, dLe_i, dGt_i, dGe_i, dIsN2_n, dNotB_b, dEq_i, dNe_i, dEq_b, dNe_b, dEq_s, dNe_s, dLen_l, dLen_t, dLen_s, dTupOf_l, dTupOf_t, nLstOf_l, nLstOf_t, dAbs_i, itemsD_l, itemsD_t, iSeq_ap, iSeqL_ap', seqL_l, iRng1_ap, iRng2_ap, iDown_ap, iEnum_ap, iZip_ap, zip2_l, isi_ap, isTy_int_non, isTy_int_bl, isTy_int_int, isTy_int_str, isTy_int_lst, isTy_int_tup, isTy_int_dct, isTy_bool_non, isTy_bool_bl, isTy_bool_int, isTy_bool_str, isTy_bool_lst, isTy_bool_tup, isTy_bool_dct, isTy_str_non, isTy_str_bl, isTy_str_int, isTy_str_str, isTy_str_lst, isTy_str_tup, isTy_str_dct, isTy_tuple_non, isTy_tuple_bl, isTy_tuple_int, isTy_tuple_str, isTy_tuple_lst, isTy_tuple_tup, isTy_tuple_dct, isTy_list_non, isTy_list_bl, isTy_list_int, isTy_list_str, isTy_list_lst, isTy_list_tup, isTy_list_dct, isTy_dict_non, isTy_dict_bl, isTy_dict_int, isTy_dict_str, isTy_dict_lst, isTy_dict_tup, isTy_dict_dct, dIx_l, dIx_t, nLc_ap, gN_ap, goOn_nx, goOn_rt, goOn_rtO, sSeq_ap, sNext_ap, sSet_ap, sOwn_ap, sTgt_ap, sRet_ap, retO_own, sRetO_ap, sIf_ap, sDrop_ap, sFor_ap, sApp_ap, sParN_ap, sParNK_ap, sVia_ap, eCall_ap, eCallV_ap, val_d, val_o, fin_rt, fin_rtO, fin_nx, DL.start, List.map_cons, List.map_nil, List.length_cons, List.length_nil, List.replicate, List.cons_append, List.nil_append, List.getElem?_cons_zero, List.getElem?_cons_succ, List.set_cons_zero, List.set_cons_succ, wipeG, Nat.reduceSub, Nat.reduceAdd, Nat.reduceLT, Nat.reduceLeDiff, if_true, if_false, Bool.not_true, Bool.not_false, Option.bind_some, Option.map_some, known_literal_eq (kval pre c) l this.1 (by omega), lookAt_d _ (noL_oB _), true_and]
    · have e1 : x.map (fun l => oB (told (kval pre c) l)) = (x.map (told (kval pre c))).map oB := by simp
      rw [e1]
      simp -implicitDefEqProofs only [ob_some, ob_bind, ob_map, eC_ap, eN_ap, eV_ap, slotN_dat, slotV_dat, slotV_own, slotV_odc, e1_ap, e2_ap, n2_ap, nLen_ap, aN_ap, aC_ap, eApp_ap, eTup_ap, nLst_ap, mkTup_0, mkTup_1, mkTup_2, mkTup_3, mkTup_4, mkLst_0, eL_ap, tV_ap, asBl_bl, tU_ap, ifB_t, ifB_f, tAnd_ap, tOr_ap, tNot_ap, tYes_ap, eIf_ap, ifD_bl, eAnd_ap, eOr_ap, notD_bl, eNot_ap, eChain_ap, dAdd_i, dSub_i, dNeg_i, dLt_i, dLe_i, dGt_i, dGe_i, dIsN2_n, dNotB_b, dEq_i, dNe_i, dEq_b, dNe_b, dEq_s, dNe_s, dLen_l, dLen_t, dLen_s, dTupOf_l, dTupOf_t, nLstOf_l, nLstOf_t, dAbs_i, itemsD_l, itemsD_t, iSeq_ap, iSeqL_ap', seqL_l, iRng1_ap, iRng2_ap, iDown_ap, iEnum_ap, iZip_ap, zip2_l, isi_ap, isTy_int_non, isTy_int_bl, isTy_int_int, isTy_int_str, isTy_int_lst, isTy_int_tup, isTy_int_dct, isTy_bool_non, isTy_bool_bl, isTy_bool_int, isTy_bool_str, isTy_bool_lst, isTy_bool_tup, isTy_bool_dct, isTy_str_non, isTy_str_bl, isTy_str_int, isTy_str_str, isTy_str_lst, isTy_str_tup, isTy_str_dct, isTy_tuple_non, isTy_tuple_bl, isTy_tuple_int, isTy_tuple_str, isTy_tuple_lst, isTy_tuple_tup, isTy_tuple_dct, isTy_list_non, isTy_list_bl, isTy_list_int, isTy_list_str, isTy_list_lst, isTy_list_tup, isTy_list_dct, isTy_dict_non, isTy_dict_bl, isTy_dict_int, isTy_dict_str, isTy_dict_lst, isTy_dict_tup, isTy_dict_dct, dIx_l, dIx_t, nLc_ap, gN_ap, goOn_nx, goOn_rt, goOn_rtO, sSeq_ap, sNext_ap, sSet_ap, sOwn_ap, sTgt_ap, sRet_ap, retO_own, sRetO_ap, sIf_ap, sDrop_ap, sFor_ap, sApp_ap, sParN_ap, sParNK_ap, sVia_ap, eCall_ap, eCallV_ap, val_d, val_o, fin_rt, fin_rtO, fin_nx, DL.start, List.map_cons, List.map_nil, List.length_cons, List.length_nil, List.replicate, List.cons_append, List.nil_append, List.getElem?_cons_zero, List.getElem?_cons_succ, List.set_cons_zero, List.set_cons_succ, wipeG, Nat.reduceSub, Nat.reduceAdd, Nat.reduceLT, Nat.reduceLeDiff, if_true, if_false, Bool.not_true, Bool.not_false, Option.bind_some, Option.map_some, in_false, in_none]
      have fin : ∀ (a3 a4 a5 : Slot) (d : D), d = oB (kand (kval pre c) x) → Ob (appTo 2 [Slot.dat (gD b rows), Slot.dat (D.tup (List.map oB c)), Slot.own (List.map oB (kval pre c)), a3, a4, a5] d (some (Slot.own (List.map oB (kval pre c)))))
          fun o => ∃ g2, o = Out.nx g2 ∧ ∃ s t u, g2 = [.dat (gD b rows), .dat (.tup (c.map oB)), .own ((kval (pre ++ [x]) c).map oB), s, t, u] := by
        rintro a3 a4 a5 d rfl
        simp -implicitDefEqProofs only [ob_some, ob_bind, ob_map, eC_ap, eN_ap, eV_ap, slotN_dat, slotV_dat, slotV_own, slotV_odc, e1_ap, e2_ap, n2_ap, nLen_ap, aN_ap, aC_ap, eApp_ap, eTup_ap, nLst_ap, mkTup_0, mkTup_1, mkTup_2, mkTup_3, mkTup_4, mkLst_0, eL_ap, tV_ap, asBl_bl, tU_ap, ifB_t, ifB_f, tAnd_ap, tOr_ap, tNot_ap, tYes_ap, eIf_ap, ifD_bl, eAnd_ap, eOr_ap, notD_bl, eNot_ap, eChain_ap, dAdd_i, dSub_i, dNeg_i, dLt_i, dLe_i, dGt_i, dGe_i, dIsN2_n, dNotB_b, dEq_i, dNe_i, dEq_b, dNe_b, dEq_s, dNe_s, dLen_l, dLen_t, dLen_s, dTupOf_l, dTupOf_t, nLstOf_l, nLstOf_t, dAbs_i, itemsD_l, itemsD_t, iSeq_ap, iSeqL_ap', seqL_l, iRng1_ap, iRng2_ap, iDown_ap, iEnum_ap, iZip_ap, zip2_l, isi_ap, isTy_int_non, isTy_int_bl, isTy_int_int, isTy_int_str, isTy_int_lst, isTy_int_tup, isTy_int_dct, isTy_bool_non, isTy_bool_bl, isTy_bool_int, isTy_bool_str, isTy_bool_lst, isTy_bool_tup, isTy_bool_dct, isTy_str_non, isTy_str_bl, isTy_str_int, isTy_str_str, isTy_str_lst, isTy_str_tup, isTy_str_dct, isTy_tuple_non, isTy_tuple_bl, isTy_tuple_int, isTy_tuple_str, isTy_tuple_lst, isTy_tuple_tup, isTy_tuple_dct, isTy_list_non, isTy_list_bl, isTy_list_int, isTy_list_str, isTy_list_lst, isTy_list_tup, isTy_list_dct, isTy_dict_non, isTy_dict_bl, isTy_dict_int, isTy_dict_str, isTy_dict_lst, isTy_dict_tup, isTy_dict_dct, dIx_l, dIx_t, nLc_ap, gN_ap, goOn_nx, goOn_rt, goOn_rtO, sSeq_ap, sNext_ap, sSet_ap, sOwn_ap, sTgt_ap, sRet_ap, retO_own, sRetO_ap, sIf_ap, sDrop_ap, sFor_ap, sApp_ap, sParN_ap, sParNK_ap, sVia_ap, eCall_ap, eCallV_ap, val_d, val_o, fin_rt, fin_rtO, fin_nx, DL.start, List.map_cons, List.map_nil, List.length_cons, List.length_nil, List.replicate, List.cons_append, List.nil_append, List.getElem?_cons_zero, List.getElem?_cons_succ, List.set_cons_zero, List.set_cons_succ, wipeG, Nat.reduceSub, Nat.reduceAdd, Nat.reduceLT, Nat.reduceLeDiff, if_true, if_false, Bool.not_true, Bool.not_false, Option.bind_some, Option.map_some, appTo_own _ _ _ ((kval pre c).map oB) (by simp only [List.length_map, lim]; omega)]
        exact ⟨_, rfl, _, _, _, by rw [kval_app]; simp; exact ⟨rfl, rfl, rfl⟩⟩
      cases h1 : (x.map (told (kval pre c))).any (· == some false) with
      | true => simp -implicitDefEqProofs only [ob_some, ob_bind, ob_map, eC_ap, eN_ap, eV_ap, slotN_dat, slotV_dat, slotV_own, slotV_odc, e1_ap, e2_ap, n2_ap, nLen_ap, aN_ap, aC_ap, eApp_ap, eTup_ap, nLst_ap, mkTup_0, mkTup_1, mkTup_2, mkTup_3, mkTup_4, mkLst_0, eL_ap, tV_ap, asBl_bl, tU_ap, ifB_t, ifB_f, tAnd_ap, tOr_ap, tNot_ap, tYes_ap, eIf_ap, ifD_bl, eAnd_ap, eOr_ap, notD_bl, eNot_ap, eChain_ap, dAdd_i, dSub_i, dNeg_i, dLt_i, dLe_i, dGt_i, dGe_i, dIsN2_n, dNotB_b, dEq_i, dNe_i, dEq_b, dNe_b, dEq_s, dNe_s, dLen_l, dLen_t, dLen_s, dTupOf_l, dTupOf_t, nLstOf_l, nLstOf_t, dAbs_i, itemsD_l, itemsD_t, iSeq_ap, iSeqL_ap', seqL_l, iRng1_ap, iRng2_ap, iDown_ap, iEnum_ap, iZip_ap, zip2_l, isi_ap, isTy_int_non, isTy_int_bl, isTy_int_int, isTy_int_str, isTy_int_lst, isTy_int_tup, isTy_int_dct, isTy_bool_non, isTy_bool_bl, isTy_bool_int, isTy_bool_str, isTy_bool_lst, isTy_bool_tup, isTy_bool_dct, isTy_str_non, isTy_str_bl, isTy_str_int, isTy_str_str, isTy_str_lst, isTy_str_tup, isTy_str_dct, isTy_tuple_non, isTy_tuple_bl, isTy_tuple_int, isTy_tuple_str, isTy_tuple_lst, isTy_tuple_tup, isTy_tuple_dct, isTy_list_non, isTy_list_bl, isTy_list_int, isTy_list_str, isTy_list_lst, isTy_list_tup, isTy_list_dct, isTy_dict_non, isTy_dict_bl, isTy_dict_int, isTy_dict_str, isTy_dict_lst, isTy_dict_tup, isTy_dict_dct, dIx_l, dIx_t, nLc_ap, gN_ap, goOn_nx, goOn_rt, goOn_rtO, sSeq_ap, sNext_ap, sSet_ap, sOwn_ap, sTgt_ap, sRet_ap, retO_own, sRetO_ap, sIf_ap, sDrop_ap, sFor_ap, sApp_ap, sParN_ap, sParNK_ap, sVia_ap, eCall_ap, eCallV_ap, val_d, val_o, fin_rt, fin_rtO, fin_nx, DL.start, List.map_cons, List.map_nil, List.length_cons, List.length_nil, List.replicate, List.cons_append, List.nil_append, List.getElem?_cons_zero, List.getElem?_cons_succ, List.set_cons_zero, List.set_cons_succ, wipeG, Nat.reduceSub, Nat.reduceAdd, Nat.reduceLT, Nat.reduceLeDiff, if_true, if_false, Bool.not_true, Bool.not_false, Option.bind_some, Option.map_some]; refine fin _ _ _ _ ?_; simp only [kand, h1, if_true]; rfl
      | false =>
        cases h2 : (x.map (told (kval pre c))).any (· == none) with
        | true => simp -implicitDefEqProofs only [ob_some, ob_bind, ob_map, eC_ap, eN_ap, eV_ap, slotN_dat, slotV_dat, slotV_own, slotV_odc, e1_ap, e2_ap, n2_ap, nLen_ap, aN_ap, aC_ap, eApp_ap, eTup_ap, nLst_ap, mkTup_0, mkTup_1, mkTup_2, mkTup_3, mkTup_4, mkLst_0, eL_ap, tV_ap, asBl_bl, tU_ap, ifB_t, ifB_f, tAnd_ap, tOr_ap, tNot_ap, tYes_ap, eIf_ap, ifD_bl, eAnd_ap, eOr_ap, notD_bl, eNot_ap, eChain_ap, dAdd_i, dSub_i, dNeg_i, dLt_i, dLe_i, dGt_i, dGe_i, dIsN2_n, dNotB_b, dEq_i, dNe_i, dEq_b, dNe_b, dEq_s, dNe_s, dLen_l, dLen_t, dLen_s, dTupOf_l, dTupOf_t, nLstOf_l, nLstOf_t, dAbs_i, itemsD_l, itemsD_t, iSeq_ap, iSeqL_ap', seqL_l, iRng1_ap, iRng2_ap, iDown_ap, iEnum_ap, iZip_ap, zip2_l, isi_ap, isTy_int_non, isTy_int_bl, isTy_int_int, isTy_int_str, isTy_int_lst, isTy_int_tup, isTy_int_dct, isTy_bool_non, isTy_bool_bl, isTy_bool_int, isTy_bool_str, isTy_bool_lst, isTy_bool_tup, isTy_bool_dct, isTy_str_non, isTy_str_bl, isTy_str_int, isTy_str_str, isTy_str_lst, isTy_str_tup, isTy_str_dct, isTy_tuple_non, isTy_tuple_bl, isTy_tuple_int, isTy_tuple_str, isTy_tuple_lst, isTy_tuple_tup, isTy_tuple_dct, isTy_list_non, isTy_list_bl, isTy_list_int, isTy_list_str, isTy_list_lst, isTy_list_tup, isTy_list_dct, isTy_dict_non, isTy_dict_bl, isTy_dict_int, isTy_dict_str, isTy_dict_lst, isTy_dict_tup, isTy_dict_dct, dIx_l, dIx_t, nLc_ap, gN_ap, goOn_nx, goOn_rt, goOn_rtO, sSeq_ap, sNext_ap, sSet_ap, sOwn_ap, sTgt_ap, sRet_ap, retO_own, sRetO_ap, sIf_ap, sDrop_ap, sFor_ap, sApp_ap, sParN_ap, sParNK_ap, sVia_ap, eCall_ap, eCallV_ap, val_d, val_o, fin_rt, fin_rtO, fin_nx, DL.start, List.map_cons, List.map_nil, List.length_cons, List.length_nil, List.replicate, List.cons_append, List.nil_append, List.getElem?_cons_zero, List.getElem?_cons_succ, List.set_cons_zero, List.set_cons_succ, wipeG, Nat.reduceSub, Nat.reduceAdd, Nat.reduceLT, Nat.reduceLeDiff, if_true, if_false, Bool.not_true, Bool.not_false, Option.bind_some, Option.map_some]; refine fin _ _ _ _ ?_; simp only [kand, h1, h2, if_true]; rfl
        | false => simp -implicitDefEqProofs only [ob_some, ob_bind, ob_map, eC_ap, eN_ap, eV_ap, slotN_dat, slotV_dat, slotV_own, slotV_odc, e1_ap, e2_ap, n2_ap, nLen_ap, aN_ap, aC_ap, eApp_ap, eTup_ap, nLst_ap, mkTup_0, mkTup_1, mkTup_2, mkTup_3, mkTup_4, mkLst_0, eL_ap, tV_ap, asBl_bl, tU_ap, ifB_t, ifB_f, tAnd_ap, tOr_ap, tNot_ap, tYes_ap, eIf_ap, ifD_bl, eAnd_ap, eOr_ap, notD_bl, eNot_ap, eChain_ap, dAdd_i, dSub_i, dNeg_i, dLt_i, dLe_i, dGt_i, dGe_i, dIsN2_n, dNotB_b, dEq_i, dNe_i, dEq_b, dNe_b, dEq_s, dNe_s, dLen_l, dLen_t, dLen_s, dTupOf_l, dTupOf_t, nLstOf_l, nLstOf_t, dAbs_i, itemsD_l, itemsD_t, iSeq_ap, iSeqL_ap', seqL_l, iRng1_ap, iRng2_ap, iDown_ap, iEnum_ap, iZip_ap, zip2_l, isi_ap, isTy_int_non, isTy_int_bl, isTy_int_int, isTy_int_str, isTy_int_lst, isTy_int_tup, isTy_int_dct, isTy_bool_non, isTy_bool_bl, isTy_bool_int, isTy_bool_str, isTy_bool_lst, isTy_bool_tup, isTy_bool_dct, isTy_str_non, isTy_str_bl, isTy_str_int, isTy_str_str, isTy_str_lst, isTy_str_tup, isTy_str_dct, isTy_tuple_non, isTy_tuple_bl, isTy_tuple_int, isTy_tuple_str, isTy_tuple_lst, isTy_tuple_tup, isTy_tuple_dct, isTy_list_non, isTy_list_bl, isTy_list_int, isTy_list_str, isTy_list_lst, isTy_list_tup, isTy_list_dct, isTy_dict_non, isTy_dict_bl, isTy_dict_int, isTy_dict_str, isTy_dict_lst, isTy_dict_tup, isTy_dict_dct, dIx_l, dIx_t, nLc_ap, gN_ap, goOn_nx, goOn_rt, goOn_rtO, sSeq_ap, sNext_ap, sSet_ap, sOwn_ap, sTgt_ap, sRet_ap, retO_own, sRetO_ap, sIf_ap, sDrop_ap, sFor_ap, sApp_ap, sParN_ap, sParNK_ap, sVia_ap, eCall_ap, eCallV_ap, val_d, val_o, fin_rt, fin_rtO, fin_nx, DL.start, List.map_cons, List.map_nil, List.length_cons, List.length_nil, List.replicate, List.cons_append, List.nil_append, List.getElem?_cons_zero, List.getElem?_cons_succ, List.set_cons_zero, List.set_cons_succ, wipeG, Nat.reduceSub, Nat.reduceAdd, Nat.reduceLT, Nat.reduceLeDiff, if_true, if_false, Bool.not_true, Bool.not_false, Option.bind_some, Option.map_some]; refine fin _ _ _ _ ?_; simp only [kand, h1, h2]; rfl
  · rintro g ⟨s, t, u, rfl⟩
    simp -implicitDefEqProofs only [ob_some, ob_bind, ob_map, eC_ap, eN_ap, eV_ap, slotN_dat, slotV_dat, slotV_own, slotV_odc, e1_ap, e2_ap, n2_ap, nLen_ap, aN_ap, aC_ap, eApp_ap, eTup_ap, nLst_ap, mkTup_0, mkTup_1, mkTup_2, mkTup_3, mkTup_4, mkLst_0, eL_ap, tV_ap, asBl_bl, tU_ap, ifB_t, ifB_f, tAnd_ap, tOr_ap, tNot_ap, tYes_ap, eIf_ap, ifD_bl, eAnd_ap, eOr_ap, notD_bl, eNot_ap, eChain_ap, dAdd_i, dSub_i, dNeg_i, dLt_i, dLe_i, dGt_i, dGe_i, dIsN2_n, dNotB_b, dEq_i, dNe_i, dEq_b, dNe_b, dEq_s, dNe_s, dLen_l, dLen_t, dLen_s, dTupOf_l, dTupOf_t, nLstOf_l, nLstOf_t, dAbs_i, itemsD_l, itemsD_t, iSeq_ap, iSeqL_ap', seqL_l, iRng1_ap, iRng2_ap, iDown_ap, iEnum_ap, iZip_ap, zip2_l, isi_ap, isTy_int_non, isTy_int_bl, isTy_int_int, isTy_int_str, isTy_int_lst, isTy_int_tup, isTy_int_dct, isTy_bool_non, isTy_bool_bl, isTy_bool_int, isTy_bool_str, isTy_bool_lst, isTy_bool_tup, isTy_bool_dct, isTy_str_non, isTy_str_bl, isTy_str_int, isTy_str_str, isTy_str_lst, isTy_str_tup, isTy_str_dct, isTy_tuple_non, isTy_tuple_bl, isTy_tuple_int, isTy_tuple_str, isTy_tuple_lst, isTy_tuple_tup, isTy_tuple_dct, isTy_list_non, isTy_list_bl, isTy_list_int, isTy_list_str, isTy_list_lst, isTy_list_tup, isTy_list_dct, isTy_dict_non, isTy_dict_bl, isTy_dict_int, isTy_dict_str, isTy_dict_lst, isTy_dict_tup, isTy_dict_dct, dIx_l, dIx_t, nLc_ap, gN_ap, goOn_nx, goOn_rt, goOn_rtO, sSeq_ap, sNext_ap, sSet_ap, sOwn_ap, sTgt_ap, sRet_ap, retO_own, sRetO_ap, sIf_ap, sDrop_ap, sFor_ap, sApp_ap, sParN_ap, sParNK_ap, sVia_ap, eCall_ap, eCallV_ap, val_d, val_o, fin_rt, fin_rtO, fin_nx, DL.start, List.map_cons, List.map_nil, List.length_cons, List.length_nil, List.replicate, List.cons_append, List.nil_append, List.getElem?_cons_zero, List.getElem?_cons_succ, List.set_cons_zero, List.set_cons_succ, wipeG, Nat.reduceSub, Nat.reduceAdd, Nat.reduceLT, Nat.reduceLeDiff, if_true, if_false, Bool.not_true, Bool.not_false, Option.bind_some, Option.map_some]
end Gk00
end
/-! T5 -/
section
set_option linter.all false
namespace Gk00
open PySem DL DM

theorem law_values_eq {b : Nat} {rows : List (List Int)} (v : Valid b rows) (c : List (Option Bool)) (h : c.length = b) :
    (hb : b ≤ 4) → f__law_values [.lst (rows.map tI), .tup (c.map oB)] = some (.o ((kval rows c).map oB)) := by
  intro hb
  apply of_fn rfl
  unfold s__law_values
  simp -implicitDefEqProofs only [ob_some, ob_bind, ob_map, eC_ap, eN_ap, eV_ap, slotN_dat, slotV_dat, slotV_own, slotV_odc, e1_ap, e2_ap, n2_ap, nLen_ap, aN_ap, aC_ap, eApp_ap, eTup_ap, nLst_ap, mkTup_0, mkTup_1, mkTup_2, mkTup_3, mkTup_4, mkLst_0, eL_ap, tV_ap, asBl_bl, tU_ap, ifB_t, ifB_f, tAnd_ap, tOr_ap, tNot_ap, tYes_ap, eIf_ap, ifD_bl, eAnd_ap, eOr_ap, notD_bl, eNot_ap, eChain_ap, dAdd_i, dSub_i, dNeg_i, dLt_i, dLe_i, dGt_i, dGe_i, dIsN2_n, dNotB_b, dEq_i, dNe_i, dEq_b, dNe_b, dEq_s, dNe_s, dLen_l, dLen_t, dLen_s, dTupOf_l, dTupOf_t, nLstOf_l, nLstOf_t, dAbs_i, itemsD_l, itemsD_t, iSeq_ap, iSeqL_ap', seqL_l, iRng1_ap, iRng2_ap, iDown_ap, iEnum_ap, iZip_ap, zip2_l, isi_ap, isTy_int_non, isTy_int_bl, isTy_int_int, isTy_int_str, isTy_int_lst, isTy_int_tup, isTy_int_dct, isTy_bool_non, isTy_bool_bl, isTy_bool_int, isTy_bool_str, isTy_bool_lst, isTy_bool_tup, isTy_bool_dct, isTy_str_non, isTy_str_bl, isTy_str_int, isTy_str_str, isTy_str_lst, isTy_str_tup, isTy_str_dct, isTy_tuple_non, isTy_tuple_bl, isTy_tuple_int, isTy_tuple_str, isTy_tuple_lst, isTy_tuple_tup, isTy_tuple_dct, isTy_list_non, isTy_list_bl, isTy_list_int, isTy_list_str, isTy_list_lst, isTy_list_tup, isTy_list_dct, isTy_dict_non, isTy_dict_bl, isTy_dict_int, isTy_dict_str, isTy_dict_lst, isTy_dict_tup, isTy_dict_dct, dIx_l, dIx_t, nLc_ap, gN_ap, goOn_nx, goOn_rt, goOn_rtO, sSeq_ap, sNext_ap, sSet_ap, sOwn_ap, sTgt_ap, sRet_ap, retO_own, sRetO_ap, sIf_ap, sDrop_ap, sFor_ap, sApp_ap, sParN_ap, sParNK_ap, sVia_ap, eCall_ap, eCallV_ap, val_d, val_o, fin_rt, fin_rtO, fin_nx, DL.start, List.map_cons, List.map_nil, List.length_cons, List.length_nil, List.replicate, List.cons_append, List.nil_append, List.getElem?_cons_zero, List.getElem?_cons_succ, List.set_cons_zero, List.set_cons_succ, wipeG, Nat.reduceSub, Nat.reduceAdd, Nat.reduceLT, Nat.reduceLeDiff, if_true, if_false, Bool.not_true, Bool.not_false, Option.bind_some, Option.map_some]
  refine ob_for tI (fun pre g => ∃ s t u, g = [.dat (.lst (rows.map tI)), .dat (.tup (c.map oB)), .own ((kval pre c).map oB), s, t, u]) ⟨_, _, _, rfl⟩ ?_ ?_
  · rintro pre x post g e ⟨s, t, u, rfl⟩
    obtain ⟨v1, v2, v3⟩ := valid_at v e
    have hl : (kval pre c).length = b + pre.length := by rw [kval_len, h]
    simp -implicitDefEqProofs only [ob_some, ob_bind, ob_map, eC_ap, eN_ap, eV_ap, slotN_dat, slotV_dat, slotV_own, slotV_odc, e1_ap, e2_ap, n2_ap, nLen_ap, aN_ap, aC_ap, eApp_ap, eTup_ap, nLst_ap, mkTup_0, mkTup_1, mkTup_2, mkTup_3, mkTup_4, mkLst_0, eL_ap, tV_ap, asBl_bl, tU_ap, ifB_t, ifB_f, tAnd_ap, tOr_ap, tNot_ap, tYes_ap, eIf_ap, ifD_bl, eAnd_ap, eOr_ap, notD_bl, eNot_ap, eChain_ap, dAdd_i, dSub_i, dNeg_i, dLt_i, dLe_i, dGt_i, dGe_i, dIsN2_n, dNotB_b, dEq_i, dNe_i, dEq_b, dNe_b, dEq_s, dNe_s, dLen_l, dLen_t, dLen_s, dTupOf_l, dTupOf_t, nLstOf_l, nLstOf_t, dAbs_i, itemsD_l, itemsD_t, iSeq_ap, iSeqL_ap', seqL_l, iRng1_ap, iRng2_ap, iDown_ap, iEnum_ap, iZip_ap, zip2_l, isi_ap, isTy_int_non, isTy_int_bl, isTy_int_int, isTy_int_str, isTy_int_lst, isTy_int_tup, isTy_int_dct, isTy_bool_non, isTy_bool_bl, isTy_bool_int, isTy_bool_str, isTy_bool_lst, isTy_bool_tup, isTy_bool_dct, isTy_str_non, isTy_str_bl, isTy_str_int, isTy_str_str, isTy_str_lst, isTy_str_tup, isTy_str_dct, isTy_tuple_non, isTy_tuple_bl, isTy_tuple_int, isTy_tuple_str, isTy_tuple_lst, isTy_tuple_tup, isTy_tuple_dct, isTy_list_non, isTy_list_bl, isTy_list_int, isTy_list_str, isTy_list_lst, isTy_list_tup, isTy_list_dct, isTy_dict_non, isTy_dict_bl, isTy_dict_int, isTy_dict_str, isTy_dict_lst, isTy_dict_tup, isTy_dict_dct, dIx_l, dIx_t, nLc_ap, gN_ap, goOn_nx, goOn_rt, goOn_rtO, sSeq_ap, sNext_ap, sSet_ap, sOwn_ap, sTgt_ap, sRet_ap, retO_own, sRetO_ap, sIf_ap, sDrop_ap, sFor_ap, sApp_ap, sParN_ap, sParNK_ap, sVia_ap, eCall_ap, eCallV_ap, val_d, val_o, fin_rt, fin_rtO, fin_nx, DL.start, List.map_cons, List.map_nil, List.length_cons, List.length_nil, List.replicate, List.cons_append, List.nil_append, List.getElem?_cons_zero, List.getElem?_cons_succ, List.set_cons_zero, List.set_cons_succ, wipeG, Nat.reduceSub, Nat.reduceAdd, Nat.reduceLT, Nat.reduceLeDiff, if_true, if_false, Bool.not_true, Bool.not_false, Option.bind_some, Option.map_some, tI]
    refine ob_lcm .int (fun l => oB (told (kval pre c) l)) (fun l hl2 => ?_) (by simp only [lim]; omega) ?_
    · have := v1 l hl2
      simp -implicitDefEqProofs only [ob_some, ob_bind, ob_map, eC_ap, eN_ap, eV_ap, slotN_dat, slotV_dat, slotV_own, slotV_odc, e1_ap, e2_ap, n2_ap, nLen_ap, aN_ap, aC_ap, eApp_ap, eTup_ap, nLst_ap, mkTup_0, mkTup_1, mkTup_2, mkTup_3, mkTup_4, mkLst_0, eL_ap, tV_ap, asBl_bl, tU_ap, ifB_t, ifB_f, tAnd_ap, tOr_ap, tNot_ap, tYes_ap, eIf_ap, ifD_bl, eAnd_ap, eOr_ap, notD_bl, eNot_ap, eChain_ap, dAdd_i, dSub_i, dNeg_i, dLt_i, dLe_i, dGt_i, dGe_i, dIsN2_n, dNotB_b, dEq_i, dNe_i, dEq_b, dNe_b, dEq_s, dNe_s, dLen_l, dLen_t, dLen_s, dTupOf_l, dTupOf_t, nLstOf_l, nLstOf_t, dAbs_i, itemsD_l, itemsD_t, iSeq_ap, iSeqL_ap', seqL_l, iRng1_ap, iRng2_ap, iDown_ap, iEnum_ap, iZip_ap, zip2_l, isi_ap, isTy_int_non, isTy_int_bl, isTy_int_int, isTy_int_str, isTy_int_lst, isTy_int_tup, isTy_int_dct, isTy_bool_non, isTy_bool_bl, isTy_bool_int, isTy_bool_str, isTy_bool_lst, isTy_bool_tup, isTy_bool_dct, isTy_str_non, isTy_str_bl, isTy_str_int, isTy_str_str, isTy_str_lst, isTy_str_tup, isTy_str_dct, isTy_tuple_non, isTy_tuple_bl, isTy_tuple_int, isTy_tuple_str, isTy_tuple_lst, isTy_tuple_tup, isTy_tuple_dct, isTy_list_non, isTy_list_bl, isTy_list_int, isTy_list_str, isTy_list_lst, isTy_list_tup, isTy_list_dct, isTy_dict_non, isTy_dict_bl, isTy_dict_int, isTy_dict_str, isTy_dict_lst, isTy_dict_tup, isTy_dict_dct, dIx_l, dIx_t, nLc_ap, gN_ap, goOn_nx, goOn_rt, goOn_rtO, sSeq_ap, sNext_ap, sSet_ap, sOwn_ap, sTgt_ap, sRet_ap, retO_own, sRetO_ap, sIf_ap, sDrop_ap, sFor_ap, sApp_ap, sParN_ap, sParNK_ap, sVia_ap, eCall_ap, eCallV_ap, val_d, val_o, fin_rt, fin_rtO, fin_nx, DL.start, List.map_cons, List.map_nil, List.length_cons, List.length_nil, List.replicate, List.cons_append, List.nil_append, List.getElem?_cons_zero, List.getElem?_cons_succ, List.set_cons_zero, List.set_cons_succ, wipeG, Nat.reduceSub, Nat.reduceAdd, Nat.reduceLT, Nat.reduceLeDiff, if_true, if_false, Bool.not_true, Bool.not_false, Option.bind_some, Option.map_some, atD_gt oB (kval pre c) l this.1 (by omega), true_and]
      cases hg : gt (kval pre c) l with
      | none => simp -implicitDefEqProofs only [ob_some, ob_bind, ob_map, eC_ap, eN_ap, eV_ap, slotN_dat, slotV_dat, slotV_own, slotV_odc, e1_ap, e2_ap, n2_ap, nLen_ap, aN_ap, aC_ap, eApp_ap, eTup_ap, nLst_ap, mkTup_0, mkTup_1, mkTup_2, mkTup_3, mkTup_4, mkLst_0, eL_ap, tV_ap, asBl_bl, tU_ap, ifB_t, ifB_f, tAnd_ap, tOr_ap, tNot_ap, tYes_ap, eIf_ap, ifD_bl, eAnd_ap, eOr_ap, notD_bl, eNot_ap, eChain_ap, dAdd_i, dSub_i, dNeg_i, dLt_i, dLe_i, dGt_i, dGe_i, dIsN2_n, dNotB_b, dEq_i, dNe_i, dEq_b, dNe_b, dEq_s, dNe_s, dLen_l, dLen_t, dLen_s, dTupOf_l, dTupOf_t, nLstOf_l, nLstOf_t, dAbs_i, itemsD_l, itemsD_t, iSeq_ap, iSeqL_ap', seqL_l, iRng1_ap, iRng2_ap, iDown_ap, iEnum_ap, iZip_ap, zip2_l, isi_ap, isTy_int_non, isTy_int_bl, isTy_int_int, isTy_int_str, isTy_int_lst, isTy_int_tup, isTy_int_dct, isTy_bool_non, isTy_bool_bl, isTy_bool_int, isTy_bool_str, isTy_bool_lst, isTy_bool_tup, isTy_bool_dct, isTy_str_non, isTy_str_bl, isTy_str_int, isTy_str_str, isTy_str_lst, isTy_str_tup, isTy_str_dct, isTy_tuple_non, isTy_tuple_bl, isTy_tuple_int, isTy_tuple_str, isTy_tuple_lst, isTy_tuple_tup, isTy_tuple_dct, isTy_list_non, isTy_list_bl, isTy_list_int, isTy_list_str, isTy_list_lst, isTy_list_tup, isTy_list_dct, isTy_dict_non, isTy_dict_bl, isTy_dict_int, isTy_dict_str, isTy_dict_lst, isTy_dict_tup, isTy_dict_dct, dIx_l, dIx_t, nLc_ap, gN_ap, goOn_nx, goOn_rt, goOn_rtO, sSeq_ap, sNext_ap, sSet_ap, sOwn_ap, sTgt_ap, sRet_ap, retO_own, sRetO_ap, sIf_ap, sDrop_ap, sFor_ap, sApp_ap, sParN_ap, sParNK_ap, sVia_ap, eCall_ap, eCallV_ap, val_d, val_o, fin_rt, fin_rtO, fin_nx, DL.start, List.map_cons, List.map_nil, List.length_cons, List.length_nil, List.replicate, List.cons_append, List.nil_append, List.getElem?_cons_zero, List.getElem?_cons_succ, List.set_cons_zero, List.set_cons_succ, wipeG, Nat.reduceSub, Nat.reduceAdd, Nat.reduceLT, Nat.reduceLeDiff, if_true, if_false, Bool.not_true, Bool.not_false, Option.bind_some, Option.map_some, oB, isNonD_n, told, hg, Option.map_none]
      | some y => simp -implicitDefEqProofs only [ob_some, ob_bind, ob_map, eC_ap, eN_ap, eV_ap, slotN_dat, slotV_dat, slotV_own, slotV_odc, e1_ap, e2_ap, n2_ap, nLen_ap, aN_ap, aC_ap, eApp_ap, eTup_ap, nLst_ap, mkTup_0, mkTup_1, mkTup_2, mkTup_3, mkTup_4, mkLst_0, eL_ap, tV_ap, asBl_bl, tU_ap, ifB_t, ifB_f, tAnd_ap, tOr_ap, tNot_ap, tYes_ap, eIf_ap, ifD_bl, eAnd_ap, eOr_ap, notD_bl, eNot_ap, eChain_ap, dAdd_i, dSub_i, dNeg_i, dLt_i, dLe_i, dGt_i, dGe_i, dIsN2_n, dNotB_b, dEq_i, dNe_i, dEq_b, dNe_b, dEq_s, dNe_s, dLen_l, dLen_t, dLen_s, dTupOf_l, dTupOf_t, nLstOf_l, nLstOf_t, dAbs_i, itemsD_l, itemsD_t, iSeq_ap, iSeqL_ap', seqL_l, iRng1_ap, iRng2_ap, iDown_ap, iEnum_ap, iZip_ap, zip2_l, isi_ap, isTy_int_non, isTy_int_bl, isTy_int_int, isTy_int_str, isTy_int_lst, isTy_int_tup, isTy_int_dct, isTy_bool_non, isTy_bool_bl, isTy_bool_int, isTy_bool_str, isTy_bool_lst, isTy_bool_tup, isTy_bool_dct, isTy_str_non, isTy_str_bl, isTy_str_int, isTy_str_str, isTy_str_lst, isTy_str_tup, isTy_str_dct, isTy_tuple_non, isTy_tuple_bl, isTy_tuple_int, isTy_tuple_str, isTy_tuple_lst, isTy_tuple_tup, isTy_tuple_dct, isTy_list_non, isTy_list_bl, isTy_list_int, isTy_list_str, isTy_list_lst, isTy_list_tup, isTy_list_dct, isTy_dict_non, isTy_dict_bl, isTy_dict_int, isTy_dict_str, isTy_dict_lst, isTy_dict_tup, isTy_dict_dct, dIx_l, dIx_t, nLc_ap, gN_ap, goOn_nx, goOn_rt, goOn_rtO, sSeq_ap, sNext_ap, sSet_ap, sOwn_ap, sTgt_ap, sRet_ap, retO_own, sRetO_ap, sIf_ap, sDrop_ap, sFor_ap, sApp_ap, sParN_ap, sParNK_ap, sVia_ap, eCall_ap, eCallV_ap, val_d, val_o, fin_rt, fin_rtO, fin_nx, DL.start, List.map_cons, List.map_nil, List.length_cons, List.length_nil, List.replicate, List.cons_append, List.nil_append, List.getElem?_cons_zero, List.getElem?_cons_succ, List.set_cons_zero, List.set_cons_succ, wipeG, Nat.reduceSub, Nat.reduceAdd, Nat.reduceLT, Nat.reduceLeDiff, if_true, if_false, Bool.not_true, Bool.not_false, Option.bind_some, Option.map_some, oB, isNonD_b, told, hg]
    · have e1 : x.map (fun l => oB (told (kval pre c) l)) = (x.map (told (kval pre c))).map oB := by simp
      rw [e1]
      simp -implicitDefEqProofs only [ob_some, ob_bind, ob_map, eC_ap, eN_ap, eV_ap, slotN_dat, slotV_dat, slotV_own, slotV_odc, e1_ap, e2_ap, n2_ap, nLen_ap, aN_ap, aC_ap, eApp_ap, eTup_ap, nLst_ap, mkTup_0, mkTup_1, mkTup_2, mkTup_3, mkTup_4, mkLst_0, eL_ap, tV_ap, asBl_bl, tU_ap, ifB_t, ifB_f, tAnd_ap, tOr_ap, tNot_ap, tYes_ap, eIf_ap, ifD_bl, eAnd_ap, eOr_ap, notD_bl, eNot_ap, eChain_ap, dAdd_i, dSub_i, dNeg_i, dLt_i, dLe_i, dGt_i, dGe_i, dIsN2_n, dNotB_b, dEq_i, dNe_i, dEq_b, dNe_b, dEq_s, dNe_s, dLen_l, dLen_t, dLen_s, dTupOf_l, dTupOf_t, nLstOf_l, nLstOf_t, dAbs_i, itemsD_l, itemsD_t, iSeq_ap, iSeqL_ap', seqL_l, iRng1_ap, iRng2_ap, iDown_ap, iEnum_ap, iZip_ap, zip2_l, isi_ap, isTy_int_non, isTy_int_bl, isTy_int_int, isTy_int_str, isTy_int_lst, isTy_int_tup, isTy_int_dct, isTy_bool_non, isTy_bool_bl, isTy_bool_int, isTy_bool_str, isTy_bool_lst, isTy_bool_tup, isTy_bool_dct, isTy_str_non, isTy_str_bl, isTy_str_int, isTy_str_str, isTy_str_lst, isTy_str_tup, isTy_str_dct, isTy_tuple_non, isTy_tuple_bl, isTy_tuple_int, isTy_tuple_str, isTy_tuple_lst, isTy_tuple_tup, isTy_tuple_dct, isTy_list_non, isTy_list_bl, isTy_list_int, isTy_list_str, isTy_list_lst, isTy_list_tup, isTy_list_dct, isTy_dict_non, isTy_dict_bl, isTy_dict_int, isTy_dict_str, isTy_dict_lst, isTy_dict_tup, isTy_dict_dct, dIx_l, dIx_t, nLc_ap, gN_ap, goOn_nx, goOn_rt, goOn_rtO, sSeq_ap, sNext_ap, sSet_ap, sOwn_ap, sTgt_ap, sRet_ap, retO_own, sRetO_ap, sIf_ap, sDrop_ap, sFor_ap, sApp_ap, sParN_ap, sParNK_ap, sVia_ap, eCall_ap, eCallV_ap, val_d, val_o, fin_rt, fin_rtO, fin_nx, DL.start, List.map_cons, List.map_nil, List.length_cons, List.length_nil, List.replicate, List.cons_append, List.nil_append, List.getElem?_cons_zero, List.getElem?_cons_succ, List.set_cons_zero, List.set_cons_succ, wipeG, Nat.reduceSub, Nat.reduceAdd, Nat.reduceLT, Nat.reduceLeDiff, if_true, if_false, Bool.not_true, Bool.not_false, Option.bind_some, Option.map_some, in_false, in_none]
      have fin : ∀ (a3 a4 a5 : Slot) (d : D), d = oB (kand (kval pre c) x) → Ob (appTo 2 [Slot.dat (.lst (rows.map tI)), Slot.dat (D.tup (List.map oB c)), Slot.own (List.map oB (kval pre c)), a3, a4, a5] d (some (Slot.own (List.map oB (kval pre c)))))
          fun o => ∃ g2, o = Out.nx g2 ∧ ∃ s t u, g2 = [.dat (.lst (rows.map tI)), .dat (.tup (c.map oB)), .own ((kval (pre ++ [x]) c).map oB), s, t, u] := by
        rintro a3 a4 a5 d rfl
        simp -implicitDefEqProofs only [ob_some, ob_bind, ob_map, eC_ap, eN_ap, eV_ap, slotN_dat, slotV_dat, slotV_own, slotV_odc, e1_ap, e2_ap, n2_ap, nLen_ap, aN_ap, aC_ap, eApp_ap, eTup_ap, nLst_ap, mkTup_0, mkTup_1, mkTup_2, mkTup_3, mkTup_4, mkLst_0, eL_ap, tV_ap, asBl_bl, tU_ap, ifB_t, ifB_f, tAnd_ap, tOr_ap, tNot_ap, tYes_ap, eIf_ap, ifD_bl, eAnd_ap, eOr_ap, notD_bl, eNot_ap, eChain_ap, dAdd_i, dSub_i, dNeg_i, dLt_i, dLe_i, dGt_i, dGe_i, dIsN2_n, dNotB_b, dEq_i, dNe_i, dEq_b, dNe_b, dEq_s, dNe_s, dLen_l, dLen_t, dLen_s, dTupOf_l, dTupOf_t, nLstOf_l, nLstOf_t, dAbs_i, itemsD_l, itemsD_t, iSeq_ap, iSeqL_ap', seqL_l, iRng1_ap, iRng2_ap, iDown_ap, iEnum_ap, iZip_ap, zip2_l, isi_ap, isTy_int_non, isTy_int_bl, isTy_int_int, isTy_int_str, isTy_int_lst, isTy_int_tup, isTy_int_dct, isTy_bool_non, isTy_bool_bl, isTy_bool_int, isTy_bool_str, isTy_bool_lst, isTy_bool_tup, isTy_bool_dct, isTy_str_non, isTy_str_bl, isTy_str_int, isTy_str_str, isTy_str_lst, isTy_str_tup, isTy_str_dct, isTy_tuple_non, isTy_tuple_bl, isTy_tuple_int, isTy_tuple_str, isTy_tuple_lst, isTy_tuple_tup, isTy_tuple_dct, isTy_list_non, isTy_list_bl, isTy_list_int, isTy_list_str, isTy_list_lst, isTy_list_tup, isTy_list_dct, isTy_dict_non, isTy_dict_bl, isTy_dict_int, isTy_dict_str, isTy_dict_lst, isTy_dict_tup, isTy_dict_dct, dIx_l, dIx_t, nLc_ap, gN_ap, goOn_nx, goOn_rt, goOn_rtO, sSeq_ap, sNext_ap, sSet_ap, sOwn_ap, sTgt_ap, sRet_ap, retO_own, sRetO_ap, sIf_ap, sDrop_ap, sFor_ap, sApp_ap, sParN_ap, sParNK_ap, sVia_ap, eCall_ap, eCallV_ap, val_d, val_o, fin_rt, fin_rtO, fin_nx, DL.start, List.map_cons, List.map_nil, List.length_cons, List.length_nil, List.replicate, List.cons_append, List.nil_append, List.getElem?_cons_zero, List.getElem?_cons_succ, List.set_cons_zero, List.set_cons_succ, wipeG, Nat.reduceSub, Nat.reduceAdd, Nat.reduceLT, Nat.reduceLeDiff, if_true, if_false, Bool.not_true, Bool.not_false, Option.bind_some, Option.map_some, appTo_own _ _ _ ((kval pre c).map oB) (by simp only [List.length_map, lim]; omega)]
        exact ⟨_, rfl, _, _, _, by rw [kval_app]; simp; exact ⟨rfl, rfl, rfl⟩⟩
      cases h1 : (x.map (told (kval pre c))).any (· == some false) with
      | true => simp -implicitDefEqProofs only [ob_some, ob_bind, ob_map, eC_ap, eN_ap, eV_ap, slotN_dat, slotV_dat, slotV_own, slotV_odc, e1_ap, e2_ap, n2_ap, nLen_ap, aN_ap, aC_ap, eApp_ap, eTup_ap, nLst_ap, mkTup_0, mkTup_1, mkTup_2, mkTup_3, mkTup_4, mkLst_0, eL_ap, tV_ap, asBl_bl, tU_ap, ifB_t, ifB_f, tAnd_ap, tOr_ap, tNot_ap, tYes_ap, eIf_ap, ifD_bl, eAnd_ap, eOr_ap, notD_bl, eNot_ap, eChain_ap, dAdd_i, dSub_i, dNeg_i, dLt_i, dLe_i, dGt_i, dGe_i, dIsN2_n, dNotB_b, dEq_i, dNe_i, dEq_b, dNe_b, dEq_s, dNe_s, dLen_l, dLen_t, dLen_s, dTupOf_l, dTupOf_t, nLstOf_l, nLstOf_t, dAbs_i, itemsD_l, itemsD_t, iSeq_ap, iSeqL_ap', seqL_l, iRng1_ap, iRng2_ap, iDown_ap, iEnum_ap, iZip_ap, zip2_l, isi_ap, isTy_int_non, isTy_int_bl, isTy_int_int, isTy_int_str, isTy_int_lst, isTy_int_tup, isTy_int_dct, isTy_bool_non, isTy_bool_bl, isTy_bool_int, isTy_bool_str, isTy_bool_lst, isTy_bool_tup, isTy_bool_dct, isTy_str_non, isTy_str_bl, isTy_str_int, isTy_str_str, isTy_str_lst, isTy_str_tup, isTy_str_dct, isTy_tuple_non, isTy_tuple_bl, isTy_tuple_int, isTy_tuple_str, isTy_tuple_lst, isTy_tuple_tup, isTy_tuple_dct, isTy_list_non, isTy_list_bl, isTy_list_int, isTy_list_str, isTy_list_lst, isTy_list_tup, isTy_list_dct, isTy_dict_non, isTy_dict_bl, isTy_dict_int, isTy_dict_str, isTy_dict_lst, isTy_dict_tup, isTy_dict_dct, dIx_l, dIx_t, nLc_ap, gN_ap, goOn_nx, goOn_rt, goOn_rtO, sSeq_ap, sNext_ap, sSet_ap, sOwn_ap, sTgt_ap, sRet_ap, retO_own, sRetO_ap, sIf_ap, sDrop_ap, sFor_ap, sApp_ap, sParN_ap, sParNK_ap, sVia_ap, eCall_ap, eCallV_ap, val_d, val_o, fin_rt, fin_rtO, fin_nx, DL.start, List.map_cons, List.map_nil, List.length_cons, List.length_nil, List.replicate, List.cons_append, List.nil_append, List.getElem?_cons_zero, List.getElem?_cons_succ, List.set_cons_zero, List.set_cons_succ, wipeG, Nat.reduceSub, Nat.reduceAdd, Nat.reduceLT, Nat.reduceLeDiff, if_true, if_false, Bool.not_true, Bool.not_false, Option.bind_some, Option.map_some]; refine fin _ _ _ _ ?_; simp only [kand, h1, if_true]; rfl
      | false =>
        cases h2 : (x.map (told (kval pre c))).any (· == none) with
        | true => simp -implicitDefEqProofs only [ob_some, ob_bind, ob_map, eC_ap, eN_ap, eV_ap, slotN_dat, slotV_dat, slotV_own, slotV_odc, e1_ap, e2_ap, n2_ap, nLen_ap, aN_ap, aC_ap, eApp_ap, eTup_ap, nLst_ap, mkTup_0, mkTup_1, mkTup_2, mkTup_3, mkTup_4, mkLst_0, eL_ap, tV_ap, asBl_bl, tU_ap, ifB_t, ifB_f, tAnd_ap, tOr_ap, tNot_ap, tYes_ap, eIf_ap, ifD_bl, eAnd_ap, eOr_ap, notD_bl, eNot_ap, eChain_ap, dAdd_i, dSub_i, dNeg_i, dLt_i, dLe_i, dGt_i, dGe_i, dIsN2_n, dNotB_b, dEq_i, dNe_i, dEq_b, dNe_b, dEq_s, dNe_s, dLen_l, dLen_t, dLen_s, dTupOf_l, dTupOf_t, nLstOf_l, nLstOf_t, dAbs_i, itemsD_l, itemsD_t, iSeq_ap, iSeqL_ap', seqL_l, iRng1_ap, iRng2_ap, iDown_ap, iEnum_ap, iZip_ap, zip2_l, isi_ap, isTy_int_non, isTy_int_bl, isTy_int_int, isTy_int_str, isTy_int_lst, isTy_int_tup, isTy_int_dct, isTy_bool_non, isTy_bool_bl, isTy_bool_int, isTy_bool_str, isTy_bool_lst, isTy_bool_tup, isTy_bool_dct, isTy_str_non, isTy_str_bl, isTy_str_int, isTy_str_str, isTy_str_lst, isTy_str_tup, isTy_str_dct, isTy_tuple_non, isTy_tuple_bl, isTy_tuple_int, isTy_tuple_str, isTy_tuple_lst, isTy_tuple_tup, isTy_tuple_dct, isTy_list_non, isTy_list_bl, isTy_list_int, isTy_list_str, isTy_list_lst, isTy_list_tup, isTy_list_dct, isTy_dict_non, isTy_dict_bl, isTy_dict_int, isTy_dict_str, isTy_dict_lst, isTy_dict_tup, isTy_dict_dct, dIx_l, dIx_t, nLc_ap, gN_ap, goOn_nx, goOn_rt, goOn_rtO, sSeq_ap, sNext_ap, sSet_ap, sOwn_ap, sTgt_ap, sRet_ap, retO_own, sRetO_ap, sIf_ap, sDrop_ap, sFor_ap, sApp_ap, sParN_ap, sParNK_ap, sVia_ap, eCall_ap, eCallV_ap, val_d, val_o, fin_rt, fin_rtO, fin_nx, DL.start, List.map_cons, List.map_nil, List.length_cons, List.length_nil, List.replicate, List.cons_append, List.nil_append, List.getElem?_cons_zero, List.getElem?_cons_succ, List.set_cons_zero, List.set_cons_succ, wipeG, Nat.reduceSub, Nat.reduceAdd, Nat.reduceLT, Nat.reduceLeDiff, if_true, if_false, Bool.not_true, Bool.not_false, Option.bind_some, Option.map_some]; refine fin _ _ _ _ ?_; simp only [kand, h1, h2, if_true]; rfl
        | false => simp -implicitDefEqProofs only [ob_some, ob_bind, ob_map, eC_ap, eN_ap, eV_ap, slotN_dat, slotV_dat, slotV_own, slotV_odc, e1_ap, e2_ap, n2_ap, nLen_ap, aN_ap, aC_ap, eApp_ap, eTup_ap, nLst_ap, mkTup_0, mkTup_1, mkTup_2, mkTup_3, mkTup_4, mkLst_0, eL_ap, tV_ap, asBl_bl, tU_ap, ifB_t, ifB_f, tAnd_ap, tOr_ap, tNot_ap, tYes_ap, eIf_ap, ifD_bl, eAnd_ap, eOr_ap, notD_bl, eNot_ap, eChain_ap, dAdd_i, dSub_i, dNeg_i, dLt_i, dLe_i, dGt_i, dGe_i, dIsN2_n, dNotB_b, dEq_i, dNe_i, dEq_b, dNe_b, dEq_s, dNe_s, dLen_l, dLen_t, dLen_s, dTupOf_l, dTupOf_t, nLstOf_l, nLstOf_t, dAbs_i, itemsD_l, itemsD_t, iSeq_ap, iSeqL_ap', seqL_l, iRng1_ap, iRng2_ap, iDown_ap, iEnum_ap, iZip_ap, zip2_l, isi_ap, isTy_int_non, isTy_int_bl, isTy_int_int, isTy_int_str, isTy_int_lst, isTy_int_tup, isTy_int_dct, isTy_bool_non, isTy_bool_bl, isTy_bool_int, isTy_bool_str, isTy_bool_lst, isTy_bool_tup, isTy_bool_dct, isTy_str_non, isTy_str_bl, isTy_str_int, isTy_str_str, isTy_str_lst, isTy_str_tup, isTy_str_dct, isTy_tuple_non, isTy_tuple_bl, isTy_tuple_int, isTy_tuple_str, isTy_tuple_lst, isTy_tuple_tup, isTy_tuple_dct, isTy_list_non, isTy_list_bl, isTy_list_int, isTy_list_str, isTy_list_lst, isTy_list_tup, isTy_list_dct, isTy_dict_non, isTy_dict_bl, isTy_dict_int, isTy_dict_str, isTy_dict_lst, isTy_dict_tup, isTy_dict_dct, dIx_l, dIx_t, nLc_ap, gN_ap, goOn_nx, goOn_rt, goOn_rtO, sSeq_ap, sNext_ap, sSet_ap, sOwn_ap, sTgt_ap, sRet_ap, retO_own, sRetO_ap, sIf_ap, sDrop_ap, sFor_ap, sApp_ap, sParN_ap, sParNK_ap, sVia_ap, eCall_ap, eCallV_ap, val_d, val_o, fin_rt, fin_rtO, fin_nx, DL.start, List.map_cons, List.map_nil, List.length_cons, List.length_nil, List.replicate, List.cons_append, List.nil_append, List.getElem?_cons_zero, List.getElem?_cons_succ, List.set_cons_zero, List.set_cons_succ, wipeG, Nat.reduceSub, Nat.reduceAdd, Nat.reduceLT, Nat.reduceLeDiff, if_true, if_false, Bool.not_true, Bool.not_false, Option.bind_some, Option.map_some]; refine fin _ _ _ _ ?_; simp only [kand, h1, h2]; rfl
  · rintro g ⟨s, t, u, rfl⟩
    simp -implicitDefEqProofs only [ob_some, ob_bind, ob_map, eC_ap, eN_ap, eV_ap, slotN_dat, slotV_dat, slotV_own, slotV_odc, e1_ap, e2_ap, n2_ap, nLen_ap, aN_ap, aC_ap, eApp_ap, eTup_ap, nLst_ap, mkTup_0, mkTup_1, mkTup_2, mkTup_3, mkTup_4, mkLst_0, eL_ap, tV_ap, asBl_bl, tU_ap, ifB_t, ifB_f, tAnd_ap, tOr_ap, tNot_ap, tYes_ap, eIf_ap, ifD_bl, eAnd_ap, eOr_ap, notD_bl, eNot_ap, eChain_ap, dAdd_i, dSub_i, dNeg_i, dLt_i, dLe_i, dGt_i, dGe_i, dIsN2_n, dNotB_b, dEq_i, dNe_i, dEq_b, dNe_b, dEq_s, dNe_s, dLen_l, dLen_t, dLen_s, dTupOf_l, dTupOf_t, nLstOf_l, nLstOf_t, dAbs_i, itemsD_l, itemsD_t, iSeq_ap, iSeqL_ap', seqL_l, iRng1_ap, iRng2_ap, iDown_ap, iEnum_ap, iZip_ap, zip2_l, isi_ap, isTy_int_non, isTy_int_bl, isTy_int_int, isTy_int_str, isTy_int_lst, isTy_int_tup, isTy_int_dct, isTy_bool_non, isTy_bool_bl, isTy_bool_int, isTy_bool_str, isTy_bool_lst, isTy_bool_tup, isTy_bool_dct, isTy_str_non, isTy_str_bl, isTy_str_int, isTy_str_str, isTy_str_lst, isTy_str_tup, isTy_str_dct, isTy_tuple_non, isTy_tuple_bl, isTy_tuple_int, isTy_tuple_str, isTy_tuple_lst, isTy_tuple_tup, isTy_tuple_dct, isTy_list_non, isTy_list_bl, isTy_list_int, isTy_list_str, isTy_list_lst, isTy_list_tup, isTy_list_dct, isTy_dict_non, isTy_dict_bl, isTy_dict_int, isTy_dict_str, isTy_dict_lst, isTy_dict_tup, isTy_dict_dct, dIx_l, dIx_t, nLc_ap, gN_ap, goOn_nx, goOn_rt, goOn_rtO, sSeq_ap, sNext_ap, sSet_ap, sOwn_ap, sTgt_ap, sRet_ap, retO_own, sRetO_ap, sIf_ap, sDrop_ap, sFor_ap, sApp_ap, sParN_ap, sParNK_ap, sVia_ap, eCall_ap, eCallV_ap, val_d, val_o, fin_rt, fin_rtO, fin_nx, DL.start, List.map_cons, List.map_nil, List.length_cons, List.length_nil, List.replicate, List.cons_append, List.nil_append, List.getElem?_cons_zero, List.getElem?_cons_succ, List.set_cons_zero, List.set_cons_succ, wipeG, Nat.reduceSub, Nat.reduceAdd, Nat.reduceLT, Nat.reduceLeDiff, if_true, if_false, Bool.not_true, Bool.not_false, Option.bind_some, Option.map_some]
theorem gt_some (f : List Bool) (l : Int) (h : 1 ≤ l.natAbs) (h2 : l.natAbs ≤ f.length) : gt (f.map some) l = some (gt f l) := by
  have := gt_get f l h h2
  unfold gt
  rw [List.getElem?_map, this]
  rfl
theorem kand_some (f : List Bool) (r : List Int) (h : ∀ l ∈ r, 1 ≤ l.natAbs ∧ l.natAbs ≤ f.length) : kand (f.map some) r = some (r.all fun l => gt f l == decide (0 < l)) := by
  have e : r.map (told (f.map some)) = r.map fun l => some (gt f l == decide (0 < l)) := by
    apply List.map_congr_left
    intro l hl; have := h l hl
    simp [told, gt_some f l this.1 this.2]
  unfold kand
  rw [e]
  have n : (r.map fun l => some (gt f l == decide (0 < l))).any (· == none) = false := by
    rw [List.any_eq_false]
    intro x hx; rw [List.mem_map] at hx; obtain ⟨l, _, rfl⟩ := hx
    generalize (gt f l == decide (0 < l)) = y
    cases y <;> decide
  rw [n]
  by_cases hc : (r.all fun l => gt f l == decide (0 < l)) = true
  · have : (r.map fun l => some (gt f l == decide (0 < l))).any (· == some false) = false := by
      rw [List.any_eq_false]
      intro x hx; rw [List.mem_map] at hx; obtain ⟨l, hl, rfl⟩ := hx
      have := List.all_eq_true.mp hc l hl
      simp only [this]; decide
    rw [this, hc]; rfl
  · have : (r.map fun l => some (gt f l == decide (0 < l))).any (· == some false) = true := by
      have hc2 : (r.all fun l => gt f l == decide (0 < l)) = false := by simpa using hc
      rw [List.all_eq_false] at hc2
      obtain ⟨l, hl, hl2⟩ := hc2
      rw [List.any_eq_true]
      refine ⟨_, List.mem_map.mpr ⟨l, hl, rfl⟩, ?_⟩
      have : (gt f l == decide (0 < l)) = false := by simpa using hl2
      rw [this]; rfl
    rw [this, if_pos rfl]
    congr 1
    simpa using hc
theorem kval_some {b : Nat} {rows : List (List Int)} (v : Valid b rows) (c : List Bool) (h : c.length = b) : kval rows (c.map some) = (val rows c).map some := by
  suffices H : ∀ post pre, rows = pre ++ post → kval pre (c.map some) = (val pre c).map some → kval (pre ++ post) (c.map some) = (val (pre ++ post) c).map some by
    exact H rows [] rfl rfl
  intro post
  induction post with
  | nil => intro pre _ h; simpa using h
  | cons x post ih =>
    intro pre e hh
    have e2 : pre ++ x :: post = (pre ++ [x]) ++ post := by simp
    rw [e2]
    apply ih
    · rw [e, e2]
    · obtain ⟨v1, v2, v3⟩ := valid_at v e
      rw [kval_app, val_app, hh, kand_some]
      · simp
      · intro l hl; rw [val_len, h]; exact v1 l hl
theorem tB_oB (c : List Bool) : tB c = .tup ((c.map some).map oB) := by simp [tB, oB]
theorem law_values_b {b : Nat} {rows : List (List Int)} (v : Valid b rows) (hb : b ≤ 4) (c : List Bool) (h : c.length = b) :
    f__law_values [.lst (rows.map tI), tB c] = some (.o ((val rows c).map .bl)) := by
  rw [tB_oB, law_values_eq v _ (by simpa using h) hb, kval_some v c h]
  congr 2
  simp
  constructor <;> intro _ <;> rfl
theorem is_true_eq (f : List Bool) (l : Int) (h : 1 ≤ l.natAbs) (h2 : l.natAbs ≤ f.length) : f_is_true [tB f, .int l] = some (.d (.bl (gt f l == decide (0 < l)))) := by
  apply of_fn rfl
  unfold s_is_true
  simp -implicitDefEqProofs only [ob_some, ob_bind, ob_map, eC_ap, eN_ap, eV_ap, slotN_dat, slotV_dat, slotV_own, slotV_odc, e1_ap, e2_ap, n2_ap, nLen_ap, aN_ap, aC_ap, eApp_ap, eTup_ap, nLst_ap, mkTup_0, mkTup_1, mkTup_2, mkTup_3, mkTup_4, mkLst_0, eL_ap, tV_ap, asBl_bl, tU_ap, ifB_t, ifB_f, tAnd_ap, tOr_ap, tNot_ap, tYes_ap, eIf_ap, ifD_bl, eAnd_ap, eOr_ap, notD_bl, eNot_ap, eChain_ap, dAdd_i, dSub_i, dNeg_i, dLt_i, dLe_i, dGt_i, dGe_i, dIsN2_n, dNotB_b, dEq_i, dNe_i, dEq_b, dNe_b, dEq_s, dNe_s, dLen_l, dLen_t, dLen_s, dTupOf_l, dTupOf_t, nLstOf_l, nLstOf_t, dAbs_i, itemsD_l, itemsD_t, iSeq_ap, iSeqL_ap', seqL_l, iRng1_ap, iRng2_ap, iDown_ap, iEnum_ap, iZip_ap, zip2_l, isi_ap, isTy_int_non, isTy_int_bl, isTy_int_int, isTy_int_str, isTy_int_lst, isTy_int_tup, isTy_int_dct, isTy_bool_non, isTy_bool_bl, isTy_bool_int, isTy_bool_str, isTy_bool_lst, isTy_bool_tup, isTy_bool_dct, isTy_str_non, isTy_str_bl, isTy_str_int, isTy_str_str, isTy_str_lst, isTy_str_tup, isTy_str_dct, isTy_tuple_non, isTy_tuple_bl, isTy_tuple_int, isTy_tuple_str, isTy_tuple_lst, isTy_tuple_tup, isTy_tuple_dct, isTy_list_non, isTy_list_bl, isTy_list_int, isTy_list_str, isTy_list_lst, isTy_list_tup, isTy_list_dct, isTy_dict_non, isTy_dict_bl, isTy_dict_int, isTy_dict_str, isTy_dict_lst, isTy_dict_tup, isTy_dict_dct, dIx_l, dIx_t, nLc_ap, gN_ap, goOn_nx, goOn_rt, goOn_rtO, sSeq_ap, sNext_ap, sSet_ap, sOwn_ap, sTgt_ap, sRet_ap, retO_own, sRetO_ap, sIf_ap, sDrop_ap, sFor_ap, sApp_ap, sParN_ap, sParNK_ap, sVia_ap, eCall_ap, eCallV_ap, val_d, val_o, fin_rt, fin_rtO, fin_nx, DL.start, List.map_cons, List.map_nil, List.length_cons, List.length_nil, List.replicate, List.cons_append, List.nil_append, List.getElem?_cons_zero, List.getElem?_cons_succ, List.set_cons_zero, List.set_cons_succ, wipeG, Nat.reduceSub, Nat.reduceAdd, Nat.reduceLT, Nat.reduceLeDiff, if_true, if_false, Bool.not_true, Bool.not_false, Option.bind_some, Option.map_some, tB, atD_gt D.bl f l h h2]
theorem one_clause (l m : Int) (h : 1 ≤ l.natAbs) (h2 : (l.natAbs : Int) ≤ m) : f_is_clause [.tup [.int l], .int m] = some (.d (.bl true)) := by
  rw [is_clause_t _ _ (by intro d hd; simp at hd; subst hd; rfl) (by simp)]
  simp [inB, ascD]; omega
theorem check_literals_ok {b : Nat} {rows : List (List Int)} (v : Valid b rows) (hb : b ≤ 4) (ls : List Int) (h : ∀ l ∈ ls, 1 ≤ l.natAbs ∧ l.natAbs ≤ b + rows.length) (h2 : ls.length ≤ 100) :
    f_check_literals [gD b rows, tI ls] = some (.d .non) := by
  apply of_fn rfl
  unfold s_check_literals
  simp -implicitDefEqProofs only [ob_some, ob_bind, ob_map, eC_ap, eN_ap, eV_ap, slotN_dat, slotV_dat, slotV_own, slotV_odc, e1_ap, e2_ap, n2_ap, nLen_ap, aN_ap, aC_ap, eApp_ap, eTup_ap, nLst_ap, mkTup_0, mkTup_1, mkTup_2, mkTup_3, mkTup_4, mkLst_0, eL_ap, tV_ap, asBl_bl, tU_ap, ifB_t, ifB_f, tAnd_ap, tOr_ap, tNot_ap, tYes_ap, eIf_ap, ifD_bl, eAnd_ap, eOr_ap, notD_bl, eNot_ap, eChain_ap, dAdd_i, dSub_i, dNeg_i, dLt_i, dLe_i, dGt_i, dGe_i, dIsN2_n, dNotB_b, dEq_i, dNe_i, dEq_b, dNe_b, dEq_s, dNe_s, dLen_l, dLen_t, dLen_s, dTupOf_l, dTupOf_t, nLstOf_l, nLstOf_t, dAbs_i, itemsD_l, itemsD_t, iSeq_ap, iSeqL_ap', seqL_l, iRng1_ap, iRng2_ap, iDown_ap, iEnum_ap, iZip_ap, zip2_l, isi_ap, isTy_int_non, isTy_int_bl, isTy_int_int, isTy_int_str, isTy_int_lst, isTy_int_tup, isTy_int_dct, isTy_bool_non, isTy_bool_bl, isTy_bool_int, isTy_bool_str, isTy_bool_lst, isTy_bool_tup, isTy_bool_dct, isTy_str_non, isTy_str_bl, isTy_str_int, isTy_str_str, isTy_str_lst, isTy_str_tup, isTy_str_dct, isTy_tuple_non, isTy_tuple_bl, isTy_tuple_int, isTy_tuple_str, isTy_tuple_lst, isTy_tuple_tup, isTy_tuple_dct, isTy_list_non, isTy_list_bl, isTy_list_int, isTy_list_str, isTy_list_lst, isTy_list_tup, isTy_list_dct, isTy_dict_non, isTy_dict_bl, isTy_dict_int, isTy_dict_str, isTy_dict_lst, isTy_dict_tup, isTy_dict_dct, dIx_l, dIx_t, nLc_ap, gN_ap, goOn_nx, goOn_rt, goOn_rtO, sSeq_ap, sNext_ap, sSet_ap, sOwn_ap, sTgt_ap, sRet_ap, retO_own, sRetO_ap, sIf_ap, sDrop_ap, sFor_ap, sApp_ap, sParN_ap, sParNK_ap, sVia_ap, eCall_ap, eCallV_ap, val_d, val_o, fin_rt, fin_rtO, fin_nx, DL.start, List.map_cons, List.map_nil, List.length_cons, List.length_nil, List.replicate, List.cons_append, List.nil_append, List.getElem?_cons_zero, List.getElem?_cons_succ, List.set_cons_zero, List.set_cons_succ, wipeG, Nat.reduceSub, Nat.reduceAdd, Nat.reduceLT, Nat.reduceLeDiff, if_true, if_false, Bool.not_true, Bool.not_false, Option.bind_some, Option.map_some, variables_in_eq v hb, tI]
  refine ob_lcm .int (fun _ => .bl true) (fun l hl => ?_) (by simp only [lim]; omega) ?_
  · have := h l hl
    simp -implicitDefEqProofs only [ob_some, ob_bind, ob_map, eC_ap, eN_ap, eV_ap, slotN_dat, slotV_dat, slotV_own, slotV_odc, e1_ap, e2_ap, n2_ap, nLen_ap, aN_ap, aC_ap, eApp_ap, eTup_ap, nLst_ap, mkTup_0, mkTup_1, mkTup_2, mkTup_3, mkTup_4, mkLst_0, eL_ap, tV_ap, asBl_bl, tU_ap, ifB_t, ifB_f, tAnd_ap, tOr_ap, tNot_ap, tYes_ap, eIf_ap, ifD_bl, eAnd_ap, eOr_ap, notD_bl, eNot_ap, eChain_ap, dAdd_i, dSub_i, dNeg_i, dLt_i, dLe_i, dGt_i, dGe_i, dIsN2_n, dNotB_b, dEq_i, dNe_i, dEq_b, dNe_b, dEq_s, dNe_s, dLen_l, dLen_t, dLen_s, dTupOf_l, dTupOf_t, nLstOf_l, nLstOf_t, dAbs_i, itemsD_l, itemsD_t, iSeq_ap, iSeqL_ap', seqL_l, iRng1_ap, iRng2_ap, iDown_ap, iEnum_ap, iZip_ap, zip2_l, isi_ap, isTy_int_non, isTy_int_bl, isTy_int_int, isTy_int_str, isTy_int_lst, isTy_int_tup, isTy_int_dct, isTy_bool_non, isTy_bool_bl, isTy_bool_int, isTy_bool_str, isTy_bool_lst, isTy_bool_tup, isTy_bool_dct, isTy_str_non, isTy_str_bl, isTy_str_int, isTy_str_str, isTy_str_lst, isTy_str_tup, isTy_str_dct, isTy_tuple_non, isTy_tuple_bl, isTy_tuple_int, isTy_tuple_str, isTy_tuple_lst, isTy_tuple_tup, isTy_tuple_dct, isTy_list_non, isTy_list_bl, isTy_list_int, isTy_list_str, isTy_list_lst, isTy_list_tup, isTy_list_dct, isTy_dict_non, isTy_dict_bl, isTy_dict_int, isTy_dict_str, isTy_dict_lst, isTy_dict_tup, isTy_dict_dct, dIx_l, dIx_t, nLc_ap, gN_ap, goOn_nx, goOn_rt, goOn_rtO, sSeq_ap, sNext_ap, sSet_ap, sOwn_ap, sTgt_ap, sRet_ap, retO_own, sRetO_ap, sIf_ap, sDrop_ap, sFor_ap, sApp_ap, sParN_ap, sParNK_ap, sVia_ap, eCall_ap, eCallV_ap, val_d, val_o, fin_rt, fin_rtO, fin_nx, DL.start, List.map_cons, List.map_nil, List.length_cons, List.length_nil, List.replicate, List.cons_append, List.nil_append, List.getElem?_cons_zero, List.getElem?_cons_succ, List.set_cons_zero, List.set_cons_succ, wipeG, Nat.reduceSub, Nat.reduceAdd, Nat.reduceLT, Nat.reduceLeDiff, if_true, if_false, Bool.not_true, Bool.not_false, Option.bind_some, Option.map_some, one_clause l ((b : Int) + rows.length) this.1 (by omega), true_and]
  · simp -implicitDefEqProofs only [ob_some, ob_bind, ob_map, eC_ap, eN_ap, eV_ap, slotN_dat, slotV_dat, slotV_own, slotV_odc, e1_ap, e2_ap, n2_ap, nLen_ap, aN_ap, aC_ap, eApp_ap, eTup_ap, nLst_ap, mkTup_0, mkTup_1, mkTup_2, mkTup_3, mkTup_4, mkLst_0, eL_ap, tV_ap, asBl_bl, tU_ap, ifB_t, ifB_f, tAnd_ap, tOr_ap, tNot_ap, tYes_ap, eIf_ap, ifD_bl, eAnd_ap, eOr_ap, notD_bl, eNot_ap, eChain_ap, dAdd_i, dSub_i, dNeg_i, dLt_i, dLe_i, dGt_i, dGe_i, dIsN2_n, dNotB_b, dEq_i, dNe_i, dEq_b, dNe_b, dEq_s, dNe_s, dLen_l, dLen_t, dLen_s, dTupOf_l, dTupOf_t, nLstOf_l, nLstOf_t, dAbs_i, itemsD_l, itemsD_t, iSeq_ap, iSeqL_ap', seqL_l, iRng1_ap, iRng2_ap, iDown_ap, iEnum_ap, iZip_ap, zip2_l, isi_ap, isTy_int_non, isTy_int_bl, isTy_int_int, isTy_int_str, isTy_int_lst, isTy_int_tup, isTy_int_dct, isTy_bool_non, isTy_bool_bl, isTy_bool_int, isTy_bool_str, isTy_bool_lst, isTy_bool_tup, isTy_bool_dct, isTy_str_non, isTy_str_bl, isTy_str_int, isTy_str_str, isTy_str_lst, isTy_str_tup, isTy_str_dct, isTy_tuple_non, isTy_tuple_bl, isTy_tuple_int, isTy_tuple_str, isTy_tuple_lst, isTy_tuple_tup, isTy_tuple_dct, isTy_list_non, isTy_list_bl, isTy_list_int, isTy_list_str, isTy_list_lst, isTy_list_tup, isTy_list_dct, isTy_dict_non, isTy_dict_bl, isTy_dict_int, isTy_dict_str, isTy_dict_lst, isTy_dict_tup, isTy_dict_dct, dIx_l, dIx_t, nLc_ap, gN_ap, goOn_nx, goOn_rt, goOn_rtO, sSeq_ap, sNext_ap, sSet_ap, sOwn_ap, sTgt_ap, sRet_ap, retO_own, sRetO_ap, sIf_ap, sDrop_ap, sFor_ap, sApp_ap, sParN_ap, sParNK_ap, sVia_ap, eCall_ap, eCallV_ap, val_d, val_o, fin_rt, fin_rtO, fin_nx, DL.start, List.map_cons, List.map_nil, List.length_cons, List.length_nil, List.replicate, List.cons_append, List.nil_append, List.getElem?_cons_zero, List.getElem?_cons_succ, List.set_cons_zero, List.set_cons_succ, wipeG, Nat.reduceSub, Nat.reduceAdd, Nat.reduceLT, Nat.reduceLeDiff, if_true, if_false, Bool.not_true, Bool.not_false, Option.bind_some, Option.map_some, dAll_m]
    have : (ls.all fun _ => true) = true := by simp
    simp -implicitDefEqProofs only [ob_some, ob_bind, ob_map, eC_ap, eN_ap, eV_ap, slotN_dat, slotV_dat, slotV_own, slotV_odc, e1_ap, e2_ap, n2_ap, nLen_ap, aN_ap, aC_ap, eApp_ap, eTup_ap, nLst_ap, mkTup_0, mkTup_1, mkTup_2, mkTup_3, mkTup_4, mkLst_0, eL_ap, tV_ap, asBl_bl, tU_ap, ifB_t, ifB_f, tAnd_ap, tOr_ap, tNot_ap, tYes_ap, eIf_ap, ifD_bl, eAnd_ap, eOr_ap, notD_bl, eNot_ap, eChain_ap, dAdd_i, dSub_i, dNeg_i, dLt_i, dLe_i, dGt_i, dGe_i, dIsN2_n, dNotB_b, dEq_i, dNe_i, dEq_b, dNe_b, dEq_s, dNe_s, dLen_l, dLen_t, dLen_s, dTupOf_l, dTupOf_t, nLstOf_l, nLstOf_t, dAbs_i, itemsD_l, itemsD_t, iSeq_ap, iSeqL_ap', seqL_l, iRng1_ap, iRng2_ap, iDown_ap, iEnum_ap, iZip_ap, zip2_l, isi_ap, isTy_int_non, isTy_int_bl, isTy_int_int, isTy_int_str, isTy_int_lst, isTy_int_tup, isTy_int_dct, isTy_bool_non, isTy_bool_bl, isTy_bool_int, isTy_bool_str, isTy_bool_lst, isTy_bool_tup, isTy_bool_dct, isTy_str_non, isTy_str_bl, isTy_str_int, isTy_str_str, isTy_str_lst, isTy_str_tup, isTy_str_dct, isTy_tuple_non, isTy_tuple_bl, isTy_tuple_int, isTy_tuple_str, isTy_tuple_lst, isTy_tuple_tup, isTy_tuple_dct, isTy_list_non, isTy_list_bl, isTy_list_int, isTy_list_str, isTy_list_lst, isTy_list_tup, isTy_list_dct, isTy_dict_non, isTy_dict_bl, isTy_dict_int, isTy_dict_str, isTy_dict_lst, isTy_dict_tup, isTy_dict_dct, dIx_l, dIx_t, nLc_ap, gN_ap, goOn_nx, goOn_rt, goOn_rtO, sSeq_ap, sNext_ap, sSet_ap, sOwn_ap, sTgt_ap, sRet_ap, retO_own, sRetO_ap, sIf_ap, sDrop_ap, sFor_ap, sApp_ap, sParN_ap, sParNK_ap, sVia_ap, eCall_ap, eCallV_ap, val_d, val_o, fin_rt, fin_rtO, fin_nx, DL.start, List.map_cons, List.map_nil, List.length_cons, List.length_nil, List.replicate, List.cons_append, List.nil_append, List.getElem?_cons_zero, List.getElem?_cons_succ, List.set_cons_zero, List.set_cons_succ, wipeG, Nat.reduceSub, Nat.reduceAdd, Nat.reduceLT, Nat.reduceLeDiff, if_true, if_false, Bool.not_true, Bool.not_false, Option.bind_some, Option.map_some, this]
theorem truths_of_eq {b : Nat} {rows : List (List Int)} (v : Valid b rows) (hb : b = 2 ∨ b = 3 ∨ b = 4) (l : Int) (h : 1 ≤ l.natAbs) (h2 : l.natAbs ≤ b + rows.length) :
    f_truths_of [gD b rows, .int l] = some (.d (.tup ((cds b).map fun c => .bl (gt (val rows c) l == decide (0 < l))))) := by
  apply of_fn rfl
  unfold s_truths_of
  have hb4 : b ≤ 4 := by omega
  have i1 : dIx (gD b rows) (.int 1) = some (.int b) := rfl
  have c1 : f_check_literals [gD b rows, .tup [.int l]] = some (.d .non) := check_literals_ok v hb4 [l] (by simp; omega) (by simp)
  obtain ⟨k1, k2⟩ := cds_len b hb
  simp -implicitDefEqProofs only [ob_some, ob_bind, ob_map, eC_ap, eN_ap, eV_ap, slotN_dat, slotV_dat, slotV_own, slotV_odc, e1_ap, e2_ap, n2_ap, nLen_ap, aN_ap, aC_ap, eApp_ap, eTup_ap, nLst_ap, mkTup_0, mkTup_1, mkTup_2, mkTup_3, mkTup_4, mkLst_0, eL_ap, tV_ap, asBl_bl, tU_ap, ifB_t, ifB_f, tAnd_ap, tOr_ap, tNot_ap, tYes_ap, eIf_ap, ifD_bl, eAnd_ap, eOr_ap, notD_bl, eNot_ap, eChain_ap, dAdd_i, dSub_i, dNeg_i, dLt_i, dLe_i, dGt_i, dGe_i, dIsN2_n, dNotB_b, dEq_i, dNe_i, dEq_b, dNe_b, dEq_s, dNe_s, dLen_l, dLen_t, dLen_s, dTupOf_l, dTupOf_t, nLstOf_l, nLstOf_t, dAbs_i, itemsD_l, itemsD_t, iSeq_ap, iSeqL_ap', seqL_l, iRng1_ap, iRng2_ap, iDown_ap, iEnum_ap, iZip_ap, zip2_l, isi_ap, isTy_int_non, isTy_int_bl, isTy_int_int, isTy_int_str, isTy_int_lst, isTy_int_tup, isTy_int_dct, isTy_bool_non, isTy_bool_bl, isTy_bool_int, isTy_bool_str, isTy_bool_lst, isTy_bool_tup, isTy_bool_dct, isTy_str_non, isTy_str_bl, isTy_str_int, isTy_str_str, isTy_str_lst, isTy_str_tup, isTy_str_dct, isTy_tuple_non, isTy_tuple_bl, isTy_tuple_int, isTy_tuple_str, isTy_tuple_lst, isTy_tuple_tup, isTy_tuple_dct, isTy_list_non, isTy_list_bl, isTy_list_int, isTy_list_str, isTy_list_lst, isTy_list_tup, isTy_list_dct, isTy_dict_non, isTy_dict_bl, isTy_dict_int, isTy_dict_str, isTy_dict_lst, isTy_dict_tup, isTy_dict_dct, dIx_l, dIx_t, nLc_ap, gN_ap, goOn_nx, goOn_rt, goOn_rtO, sSeq_ap, sNext_ap, sSet_ap, sOwn_ap, sTgt_ap, sRet_ap, retO_own, sRetO_ap, sIf_ap, sDrop_ap, sFor_ap, sApp_ap, sParN_ap, sParNK_ap, sVia_ap, eCall_ap, eCallV_ap, val_d, val_o, fin_rt, fin_rtO, fin_nx, DL.start, List.map_cons, List.map_nil, List.length_cons, List.length_nil, List.replicate, List.cons_append, List.nil_append, List.getElem?_cons_zero, List.getElem?_cons_succ, List.set_cons_zero, List.set_cons_succ, wipeG, Nat.reduceSub, Nat.reduceAdd, Nat.reduceLT, Nat.reduceLeDiff, if_true, if_false, Bool.not_true, Bool.not_false, Option.bind_some, Option.map_some, c1, i1, codes_eq b hb]
  refine ob_lcm tB (fun c => .bl (gt (val rows c) l == decide (0 < l))) (fun c hc => ?_) (by simp only [lim]; omega) ?_
  · have := k2 c hc
    simp -implicitDefEqProofs only [ob_some, ob_bind, ob_map, eC_ap, eN_ap, eV_ap, slotN_dat, slotV_dat, slotV_own, slotV_odc, e1_ap, e2_ap, n2_ap, nLen_ap, aN_ap, aC_ap, eApp_ap, eTup_ap, nLst_ap, mkTup_0, mkTup_1, mkTup_2, mkTup_3, mkTup_4, mkLst_0, eL_ap, tV_ap, asBl_bl, tU_ap, ifB_t, ifB_f, tAnd_ap, tOr_ap, tNot_ap, tYes_ap, eIf_ap, ifD_bl, eAnd_ap, eOr_ap, notD_bl, eNot_ap, eChain_ap, dAdd_i, dSub_i, dNeg_i, dLt_i, dLe_i, dGt_i, dGe_i, dIsN2_n, dNotB_b, dEq_i, dNe_i, dEq_b, dNe_b, dEq_s, dNe_s, dLen_l, dLen_t, dLen_s, dTupOf_l, dTupOf_t, nLstOf_l, nLstOf_t, dAbs_i, itemsD_l, itemsD_t, iSeq_ap, iSeqL_ap', seqL_l, iRng1_ap, iRng2_ap, iDown_ap, iEnum_ap, iZip_ap, zip2_l, isi_ap, isTy_int_non, isTy_int_bl, isTy_int_int, isTy_int_str, isTy_int_lst, isTy_int_tup, isTy_int_dct, isTy_bool_non, isTy_bool_bl, isTy_bool_int, isTy_bool_str, isTy_bool_lst, isTy_bool_tup, isTy_bool_dct, isTy_str_non, isTy_str_bl, isTy_str_int, isTy_str_str, isTy_str_lst, isTy_str_tup, isTy_str_dct, isTy_tuple_non, isTy_tuple_bl, isTy_tuple_int, isTy_tuple_str, isTy_tuple_lst, isTy_tuple_tup, isTy_tuple_dct, isTy_list_non, isTy_list_bl, isTy_list_int, isTy_list_str, isTy_list_lst, isTy_list_tup, isTy_list_dct, isTy_dict_non, isTy_dict_bl, isTy_dict_int, isTy_dict_str, isTy_dict_lst, isTy_dict_tup, isTy_dict_dct, dIx_l, dIx_t, nLc_ap, gN_ap, goOn_nx, goOn_rt, goOn_rtO, sSeq_ap, sNext_ap, sSet_ap, sOwn_ap, sTgt_ap, sRet_ap, retO_own, sRetO_ap, sIf_ap, sDrop_ap, sFor_ap, sApp_ap, sParN_ap, sParNK_ap, sVia_ap, eCall_ap, eCallV_ap, val_d, val_o, fin_rt, fin_rtO, fin_nx, DL.start, List.map_cons, List.map_nil, List.length_cons, List.length_nil, List.replicate, List.cons_append, List.nil_append, List.getElem?_cons_zero, List.getElem?_cons_succ, List.set_cons_zero, List.set_cons_succ, wipeG, Nat.reduceSub, Nat.reduceAdd, Nat.reduceLT, Nat.reduceLeDiff, if_true, if_false, Bool.not_true, Bool.not_false, Option.bind_some, Option.map_some, values_eq v hb4 c this, is_true_eq (val rows c) l h (by rw [val_len]; omega), true_and]
  · simp -implicitDefEqProofs only [ob_some, ob_bind, ob_map, eC_ap, eN_ap, eV_ap, slotN_dat, slotV_dat, slotV_own, slotV_odc, e1_ap, e2_ap, n2_ap, nLen_ap, aN_ap, aC_ap, eApp_ap, eTup_ap, nLst_ap, mkTup_0, mkTup_1, mkTup_2, mkTup_3, mkTup_4, mkLst_0, eL_ap, tV_ap, asBl_bl, tU_ap, ifB_t, ifB_f, tAnd_ap, tOr_ap, tNot_ap, tYes_ap, eIf_ap, ifD_bl, eAnd_ap, eOr_ap, notD_bl, eNot_ap, eChain_ap, dAdd_i, dSub_i, dNeg_i, dLt_i, dLe_i, dGt_i, dGe_i, dIsN2_n, dNotB_b, dEq_i, dNe_i, dEq_b, dNe_b, dEq_s, dNe_s, dLen_l, dLen_t, dLen_s, dTupOf_l, dTupOf_t, nLstOf_l, nLstOf_t, dAbs_i, itemsD_l, itemsD_t, iSeq_ap, iSeqL_ap', seqL_l, iRng1_ap, iRng2_ap, iDown_ap, iEnum_ap, iZip_ap, zip2_l, isi_ap, isTy_int_non, isTy_int_bl, isTy_int_int, isTy_int_str, isTy_int_lst, isTy_int_tup, isTy_int_dct, isTy_bool_non, isTy_bool_bl, isTy_bool_int, isTy_bool_str, isTy_bool_lst, isTy_bool_tup, isTy_bool_dct, isTy_str_non, isTy_str_bl, isTy_str_int, isTy_str_str, isTy_str_lst, isTy_str_tup, isTy_str_dct, isTy_tuple_non, isTy_tuple_bl, isTy_tuple_int, isTy_tuple_str, isTy_tuple_lst, isTy_tuple_tup, isTy_tuple_dct, isTy_list_non, isTy_list_bl, isTy_list_int, isTy_list_str, isTy_list_lst, isTy_list_tup, isTy_list_dct, isTy_dict_non, isTy_dict_bl, isTy_dict_int, isTy_dict_str, isTy_dict_lst, isTy_dict_tup, isTy_dict_dct, dIx_l, dIx_t, nLc_ap, gN_ap, goOn_nx, goOn_rt, goOn_rtO, sSeq_ap, sNext_ap, sSet_ap, sOwn_ap, sTgt_ap, sRet_ap, retO_own, sRetO_ap, sIf_ap, sDrop_ap, sFor_ap, sApp_ap, sParN_ap, sParNK_ap, sVia_ap, eCall_ap, eCallV_ap, val_d, val_o, fin_rt, fin_rtO, fin_nx, DL.start, List.map_cons, List.map_nil, List.length_cons, List.length_nil, List.replicate, List.cons_append, List.nil_append, List.getElem?_cons_zero, List.getElem?_cons_succ, List.set_cons_zero, List.set_cons_succ, wipeG, Nat.reduceSub, Nat.reduceAdd, Nat.reduceLT, Nat.reduceLeDiff, if_true, if_false, Bool.not_true, Bool.not_false, Option.bind_some, Option.map_some]
/-! levels -/
def lev (b : Nat) (rows : List (List Int)) : List Int := rows.foldl (fun f r => f ++ [1 + maxI ((r.map fun l => gt f l) ++ [0])]) (List.replicate b 0)
theorem lev_app (b : Nat) (pre : List (List Int)) (x : List Int) : lev b (pre ++ [x]) = lev b pre ++ [1 + maxI ((x.map fun l => gt (lev b pre) l) ++ [0])] := by simp [lev]
theorem lev_len (b : Nat) (rows : List (List Int)) : (lev b rows).length = b + rows.length := by
  unfold lev
  suffices H : ∀ f : List Int, (rows.foldl (fun f r => f ++ [1 + maxI ((r.map fun l => gt f l) ++ [0])]) f).length = f.length + rows.length by
    rw [H]; simp
  induction rows with
  | nil => intro f; rfl
  | cons r rows ih => intro f; rw [List.foldl_cons, ih]; simp; omega
theorem foldl_max (xs : List Int) (a b : Int) : xs.foldl max (max a b) = max a (xs.foldl max b) := by
  induction xs generalizing b with
  | nil => rfl
  | cons x xs ih => rw [List.foldl_cons, List.foldl_cons, Int.max_assoc, ih]
theorem maxI_0 (xs : List Int) : maxI (xs ++ [0]) = maxI (0 :: xs) := by
  cases xs with
  | nil => rfl
  | cons x xs => simp only [maxI, List.cons_append, List.foldl_append, List.foldl_cons, List.foldl_nil]; rw [foldl_max, Int.max_comm]
theorem dMax_i (xs : List Int) (h : xs ≠ []) : dMax [.lst (xs.map .int)] = some (.int (maxI xs)) := by
  have := mapM_int xs id
  simp only [id, List.map_id'] at this
  have e : (xs.map fun x => D.int x).mapM asInt = some xs := by simpa using this
  simp only [dMax, show xs.map D.int = xs.map fun x => D.int x from rfl, e, Option.bind_some]
  rw [if_neg (by simpa using h)]
theorem rep_0 (b : Nat) (hb : b ≤ 100) : nRep (.lst [.int 0]) (.int b) = some ((List.replicate b (0 : Int)).map .int) := by
  simp only [nRep, List.length_cons, List.length_nil]
  rw [if_pos ⟨by omega, by omega, by simp [lim]; omega⟩]
  congr 1
  simp
theorem levels_eq {b : Nat} {rows : List (List Int)} (v : Valid b rows) (hb : b ≤ 4) : f_levels [gD b rows] = some (.d (tI (lev b rows))) := by
  apply of_fn rfl
  unfold s_levels
  have i1 : dIx (gD b rows) (.int 1) = some (.int b) := rfl
  have i2 : dIx (gD b rows) (.int 2) = some (.tup (rows.map tI)) := rfl
  simp -implicitDefEqProofs only [ob_some, ob_bind, ob_map, eC_ap, eN_ap, eV_ap, slotN_dat, slotV_dat, slotV_own, slotV_odc, e1_ap, e2_ap, n2_ap, nLen_ap, aN_ap, aC_ap, eApp_ap, eTup_ap, nLst_ap, mkTup_0, mkTup_1, mkTup_2, mkTup_3, mkTup_4, mkLst_0, eL_ap, tV_ap, asBl_bl, tU_ap, ifB_t, ifB_f, tAnd_ap, tOr_ap, tNot_ap, tYes_ap, eIf_ap, ifD_bl, eAnd_ap, eOr_ap, notD_bl, eNot_ap, eChain_ap, dAdd_i, dSub_i, dNeg_i, dLt_i, dLe_i, dGt_i, dGe_i, dIsN2_n, dNotB_b, dEq_i, dNe_i, dEq_b, dNe_b, dEq_s, dNe_s, dLen_l, dLen_t, dLen_s, dTupOf_l, dTupOf_t, nLstOf_l, nLstOf_t, dAbs_i, itemsD_l, itemsD_t, iSeq_ap, iSeqL_ap', seqL_l, iRng1_ap, iRng2_ap, iDown_ap, iEnum_ap, iZip_ap, zip2_l, isi_ap, isTy_int_non, isTy_int_bl, isTy_int_int, isTy_int_str, isTy_int_lst, isTy_int_tup, isTy_int_dct, isTy_bool_non, isTy_bool_bl, isTy_bool_int, isTy_bool_str, isTy_bool_lst, isTy_bool_tup, isTy_bool_dct, isTy_str_non, isTy_str_bl, isTy_str_int, isTy_str_str, isTy_str_lst, isTy_str_tup, isTy_str_dct, isTy_tuple_non, isTy_tuple_bl, isTy_tuple_int, isTy_tuple_str, isTy_tuple_lst, isTy_tuple_tup, isTy_tuple_dct, isTy_list_non, isTy_list_bl, isTy_list_int, isTy_list_str, isTy_list_lst, isTy_list_tup, isTy_list_dct, isTy_dict_non, isTy_dict_bl, isTy_dict_int, isTy_dict_str, isTy_dict_lst, isTy_dict_tup, isTy_dict_dct, dIx_l, dIx_t, nLc_ap, gN_ap, goOn_nx, goOn_rt, goOn_rtO, sSeq_ap, sNext_ap, sSet_ap, sOwn_ap, sTgt_ap, sRet_ap, retO_own, sRetO_ap, sIf_ap, sDrop_ap, sFor_ap, sApp_ap, sParN_ap, sParNK_ap, sVia_ap, eCall_ap, eCallV_ap, val_d, val_o, fin_rt, fin_rtO, fin_nx, DL.start, List.map_cons, List.map_nil, List.length_cons, List.length_nil, List.replicate, List.cons_append, List.nil_append, List.getElem?_cons_zero, List.getElem?_cons_succ, List.set_cons_zero, List.set_cons_succ, wipeG, Nat.reduceSub, Nat.reduceAdd, Nat.reduceLT, Nat.reduceLeDiff, if_true, if_false, Bool.not_true, Bool.not_false, Option.bind_some, Option.map_some, check_gates_ok v hb, mkLst_c, i1, i2, rep_0 b (by omega)]
  refine ob_for tI (fun pre g => ∃ s t, g = [.dat (gD b rows), .own ((lev b pre).map .int), s, t]) ⟨_, _, rfl⟩ ?_ ?_
  · rintro pre x post g e ⟨s, t, rfl⟩
    obtain ⟨v1, v2, v3⟩ := valid_at v e
    have hl := lev_len b pre
    simp -implicitDefEqProofs only [ob_some, ob_bind, ob_map, eC_ap, eN_ap, eV_ap, slotN_dat, slotV_dat, slotV_own, slotV_odc, e1_ap, e2_ap, n2_ap, nLen_ap, aN_ap, aC_ap, eApp_ap, eTup_ap, nLst_ap, mkTup_0, mkTup_1, mkTup_2, mkTup_3, mkTup_4, mkLst_0, eL_ap, tV_ap, asBl_bl, tU_ap, ifB_t, ifB_f, tAnd_ap, tOr_ap, tNot_ap, tYes_ap, eIf_ap, ifD_bl, eAnd_ap, eOr_ap, notD_bl, eNot_ap, eChain_ap, dAdd_i, dSub_i, dNeg_i, dLt_i, dLe_i, dGt_i, dGe_i, dIsN2_n, dNotB_b, dEq_i, dNe_i, dEq_b, dNe_b, dEq_s, dNe_s, dLen_l, dLen_t, dLen_s, dTupOf_l, dTupOf_t, nLstOf_l, nLstOf_t, dAbs_i, itemsD_l, itemsD_t, iSeq_ap, iSeqL_ap', seqL_l, iRng1_ap, iRng2_ap, iDown_ap, iEnum_ap, iZip_ap, zip2_l, isi_ap, isTy_int_non, isTy_int_bl, isTy_int_int, isTy_int_str, isTy_int_lst, isTy_int_tup, isTy_int_dct, isTy_bool_non, isTy_bool_bl, isTy_bool_int, isTy_bool_str, isTy_bool_lst, isTy_bool_tup, isTy_bool_dct, isTy_str_non, isTy_str_bl, isTy_str_int, isTy_str_str, isTy_str_lst, isTy_str_tup, isTy_str_dct, isTy_tuple_non, isTy_tuple_bl, isTy_tuple_int, isTy_tuple_str, isTy_tuple_lst, isTy_tuple_tup, isTy_tuple_dct, isTy_list_non, isTy_list_bl, isTy_list_int, isTy_list_str, isTy_list_lst, isTy_list_tup, isTy_list_dct, isTy_dict_non, isTy_dict_bl, isTy_dict_int, isTy_dict_str, isTy_dict_lst, isTy_dict_tup, isTy_dict_dct, dIx_l, dIx_t, nLc_ap, gN_ap, goOn_nx, goOn_rt, goOn_rtO, sSeq_ap, sNext_ap, sSet_ap, sOwn_ap, sTgt_ap, sRet_ap, retO_own, sRetO_ap, sIf_ap, sDrop_ap, sFor_ap, sApp_ap, sParN_ap, sParNK_ap, sVia_ap, eCall_ap, eCallV_ap, val_d, val_o, fin_rt, fin_rtO, fin_nx, DL.start, List.map_cons, List.map_nil, List.length_cons, List.length_nil, List.replicate, List.cons_append, List.nil_append, List.getElem?_cons_zero, List.getElem?_cons_succ, List.set_cons_zero, List.set_cons_succ, wipeG, Nat.reduceSub, Nat.reduceAdd, Nat.reduceLT, Nat.reduceLeDiff, if_true, if_false, Bool.not_true, Bool.not_false, Option.bind_some, Option.map_some, tI]
    refine ob_lcm .int (fun l => .int (gt (lev b pre) l)) (fun l hl2 => ?_) (by simp only [lim]; omega) ?_
    · have := v1 l hl2
      simp -implicitDefEqProofs only [ob_some, ob_bind, ob_map, eC_ap, eN_ap, eV_ap, slotN_dat, slotV_dat, slotV_own, slotV_odc, e1_ap, e2_ap, n2_ap, nLen_ap, aN_ap, aC_ap, eApp_ap, eTup_ap, nLst_ap, mkTup_0, mkTup_1, mkTup_2, mkTup_3, mkTup_4, mkLst_0, eL_ap, tV_ap, asBl_bl, tU_ap, ifB_t, ifB_f, tAnd_ap, tOr_ap, tNot_ap, tYes_ap, eIf_ap, ifD_bl, eAnd_ap, eOr_ap, notD_bl, eNot_ap, eChain_ap, dAdd_i, dSub_i, dNeg_i, dLt_i, dLe_i, dGt_i, dGe_i, dIsN2_n, dNotB_b, dEq_i, dNe_i, dEq_b, dNe_b, dEq_s, dNe_s, dLen_l, dLen_t, dLen_s, dTupOf_l, dTupOf_t, nLstOf_l, nLstOf_t, dAbs_i, itemsD_l, itemsD_t, iSeq_ap, iSeqL_ap', seqL_l, iRng1_ap, iRng2_ap, iDown_ap, iEnum_ap, iZip_ap, zip2_l, isi_ap, isTy_int_non, isTy_int_bl, isTy_int_int, isTy_int_str, isTy_int_lst, isTy_int_tup, isTy_int_dct, isTy_bool_non, isTy_bool_bl, isTy_bool_int, isTy_bool_str, isTy_bool_lst, isTy_bool_tup, isTy_bool_dct, isTy_str_non, isTy_str_bl, isTy_str_int, isTy_str_str, isTy_str_lst, isTy_str_tup, isTy_str_dct, isTy_tuple_non, isTy_tuple_bl, isTy_tuple_int, isTy_tuple_str, isTy_tuple_lst, isTy_tuple_tup, isTy_tuple_dct, isTy_list_non, isTy_list_bl, isTy_list_int, isTy_list_str, isTy_list_lst, isTy_list_tup, isTy_list_dct, isTy_dict_non, isTy_dict_bl, isTy_dict_int, isTy_dict_str, isTy_dict_lst, isTy_dict_tup, isTy_dict_dct, dIx_l, dIx_t, nLc_ap, gN_ap, goOn_nx, goOn_rt, goOn_rtO, sSeq_ap, sNext_ap, sSet_ap, sOwn_ap, sTgt_ap, sRet_ap, retO_own, sRetO_ap, sIf_ap, sDrop_ap, sFor_ap, sApp_ap, sParN_ap, sParNK_ap, sVia_ap, eCall_ap, eCallV_ap, val_d, val_o, fin_rt, fin_rtO, fin_nx, DL.start, List.map_cons, List.map_nil, List.length_cons, List.length_nil, List.replicate, List.cons_append, List.nil_append, List.getElem?_cons_zero, List.getElem?_cons_succ, List.set_cons_zero, List.set_cons_succ, wipeG, Nat.reduceSub, Nat.reduceAdd, Nat.reduceLT, Nat.reduceLeDiff, if_true, if_false, Bool.not_true, Bool.not_false, Option.bind_some, Option.map_some, atD_gt D.int (lev b pre) l this.1 (by omega), true_and]
    · have e1 : dAdd (.lst (x.map fun l => .int (gt (lev b pre) l))) (.lst [.int 0]) = some (.lst (((x.map fun l => gt (lev b pre) l) ++ [0]).map .int)) := by
        simp only [dAdd, List.length_map, List.length_cons, List.length_nil]
        rw [if_pos (by simp only [lim]; omega)]; simp
      simp -implicitDefEqProofs only [ob_some, ob_bind, ob_map, eC_ap, eN_ap, eV_ap, slotN_dat, slotV_dat, slotV_own, slotV_odc, e1_ap, e2_ap, n2_ap, nLen_ap, aN_ap, aC_ap, eApp_ap, eTup_ap, nLst_ap, mkTup_0, mkTup_1, mkTup_2, mkTup_3, mkTup_4, mkLst_0, eL_ap, tV_ap, asBl_bl, tU_ap, ifB_t, ifB_f, tAnd_ap, tOr_ap, tNot_ap, tYes_ap, eIf_ap, ifD_bl, eAnd_ap, eOr_ap, notD_bl, eNot_ap, eChain_ap, dAdd_i, dSub_i, dNeg_i, dLt_i, dLe_i, dGt_i, dGe_i, dIsN2_n, dNotB_b, dEq_i, dNe_i, dEq_b, dNe_b, dEq_s, dNe_s, dLen_l, dLen_t, dLen_s, dTupOf_l, dTupOf_t, nLstOf_l, nLstOf_t, dAbs_i, itemsD_l, itemsD_t, iSeq_ap, iSeqL_ap', seqL_l, iRng1_ap, iRng2_ap, iDown_ap, iEnum_ap, iZip_ap, zip2_l, isi_ap, isTy_int_non, isTy_int_bl, isTy_int_int, isTy_int_str, isTy_int_lst, isTy_int_tup, isTy_int_dct, isTy_bool_non, isTy_bool_bl, isTy_bool_int, isTy_bool_str, isTy_bool_lst, isTy_bool_tup, isTy_bool_dct, isTy_str_non, isTy_str_bl, isTy_str_int, isTy_str_str, isTy_str_lst, isTy_str_tup, isTy_str_dct, isTy_tuple_non, isTy_tuple_bl, isTy_tuple_int, isTy_tuple_str, isTy_tuple_lst, isTy_tuple_tup, isTy_tuple_dct, isTy_list_non, isTy_list_bl, isTy_list_int, isTy_list_str, isTy_list_lst, isTy_list_tup, isTy_list_dct, isTy_dict_non, isTy_dict_bl, isTy_dict_int, isTy_dict_str, isTy_dict_lst, isTy_dict_tup, isTy_dict_dct, dIx_l, dIx_t, nLc_ap, gN_ap, goOn_nx, goOn_rt, goOn_rtO, sSeq_ap, sNext_ap, sSet_ap, sOwn_ap, sTgt_ap, sRet_ap, retO_own, sRetO_ap, sIf_ap, sDrop_ap, sFor_ap, sApp_ap, sParN_ap, sParNK_ap, sVia_ap, eCall_ap, eCallV_ap, val_d, val_o, fin_rt, fin_rtO, fin_nx, DL.start, List.map_cons, List.map_nil, List.length_cons, List.length_nil, List.replicate, List.cons_append, List.nil_append, List.getElem?_cons_zero, List.getElem?_cons_succ, List.set_cons_zero, List.set_cons_succ, wipeG, Nat.reduceSub, Nat.reduceAdd, Nat.reduceLT, Nat.reduceLeDiff, if_true, if_false, Bool.not_true, Bool.not_false, Option.bind_some, Option.map_some, mkLst_c, e1, dMax_i _ (List.append_ne_nil_of_right_ne_nil _ (List.cons_ne_nil _ _)), appTo_own _ _ _ ((lev b pre).map .int) (by simp only [List.length_map, lim]; omega)]
      exact ⟨_, rfl, _, _, by rw [lev_app]; simp; exact ⟨rfl, rfl⟩⟩
  · rintro g ⟨s, t, rfl⟩
    simp -implicitDefEqProofs only [ob_some, ob_bind, ob_map, eC_ap, eN_ap, eV_ap, slotN_dat, slotV_dat, slotV_own, slotV_odc, e1_ap, e2_ap, n2_ap, nLen_ap, aN_ap, aC_ap, eApp_ap, eTup_ap, nLst_ap, mkTup_0, mkTup_1, mkTup_2, mkTup_3, mkTup_4, mkLst_0, eL_ap, tV_ap, asBl_bl, tU_ap, ifB_t, ifB_f, tAnd_ap, tOr_ap, tNot_ap, tYes_ap, eIf_ap, ifD_bl, eAnd_ap, eOr_ap, notD_bl, eNot_ap, eChain_ap, dAdd_i, dSub_i, dNeg_i, dLt_i, dLe_i, dGt_i, dGe_i, dIsN2_n, dNotB_b, dEq_i, dNe_i, dEq_b, dNe_b, dEq_s, dNe_s, dLen_l, dLen_t, dLen_s, dTupOf_l, dTupOf_t, nLstOf_l, nLstOf_t, dAbs_i, itemsD_l, itemsD_t, iSeq_ap, iSeqL_ap', seqL_l, iRng1_ap, iRng2_ap, iDown_ap, iEnum_ap, iZip_ap, zip2_l, isi_ap, isTy_int_non, isTy_int_bl, isTy_int_int, isTy_int_str, isTy_int_lst, isTy_int_tup, isTy_int_dct, isTy_bool_non, isTy_bool_bl, isTy_bool_int, isTy_bool_str, isTy_bool_lst, isTy_bool_tup, isTy_bool_dct, isTy_str_non, isTy_str_bl, isTy_str_int, isTy_str_str, isTy_str_lst, isTy_str_tup, isTy_str_dct, isTy_tuple_non, isTy_tuple_bl, isTy_tuple_int, isTy_tuple_str, isTy_tuple_lst, isTy_tuple_tup, isTy_tuple_dct, isTy_list_non, isTy_list_bl, isTy_list_int, isTy_list_str, isTy_list_lst, isTy_list_tup, isTy_list_dct, isTy_dict_non, isTy_dict_bl, isTy_dict_int, isTy_dict_str, isTy_dict_lst, isTy_dict_tup, isTy_dict_dct, dIx_l, dIx_t, nLc_ap, gN_ap, goOn_nx, goOn_rt, goOn_rtO, sSeq_ap, sNext_ap, sSet_ap, sOwn_ap, sTgt_ap, sRet_ap, retO_own, sRetO_ap, sIf_ap, sDrop_ap, sFor_ap, sApp_ap, sParN_ap, sParNK_ap, sVia_ap, eCall_ap, eCallV_ap, val_d, val_o, fin_rt, fin_rtO, fin_nx, DL.start, List.map_cons, List.map_nil, List.length_cons, List.length_nil, List.replicate, List.cons_append, List.nil_append, List.getElem?_cons_zero, List.getElem?_cons_succ, List.set_cons_zero, List.set_cons_succ, wipeG, Nat.reduceSub, Nat.reduceAdd, Nat.reduceLT, Nat.reduceLeDiff, if_true, if_false, Bool.not_true, Bool.not_false, Option.bind_some, Option.map_some, tI]
end Gk00
end
/-! T6 -/
section
set_option linter.all false
namespace Gk00
open PySem DL DM

/-! uses -/
def augTo (i : Nat) (g : G) (e : Option D) : Option Slot → D → Option Out
  | some (.own ds), .int j => (placeN ds.length j).bind fun p => match ds[p]? with
    | some (.int a) => e.bind fun d => match d with
      | .int b => some (.nx (g.set i (.own (ds.set p (.int (a + b))))))
      | _ => none
    | _ => none
  | _, _ => none
theorem sAugL_ap (i : Nat) (k e : M D) (g : G) : sAugL i k e g = (k g).bind fun j => augTo i g (e g) g[i]? j := by
  unfold sAugL; congr 1
theorem augTo_own (i : Nat) (g : G) (ds : List D) (j a b : Int) (h0 : 0 ≤ j) (ha : ds[j.toNat]? = some (.int a)) :
    augTo i g (some (.int b)) (some (.own ds)) (.int j) = some (.nx (g.set i (.own (ds.set j.toNat (.int (a + b)))))) := by
  have hl : j.toNat < ds.length := by
    rw [List.getElem?_eq_some_iff] at ha; exact ha.1
  have h2 : j < (ds.length : Int) := by omega
  simp only [augTo, placeN, if_pos h0, if_pos h2, Option.bind_some, ha]
def occ (ls : List Int) (v : Nat) : Nat := (ls.filter fun l => l.natAbs == v).length
theorem occ_app (a b : List Int) (v : Nat) : occ (a ++ b) v = occ a v + occ b v := by simp [occ]
def cnt (m : Nat) (ls : List Int) : List D := (List.range m).map fun j => D.int (occ ls (j + 1))
theorem cnt_get (m : Nat) (ls : List Int) (j : Nat) (h : j < m) : (cnt m ls)[j]? = some (.int (occ ls (j + 1))) := by
  simp [cnt, h]
theorem cnt_set (m : Nat) (ls : List Int) (l : Int) (h : 1 ≤ l.natAbs) (h2 : l.natAbs ≤ m) :
    (cnt m ls).set (l.natAbs - 1) (.int ((occ ls (l.natAbs - 1 + 1) : Nat) + 1)) = cnt m (ls ++ [l]) := by
  apply List.ext_getElem
  · simp [cnt]
  · intro j h3 h4
    simp only [cnt, List.getElem_set, List.getElem_map, List.getElem_range, occ_app]
    have hs : occ [l] (j + 1) = if l.natAbs = j + 1 then 1 else 0 := by
      simp only [occ, List.filter_cons, List.filter_nil]
      by_cases hj : l.natAbs = j + 1 <;> simp [hj]
    rw [hs]
    by_cases hj : l.natAbs - 1 = j
    · rw [if_pos hj, if_pos (by omega)]; subst hj; congr 1
    · rw [if_neg hj, if_neg (by omega)]; congr 1
theorem uses_eq {b : Nat} {rows : List (List Int)} (v : Valid b rows) (hb : b ≤ 4) : f_uses [gD b rows] = some (.d (.tup (cnt (b + rows.length) rows.flatten))) := by
  apply of_fn rfl
  unfold s_uses
  have i2 : dIx (gD b rows) (.int 2) = some (.tup (rows.map tI)) := rfl
  have hr := v.rs
  have r0 : nRep (.lst [.int 0]) (.int ((b : Int) + rows.length)) = some (cnt (b + rows.length) []) := by
    have := rep_0 (b + rows.length) (by omega)
    rw [show ((b + rows.length : Nat) : Int) = (b : Int) + rows.length by omega] at this
    rw [this]
    have e : (List.replicate (b + rows.length) (0 : Int)).map D.int = cnt (b + rows.length) [] := by
      apply List.ext_getElem
      · simp [cnt]
      · intro j h3 h4; simp [cnt, occ]
    rw [e]
  simp -implicitDefEqProofs only [ob_some, ob_bind, ob_map, eC_ap, eN_ap, eV_ap, slotN_dat, slotV_dat, slotV_own, slotV_odc, e1_ap, e2_ap, n2_ap, nLen_ap, aN_ap, aC_ap, eApp_ap, eTup_ap, nLst_ap, mkTup_0, mkTup_1, mkTup_2, mkTup_3, mkTup_4, mkLst_0, eL_ap, tV_ap, asBl_bl, tU_ap, ifB_t, ifB_f, tAnd_ap, tOr_ap, tNot_ap, tYes_ap, eIf_ap, ifD_bl, eAnd_ap, eOr_ap, notD_bl, eNot_ap, eChain_ap, dAdd_i, dSub_i, dNeg_i, dLt_i, dLe_i, dGt_i, dGe_i, dIsN2_n, dNotB_b, dEq_i, dNe_i, dEq_b, dNe_b, dEq_s, dNe_s, dLen_l, dLen_t, dLen_s, dTupOf_l, dTupOf_t, nLstOf_l, nLstOf_t, dAbs_i, itemsD_l, itemsD_t, iSeq_ap, iSeqL_ap', seqL_l, iRng1_ap, iRng2_ap, iDown_ap, iEnum_ap, iZip_ap, zip2_l, isi_ap, isTy_int_non, isTy_int_bl, isTy_int_int, isTy_int_str, isTy_int_lst, isTy_int_tup, isTy_int_dct, isTy_bool_non, isTy_bool_bl, isTy_bool_int, isTy_bool_str, isTy_bool_lst, isTy_bool_tup, isTy_bool_dct, isTy_str_non, isTy_str_bl, isTy_str_int, isTy_str_str, isTy_str_lst, isTy_str_tup, isTy_str_dct, isTy_tuple_non, isTy_tuple_bl, isTy_tuple_int, isTy_tuple_str, isTy_tuple_lst, isTy_tuple_tup, isTy_tuple_dct, isTy_list_non, isTy_list_bl, isTy_list_int, isTy_list_str, isTy_list_lst, isTy_list_tup, isTy_list_dct, isTy_dict_non, isTy_dict_bl, isTy_dict_int, isTy_dict_str, isTy_dict_lst, isTy_dict_tup, isTy_dict_dct, dIx_l, dIx_t, nLc_ap, gN_ap, goOn_nx, goOn_rt, goOn_rtO, sSeq_ap, sNext_ap, sSet_ap, sOwn_ap, sTgt_ap, sRet_ap, retO_own, sRetO_ap, sIf_ap, sDrop_ap, sFor_ap, sApp_ap, sParN_ap, sParNK_ap, sVia_ap, eCall_ap, eCallV_ap, val_d, val_o, fin_rt, fin_rtO, fin_nx, DL.start, List.map_cons, List.map_nil, List.length_cons, List.length_nil, List.replicate, List.cons_append, List.nil_append, List.getElem?_cons_zero, List.getElem?_cons_succ, List.set_cons_zero, List.set_cons_succ, wipeG, Nat.reduceSub, Nat.reduceAdd, Nat.reduceLT, Nat.reduceLeDiff, if_true, if_false, Bool.not_true, Bool.not_false, Option.bind_some, Option.map_some, variables_in_eq v hb, mkLst_c, r0, i2]
  refine ob_for tI (fun pre g => ∃ s t, g = [.dat (gD b rows), .own (cnt (b + rows.length) pre.flatten), s, t]) ⟨_, _, rfl⟩ ?_ ?_
  · rintro pre x post g e ⟨s, t, rfl⟩
    obtain ⟨v1, v2, v3⟩ := valid_at v e
    have hp : pre.length ≤ rows.length := by rw [e]; simp
    simp -implicitDefEqProofs only [ob_some, ob_bind, ob_map, eC_ap, eN_ap, eV_ap, slotN_dat, slotV_dat, slotV_own, slotV_odc, e1_ap, e2_ap, n2_ap, nLen_ap, aN_ap, aC_ap, eApp_ap, eTup_ap, nLst_ap, mkTup_0, mkTup_1, mkTup_2, mkTup_3, mkTup_4, mkLst_0, eL_ap, tV_ap, asBl_bl, tU_ap, ifB_t, ifB_f, tAnd_ap, tOr_ap, tNot_ap, tYes_ap, eIf_ap, ifD_bl, eAnd_ap, eOr_ap, notD_bl, eNot_ap, eChain_ap, dAdd_i, dSub_i, dNeg_i, dLt_i, dLe_i, dGt_i, dGe_i, dIsN2_n, dNotB_b, dEq_i, dNe_i, dEq_b, dNe_b, dEq_s, dNe_s, dLen_l, dLen_t, dLen_s, dTupOf_l, dTupOf_t, nLstOf_l, nLstOf_t, dAbs_i, itemsD_l, itemsD_t, iSeq_ap, iSeqL_ap', seqL_l, iRng1_ap, iRng2_ap, iDown_ap, iEnum_ap, iZip_ap, zip2_l, isi_ap, isTy_int_non, isTy_int_bl, isTy_int_int, isTy_int_str, isTy_int_lst, isTy_int_tup, isTy_int_dct, isTy_bool_non, isTy_bool_bl, isTy_bool_int, isTy_bool_str, isTy_bool_lst, isTy_bool_tup, isTy_bool_dct, isTy_str_non, isTy_str_bl, isTy_str_int, isTy_str_str, isTy_str_lst, isTy_str_tup, isTy_str_dct, isTy_tuple_non, isTy_tuple_bl, isTy_tuple_int, isTy_tuple_str, isTy_tuple_lst, isTy_tuple_tup, isTy_tuple_dct, isTy_list_non, isTy_list_bl, isTy_list_int, isTy_list_str, isTy_list_lst, isTy_list_tup, isTy_list_dct, isTy_dict_non, isTy_dict_bl, isTy_dict_int, isTy_dict_str, isTy_dict_lst, isTy_dict_tup, isTy_dict_dct, dIx_l, dIx_t, nLc_ap, gN_ap, goOn_nx, goOn_rt, goOn_rtO, sSeq_ap, sNext_ap, sSet_ap, sOwn_ap, sTgt_ap, sRet_ap, retO_own, sRetO_ap, sIf_ap, sDrop_ap, sFor_ap, sApp_ap, sParN_ap, sParNK_ap, sVia_ap, eCall_ap, eCallV_ap, val_d, val_o, fin_rt, fin_rtO, fin_nx, DL.start, List.map_cons, List.map_nil, List.length_cons, List.length_nil, List.replicate, List.cons_append, List.nil_append, List.getElem?_cons_zero, List.getElem?_cons_succ, List.set_cons_zero, List.set_cons_succ, wipeG, Nat.reduceSub, Nat.reduceAdd, Nat.reduceLT, Nat.reduceLeDiff, if_true, if_false, Bool.not_true, Bool.not_false, Option.bind_some, Option.map_some, tI]
    refine ob_for .int (fun prel g => ∃ t, g = [.dat (gD b rows), .own (cnt (b + rows.length) (pre.flatten ++ prel)), .dat (tI x), t]) ⟨_, by simp [tI]; rfl⟩ ?_ ?_
    · rintro prel l postl g el ⟨t, rfl⟩
      have := v1 l (by rw [el]; simp)
      simp -implicitDefEqProofs only [ob_some, ob_bind, ob_map, eC_ap, eN_ap, eV_ap, slotN_dat, slotV_dat, slotV_own, slotV_odc, e1_ap, e2_ap, n2_ap, nLen_ap, aN_ap, aC_ap, eApp_ap, eTup_ap, nLst_ap, mkTup_0, mkTup_1, mkTup_2, mkTup_3, mkTup_4, mkLst_0, eL_ap, tV_ap, asBl_bl, tU_ap, ifB_t, ifB_f, tAnd_ap, tOr_ap, tNot_ap, tYes_ap, eIf_ap, ifD_bl, eAnd_ap, eOr_ap, notD_bl, eNot_ap, eChain_ap, dAdd_i, dSub_i, dNeg_i, dLt_i, dLe_i, dGt_i, dGe_i, dIsN2_n, dNotB_b, dEq_i, dNe_i, dEq_b, dNe_b, dEq_s, dNe_s, dLen_l, dLen_t, dLen_s, dTupOf_l, dTupOf_t, nLstOf_l, nLstOf_t, dAbs_i, itemsD_l, itemsD_t, iSeq_ap, iSeqL_ap', seqL_l, iRng1_ap, iRng2_ap, iDown_ap, iEnum_ap, iZip_ap, zip2_l, isi_ap, isTy_int_non, isTy_int_bl, isTy_int_int, isTy_int_str, isTy_int_lst, isTy_int_tup, isTy_int_dct, isTy_bool_non, isTy_bool_bl, isTy_bool_int, isTy_bool_str, isTy_bool_lst, isTy_bool_tup, isTy_bool_dct, isTy_str_non, isTy_str_bl, isTy_str_int, isTy_str_str, isTy_str_lst, isTy_str_tup, isTy_str_dct, isTy_tuple_non, isTy_tuple_bl, isTy_tuple_int, isTy_tuple_str, isTy_tuple_lst, isTy_tuple_tup, isTy_tuple_dct, isTy_list_non, isTy_list_bl, isTy_list_int, isTy_list_str, isTy_list_lst, isTy_list_tup, isTy_list_dct, isTy_dict_non, isTy_dict_bl, isTy_dict_int, isTy_dict_str, isTy_dict_lst, isTy_dict_tup, isTy_dict_dct, dIx_l, dIx_t, nLc_ap, gN_ap, goOn_nx, goOn_rt, goOn_rtO, sSeq_ap, sNext_ap, sSet_ap, sOwn_ap, sTgt_ap, sRet_ap, retO_own, sRetO_ap, sIf_ap, sDrop_ap, sFor_ap, sApp_ap, sParN_ap, sParNK_ap, sVia_ap, eCall_ap, eCallV_ap, val_d, val_o, fin_rt, fin_rtO, fin_nx, DL.start, List.map_cons, List.map_nil, List.length_cons, List.length_nil, List.replicate, List.cons_append, List.nil_append, List.getElem?_cons_zero, List.getElem?_cons_succ, List.set_cons_zero, List.set_cons_succ, wipeG, Nat.reduceSub, Nat.reduceAdd, Nat.reduceLT, Nat.reduceLeDiff, if_true, if_false, Bool.not_true, Bool.not_false, Option.bind_some, Option.map_some, sAugL_ap]
      rw [augTo_own _ _ _ _ _ 1 (by omega) (by
        rw [show ((l.natAbs : Int) - 1).toNat = l.natAbs - 1 by omega]
        exact cnt_get _ _ _ (by omega))]
      rw [show ((l.natAbs : Int) - 1).toNat = l.natAbs - 1 by omega, cnt_set _ _ _ this.1 (by omega)]
      simp -implicitDefEqProofs only [ob_some, ob_bind, ob_map, eC_ap, eN_ap, eV_ap, slotN_dat, slotV_dat, slotV_own, slotV_odc, e1_ap, e2_ap, n2_ap, nLen_ap, aN_ap, aC_ap, eApp_ap, eTup_ap, nLst_ap, mkTup_0, mkTup_1, mkTup_2, mkTup_3, mkTup_4, mkLst_0, eL_ap, tV_ap, asBl_bl, tU_ap, ifB_t, ifB_f, tAnd_ap, tOr_ap, tNot_ap, tYes_ap, eIf_ap, ifD_bl, eAnd_ap, eOr_ap, notD_bl, eNot_ap, eChain_ap, dAdd_i, dSub_i, dNeg_i, dLt_i, dLe_i, dGt_i, dGe_i, dIsN2_n, dNotB_b, dEq_i, dNe_i, dEq_b, dNe_b, dEq_s, dNe_s, dLen_l, dLen_t, dLen_s, dTupOf_l, dTupOf_t, nLstOf_l, nLstOf_t, dAbs_i, itemsD_l, itemsD_t, iSeq_ap, iSeqL_ap', seqL_l, iRng1_ap, iRng2_ap, iDown_ap, iEnum_ap, iZip_ap, zip2_l, isi_ap, isTy_int_non, isTy_int_bl, isTy_int_int, isTy_int_str, isTy_int_lst, isTy_int_tup, isTy_int_dct, isTy_bool_non, isTy_bool_bl, isTy_bool_int, isTy_bool_str, isTy_bool_lst, isTy_bool_tup, isTy_bool_dct, isTy_str_non, isTy_str_bl, isTy_str_int, isTy_str_str, isTy_str_lst, isTy_str_tup, isTy_str_dct, isTy_tuple_non, isTy_tuple_bl, isTy_tuple_int, isTy_tuple_str, isTy_tuple_lst, isTy_tuple_tup, isTy_tuple_dct, isTy_list_non, isTy_list_bl, isTy_list_int, isTy_list_str, isTy_list_lst, isTy_list_tup, isTy_list_dct, isTy_dict_non, isTy_dict_bl, isTy_dict_int, isTy_dict_str, isTy_dict_lst, isTy_dict_tup, isTy_dict_dct, dIx_l, dIx_t, nLc_ap, gN_ap, goOn_nx, goOn_rt, goOn_rtO, sSeq_ap, sNext_ap, sSet_ap, sOwn_ap, sTgt_ap, sRet_ap, retO_own, sRetO_ap, sIf_ap, sDrop_ap, sFor_ap, sApp_ap, sParN_ap, sParNK_ap, sVia_ap, eCall_ap, eCallV_ap, val_d, val_o, fin_rt, fin_rtO, fin_nx, DL.start, List.map_cons, List.map_nil, List.length_cons, List.length_nil, List.replicate, List.cons_append, List.nil_append, List.getElem?_cons_zero, List.getElem?_cons_succ, List.set_cons_zero, List.set_cons_succ, wipeG, Nat.reduceSub, Nat.reduceAdd, Nat.reduceLT, Nat.reduceLeDiff, if_true, if_false, Bool.not_true, Bool.not_false, Option.bind_some, Option.map_some]
      exact ⟨_, rfl, _, by simp; rfl⟩
    · rintro g ⟨t, rfl⟩
      exact ⟨_, rfl, _, _, by simp; exact ⟨rfl, rfl⟩⟩
  · rintro g ⟨s, t, rfl⟩
    simp -implicitDefEqProofs only [ob_some, ob_bind, ob_map, eC_ap, eN_ap, eV_ap, slotN_dat, slotV_dat, slotV_own, slotV_odc, e1_ap, e2_ap, n2_ap, nLen_ap, aN_ap, aC_ap, eApp_ap, eTup_ap, nLst_ap, mkTup_0, mkTup_1, mkTup_2, mkTup_3, mkTup_4, mkLst_0, eL_ap, tV_ap, asBl_bl, tU_ap, ifB_t, ifB_f, tAnd_ap, tOr_ap, tNot_ap, tYes_ap, eIf_ap, ifD_bl, eAnd_ap, eOr_ap, notD_bl, eNot_ap, eChain_ap, dAdd_i, dSub_i, dNeg_i, dLt_i, dLe_i, dGt_i, dGe_i, dIsN2_n, dNotB_b, dEq_i, dNe_i, dEq_b, dNe_b, dEq_s, dNe_s, dLen_l, dLen_t, dLen_s, dTupOf_l, dTupOf_t, nLstOf_l, nLstOf_t, dAbs_i, itemsD_l, itemsD_t, iSeq_ap, iSeqL_ap', seqL_l, iRng1_ap, iRng2_ap, iDown_ap, iEnum_ap, iZip_ap, zip2_l, isi_ap, isTy_int_non, isTy_int_bl, isTy_int_int, isTy_int_str, isTy_int_lst, isTy_int_tup, isTy_int_dct, isTy_bool_non, isTy_bool_bl, isTy_bool_int, isTy_bool_str, isTy_bool_lst, isTy_bool_tup, isTy_bool_dct, isTy_str_non, isTy_str_bl, isTy_str_int, isTy_str_str, isTy_str_lst, isTy_str_tup, isTy_str_dct, isTy_tuple_non, isTy_tuple_bl, isTy_tuple_int, isTy_tuple_str, isTy_tuple_lst, isTy_tuple_tup, isTy_tuple_dct, isTy_list_non, isTy_list_bl, isTy_list_int, isTy_list_str, isTy_list_lst, isTy_list_tup, isTy_list_dct, isTy_dict_non, isTy_dict_bl, isTy_dict_int, isTy_dict_str, isTy_dict_lst, isTy_dict_tup, isTy_dict_dct, dIx_l, dIx_t, nLc_ap, gN_ap, goOn_nx, goOn_rt, goOn_rtO, sSeq_ap, sNext_ap, sSet_ap, sOwn_ap, sTgt_ap, sRet_ap, retO_own, sRetO_ap, sIf_ap, sDrop_ap, sFor_ap, sApp_ap, sParN_ap, sParNK_ap, sVia_ap, eCall_ap, eCallV_ap, val_d, val_o, fin_rt, fin_rtO, fin_nx, DL.start, List.map_cons, List.map_nil, List.length_cons, List.length_nil, List.replicate, List.cons_append, List.nil_append, List.getElem?_cons_zero, List.getElem?_cons_succ, List.set_cons_zero, List.set_cons_succ, wipeG, Nat.reduceSub, Nat.reduceAdd, Nat.reduceLT, Nat.reduceLeDiff, if_true, if_false, Bool.not_true, Bool.not_false, Option.bind_some, Option.map_some]
theorem occ_row (r : List Int) (h : r.Pairwise (fun a b => a.natAbs < b.natAbs)) (v : Nat) : occ r v = if r.any (fun l => l.natAbs == v) then 1 else 0 := by
  induction r with
  | nil => rfl
  | cons x r ih =>
    rw [List.pairwise_cons] at h
    have ih := ih h.2
    by_cases hx : x.natAbs = v
    · have : r.filter (fun l => l.natAbs == v) = [] := by
        rw [List.filter_eq_nil_iff]; intro l hl; have := h.1 l hl; simp; omega
      simp [occ, List.filter_cons, hx, this]
    · simp only [occ, List.filter_cons, List.any_cons, beq_false_of_ne hx, Bool.false_or] at ih ⊢
      exact ih
theorem in_tI (v : Int) (r : List Int) : dIn (.int v) (tI r) = some (.bl (r.any (· == v))) := by
  have h1 : (r.map D.int).all flatD = true := by simp [flatD]
  have h2 : memD (.int v) (r.map D.int) = r.any (· == v) := by
    unfold memD; rw [List.any_map]; congr 1
  simp only [dIn, tI, h1, h2, flatD, Bool.and_self, if_true]
theorem occ_rows (rows : List (List Int)) (h : ∀ r ∈ rows, r.Pairwise (fun a b => a.natAbs < b.natAbs)) (v : Nat) (hv : 1 ≤ v) :
    occ rows.flatten v = (rows.filter fun r => r.any (· == (v : Int)) || r.any (· == -(v : Int))).length := by
  induction rows with
  | nil => rfl
  | cons r rows ih =>
    have ih := ih fun r hr => h r (List.mem_cons_of_mem _ hr)
    rw [List.flatten_cons, occ_app, ih, occ_row r (h r List.mem_cons_self)]
    have e : (r.any fun l => l.natAbs == v) = (r.any (· == (v : Int)) || r.any (· == -(v : Int))) := by
      rw [Bool.eq_iff_iff]
      simp only [List.any_eq_true, Bool.or_eq_true, beq_iff_eq]
      constructor
      · rintro ⟨l, h1, h2⟩
        rcases Int.natAbs_eq l with h3 | h3
        · exact Or.inl ⟨l, h1, by omega⟩
        · exact Or.inr ⟨l, h1, by omega⟩
      · rintro (⟨l, h1, h2⟩ | ⟨l, h1, h2⟩)
        · exact ⟨l, h1, by omega⟩
        · exact ⟨l, h1, by omega⟩
    rw [List.filter_cons, e]
    cases (r.any (· == (v : Int)) || r.any (· == -(v : Int))) <;> simp [Nat.add_comm]
end Gk00
end
/-! T7 -/
section
set_option linter.all false
namespace Gk00
open PySem DL DM

/-! what is needed -/
def Ev (b : Nat) (rows : List (List Int)) (v : Nat) : List Nat := if b < v then ((rows[v - b - 1]?).getD []).map Int.natAbs else []
inductive Rch (b : Nat) (rows : List (List Int)) (ls : List Nat) : Nat → Prop
  | lit (v) (h : v ∈ ls) : Rch b rows ls v
  | step (u v) (h : Rch b rows ls u) (h2 : v ∈ Ev b rows u) : Rch b rows ls v
theorem rch_of {b rows ls} (W : List Nat) (h1 : ∀ v ∈ ls, v ∈ W) (h2 : ∀ u ∈ W, ∀ v ∈ Ev b rows u, v ∈ W) : ∀ v, Rch b rows ls v → v ∈ W := by
  intro v h
  induction h with
  | lit v h => exact h1 v h
  | step u v _ h2' ih => exact h2 u ih v h2'
theorem Ev_lt {b : Nat} {rows : List (List Int)} (v : Valid b rows) (u w : Nat) (h : w ∈ Ev b rows u) : 1 ≤ w ∧ w < u ∧ u ≤ b + rows.length := by
  unfold Ev at h
  split at h
  · rename_i hu
    rw [List.mem_map] at h
    obtain ⟨l, hl, rfl⟩ := h
    cases hr : rows[u - b - 1]? with
    | none => rw [hr] at hl; simp at hl
    | some r =>
      rw [hr] at hl
      have hlt : u - b - 1 < rows.length := by
        rw [List.getElem?_eq_some_iff] at hr; exact hr.1
      have := (v.cl _ _ hr).1.1 l hl
      omega
  · simp at h
theorem Ev_len {b : Nat} {rows : List (List Int)} (v : Valid b rows) (u : Nat) : (Ev b rows u).length ≤ 3 := by
  unfold Ev
  split
  · cases hr : rows[u - b - 1]? with
    | none => simp
    | some r => simp; exact v.sz r (List.mem_of_getElem? hr)
  · simp
/-! sorted lists -/
theorem mem_insBy {α : Type} (le : α → α → Bool) (x y : α) (l : List α) : y ∈ insBy le x l ↔ y = x ∨ y ∈ l := by
  induction l with
  | nil => simp [insBy]
  | cons z l ih => simp only [insBy]; split <;> simp [ih]; constructor <;> (rintro (h | h | h) <;> simp [h])
theorem mem_sortI (l : List Int) (y : Int) : y ∈ sortI l ↔ y ∈ l := by
  induction l with
  | nil => exact Iff.rfl
  | cons x l ih => 
    have ih : y ∈ sortBy leI l ↔ y ∈ l := ih
    show y ∈ insBy leI x (sortBy leI l) ↔ _
    rw [mem_insBy, ih, List.mem_cons]
theorem ins_asc (x : Int) (l : List Int) (h : l.Pairwise (· < ·)) (hx : x ∉ l) : (insBy leI x l).Pairwise (· < ·) := by
  induction l with
  | nil => simp [insBy]
  | cons z l ih =>
    rw [List.pairwise_cons] at h
    simp only [List.mem_cons, not_or] at hx
    simp only [insBy]; split
    · rename_i hle
      have hle : x ≤ z := by simpa [leI] using hle
      rw [List.pairwise_cons]
      refine ⟨?_, List.pairwise_cons.mpr h⟩
      intro y hy; rw [List.mem_cons] at hy
      rcases hy with rfl | hy
      · omega
      · have := h.1 y hy; omega
    · rename_i hle
      have hle : ¬ x ≤ z := by simpa [leI] using hle
      rw [List.pairwise_cons]
      refine ⟨?_, ih h.2 hx.2⟩
      intro y hy; rw [mem_insBy] at hy
      rcases hy with rfl | hy
      · omega
      · exact h.1 y hy
theorem sort_asc (l : List Int) (h : l.Nodup) : (sortI l).Pairwise (· < ·) := by
  induction l with
  | nil => exact List.Pairwise.nil
  | cons x l ih =>
    rw [List.nodup_cons] at h
    exact ins_asc x _ (ih h.2) (by rw [show sortBy leI l = sortI l from rfl, mem_sortI]; exact h.1)
theorem asc_uniq : ∀ (a b : List Int), a.Pairwise (· < ·) → b.Pairwise (· < ·) → (∀ x, x ∈ a ↔ x ∈ b) → a = b
  | [], [], _, _, _ => rfl
  | [], y :: b, _, _, h => by have := (h y).mpr List.mem_cons_self; simp at this
  | x :: a, [], _, _, h => by have := (h x).mp List.mem_cons_self; simp at this
  | x :: a, y :: b, ha, hb, h => by
    rw [List.pairwise_cons] at ha hb
    have e : x = y := by
      have h1 := (h x).mp List.mem_cons_self
      have h2 := (h y).mpr List.mem_cons_self
      rw [List.mem_cons] at h1 h2
      rcases h1 with h1 | h1
      · exact h1
      · rcases h2 with h2 | h2
        · exact h2.symm
        · have := ha.1 y h2; have := hb.1 x h1; omega
    subst e
    rw [asc_uniq a b ha.2 hb.2]
    intro z
    have hz := h z
    simp only [List.mem_cons] at hz
    constructor
    · intro h1
      rcases hz.mp (Or.inr h1) with h2 | h2
      · have := ha.1 z h1; omega
      · exact h2
    · intro h1
      rcases hz.mpr (Or.inr h1) with h2 | h2
      · have := hb.1 z h1; omega
      · exact h2
theorem nodup_len (l : List Nat) (m : Nat) (h : l.Nodup) (hb : ∀ x ∈ l, 1 ≤ x ∧ x ≤ m) : l.length ≤ m := by
  induction m generalizing l with
  | zero => cases l with
    | nil => simp
    | cons x l => have := hb x List.mem_cons_self; omega
  | succ m ih =>
    have h1 : (l.erase (m + 1)).Nodup := h.erase _
    have := ih (l.erase (m + 1)) h1 (by
      intro x hx
      rw [h.mem_erase_iff] at hx
      have := hb x hx.2; omega)
    have h2 := List.length_erase (a := m + 1) (l := l)
    split at h2 <;> omega
/-! steps of the walk -/
def popTo (y i : Nat) (g : G) : Option Slot → Option Out
  | some (.own ds) => (ds[ds.length - 1]?).bind fun d => if y < g.length then some (.nx ((g.set i (.own ds.dropLast)).set y (.dat d))) else none
  | _ => none
theorem sPop_ap (y i : Nat) (g : G) : sPop y i g = popTo y i g g[i]? := by unfold sPop popTo; rfl
theorem popTo_own (y i : Nat) (g : G) (ds : List D) (d : D) : popTo y i g (some (.own (ds ++ [d]))) = if y < g.length then some (.nx ((g.set i (.own ds)).set y (.dat d))) else none := by
  simp [popTo]
def putTo (i : Nat) (g : G) (d j : D) : Option Slot → Option Out
  | some (.odc kvs) => if keyD j ∧ kvs.length < lim then some (.nx (g.set i (.odc (putD kvs j d)))) else none
  | _ => none
theorem sPutD_ap (i : Nat) (k e : M D) (g : G) : sPutD i k e g = (e g).bind fun d => (k g).bind fun j => putTo i g d j g[i]? := by
  unfold sPutD; congr 1
theorem putTo_own (i : Nat) (g : G) (d j : D) (kvs) (hk : keyD j = true) (hl : kvs.length < lim) : putTo i g d j (some (.odc kvs)) = some (.nx (g.set i (.odc (putD kvs j d)))) := by
  simp only [putTo]; rw [if_pos ⟨hk, hl⟩]
def extTo (i : Nat) (g : G) : Option Slot → D → Option Out
  | some (.own ds), .lst es => if ds.length + es.length ≤ lim then some (.nx (g.set i (.own (ds ++ es)))) else none
  | _, _ => none
theorem sExt_ap (i : Nat) (e : M D) (g : G) : sExt i e g = (e g).bind fun es => extTo i g g[i]? es := by
  unfold sExt; congr 1
theorem extTo_own (i : Nat) (g : G) (ds es : List D) (h : ds.length + es.length ≤ lim) : extTo i g (some (.own ds)) (.lst es) = some (.nx (g.set i (.own (ds ++ es)))) := by
  simp [extTo, h]
def nD (l : List Nat) : List D := l.map fun (v : Nat) => D.int (v : Int)
def kD (l : List Nat) : List (D × D) := l.map fun (v : Nat) => (D.int (v : Int), D.bl true)
theorem getD_kD (l : List Nat) (v : Nat) : (getD (kD l) (.int v)).isSome = decide (v ∈ l) := by
  unfold getD kD
  rw [Option.isSome_map]
  induction l with
  | nil => simp
  | cons x l ih =>
    rw [List.map_cons, List.find?_cons]
    by_cases h : x = v
    · subst h; simp [keyEq]
    · have : keyEq (.int x) (.int v) = false := by simp [keyEq]; omega
      simp only [this]
      rw [ih]
      have h' : ¬ v = x := fun e => h e.symm
      simp [h']
theorem putD_kD (l : List Nat) (v : Nat) (h : v ∉ l) : putD (kD l) (.int v) (.bl true) = kD (l ++ [v]) := by
  unfold putD
  have : ((kD l).any fun kv => keyEq kv.1 (.int v)) = false := by
    rw [List.any_eq_false]
    intro kv hkv
    unfold kD at hkv
    rw [List.mem_map] at hkv
    obtain ⟨x, hx, rfl⟩ := hkv
    simp [keyEq]
    intro e
    have e2 : x = v := by omega
    exact h (e2 ▸ hx)
  rw [this]; simp [kD]
theorem notInK (l : List Nat) (v : Nat) : dNotInK (.int v) (.dct (kD l)) = some (.bl (!decide (v ∈ l))) := by
  simp only [dNotInK, keyD, if_true, getD_kD]
theorem truth_l (l : List D) : truth (.lst l) = some (!l.isEmpty) := rfl
theorem sWhile_ap (n : Nat) (t : M Bool) (body : S) (g : G) : sWhile n t body g = whileGo t body n g := rfl
end Gk00
end
/-! T8 -/
section
set_option linter.all false
namespace Gk00
open PySem DL DM

structure WInv (b : Nat) (rows : List (List Int)) (ls todo found : List Nat) : Prop where
  r : ∀ v, v ∈ todo ∨ v ∈ found → Rch b rows ls v ∧ 1 ≤ v ∧ v ≤ b + rows.length
  l : ∀ v ∈ ls, v ∈ todo ∨ v ∈ found
  c : ∀ u ∈ found, ∀ v ∈ Ev b rows u, v ∈ todo ∨ v ∈ found
  n : found.Nodup
theorem Ev_row {b : Nat} {rows : List (List Int)} (u : Nat) (h : b < u) (h2 : u ≤ b + rows.length) : ∃ r, rows[u - b - 1]? = some r ∧ Ev b rows u = r.map Int.natAbs := by
  have h3 : rows[u - b - 1]? = some rows[u - b - 1] := List.getElem?_eq_getElem (by omega)
  exact ⟨_, h3, by unfold Ev; rw [if_pos h, h3]; rfl⟩
theorem needed_loop {b : Nat} {rows : List (List Int)} (v : Valid b rows) (hb : b ≤ 4) (ls : List Nat) (lD : D) (P : Out → Prop)
    (hP : ∀ found s t, WInv b rows ls [] found → P (.nx [.dat (gD b rows), .dat lD, .own [], .odc (kD found), s, t])) :
    ∀ n, n ≤ 1000 → ∀ todo found, WInv b rows ls todo found → todo.length + 4 * (b + rows.length - found.length) < n → ∀ s t,
    Ob (whileGo (tU (eV 2))
  (sSeq (sPop 4 2)
  (sIf (tV (e2 dNotInK (eV 4) (eV 3))) (sSeq (sPutD 3 (eN 4) (eC (.bl true)))
  (sIf (tV (e2 dGt (eV 4) (e2 dIx (eV 0) (eC (.int 1))))) (sExt 2 (eL (nLc (iSeq (e2 dIx (e2 dIx (eV 0) (eC (.int 2))) (e2 dSub (e2 dSub (eV 4) (e2 dIx (eV 0) (eC (.int 1)))) (eC (.int 1))))) (gN 5) tYes (eApp dAbs (aC (eV 5) aN)) [5]))) sNext)) sNext))
    n [.dat (gD b rows), .dat lD, .own (nD todo), .odc (kD found), s, t]) P := by
  intro n
  have i1 : dIx (gD b rows) (.int 1) = some (.int b) := rfl
  have i2 : dIx (gD b rows) (.int 2) = some (.tup (rows.map tI)) := rfl
  have hr := v.rs
  induction n with
  | zero => intro _ todo found _ h; omega
  | succ n ih =>
    intro hn1 todo found w hn s t
    have ih := ih (by omega)
    have hf : found.length ≤ b + rows.length := nodup_len _ _ w.n fun x hx => (w.r x (Or.inr hx)).2
    rcases List.eq_nil_or_concat todo with rfl | ⟨init, h, rfl⟩
    · refine eq_ob ?_ (hP found s t w)
      simp only [whileGo, tU_ap, eV_ap, List.getElem?_cons_zero, List.getElem?_cons_succ, slotV_own, Option.bind_some, truth_l]
      rfl
    · have e1 : nD (init.concat h) = nD init ++ [.int (h : Nat)] := by simp [nD]
      have hh := w.r h (Or.inl (by simp))
      have he : (nD init ++ [D.int (h : Nat)]).isEmpty = false := by simp
      have hin : init.length + 1 = (init.concat h).length := by simp
      rw [e1]
      unfold whileGo
      simp -implicitDefEqProofs only [ob_some, ob_bind, ob_map, eC_ap, eN_ap, eV_ap, slotN_dat, slotV_dat, slotV_own, slotV_odc, e1_ap, e2_ap, n2_ap, nLen_ap, aN_ap, aC_ap, eApp_ap, eTup_ap, nLst_ap, mkTup_0, mkTup_1, mkTup_2, mkTup_3, mkTup_4, mkLst_0, eL_ap, tV_ap, asBl_bl, tU_ap, ifB_t, ifB_f, tAnd_ap, tOr_ap, tNot_ap, tYes_ap, eIf_ap, ifD_bl, eAnd_ap, eOr_ap, notD_bl, eNot_ap, eChain_ap, dAdd_i, dSub_i, dNeg_i, dLt_i, dLe_i, dGt_i, dGe_i, dIsN2_n, dNotB_b, dEq_i, dNe_i, dEq_b, dNe_b, dEq_s, dNe_s, dLen_l, dLen_t, dLen_s, dTupOf_l, dTupOf_t, nLstOf_l, nLstOf_t, dAbs_i, itemsD_l, itemsD_t, iSeq_ap, iSeqL_ap', seqL_l, iRng1_ap, iRng2_ap, iDown_ap, iEnum_ap, iZip_ap, zip2_l, isi_ap, isTy_int_non, isTy_int_bl, isTy_int_int, isTy_int_str, isTy_int_lst, isTy_int_tup, isTy_int_dct, isTy_bool_non, isTy_bool_bl, isTy_bool_int, isTy_bool_str, isTy_bool_lst, isTy_bool_tup, isTy_bool_dct, isTy_str_non, isTy_str_bl, isTy_str_int, isTy_str_str, isTy_str_lst, isTy_str_tup, isTy_str_dct, isTy_tuple_non, isTy_tuple_bl, isTy_tuple_int, isTy_tuple_str, isTy_tuple_lst, isTy_tuple_tup, isTy_tuple_dct, isTy_list_non, isTy_list_bl, isTy_list_int, isTy_list_str, isTy_list_lst, isTy_list_tup, isTy_list_dct, isTy_dict_non, isTy_dict_bl, isTy_dict_int, isTy_dict_str, isTy_dict_lst, isTy_dict_tup, isTy_dict_dct, dIx_l, dIx_t, nLc_ap, gN_ap, goOn_nx, goOn_rt, goOn_rtO, sSeq_ap, sNext_ap, sSet_ap, sOwn_ap, sTgt_ap, sRet_ap, retO_own, sRetO_ap, sIf_ap, sDrop_ap, sFor_ap, sApp_ap, sParN_ap, sParNK_ap, sVia_ap, eCall_ap, eCallV_ap, val_d, val_o, fin_rt, fin_rtO, fin_nx, DL.start, List.map_cons, List.map_nil, List.length_cons, List.length_nil, List.replicate, List.cons_append, List.nil_append, List.getElem?_cons_zero, List.getElem?_cons_succ, List.set_cons_zero, List.set_cons_succ, wipeG, Nat.reduceSub, Nat.reduceAdd, Nat.reduceLT, Nat.reduceLeDiff, if_true, if_false, Bool.not_true, Bool.not_false, Option.bind_some, Option.map_some, truth_l, he, sPop_ap, popTo_own, notInK]
      by_cases hm : h ∈ found
      · simp -implicitDefEqProofs only [ob_some, ob_bind, ob_map, eC_ap, eN_ap, eV_ap, slotN_dat, slotV_dat, slotV_own, slotV_odc, e1_ap, e2_ap, n2_ap, nLen_ap, aN_ap, aC_ap, eApp_ap, eTup_ap, nLst_ap, mkTup_0, mkTup_1, mkTup_2, mkTup_3, mkTup_4, mkLst_0, eL_ap, tV_ap, asBl_bl, tU_ap, ifB_t, ifB_f, tAnd_ap, tOr_ap, tNot_ap, tYes_ap, eIf_ap, ifD_bl, eAnd_ap, eOr_ap, notD_bl, eNot_ap, eChain_ap, dAdd_i, dSub_i, dNeg_i, dLt_i, dLe_i, dGt_i, dGe_i, dIsN2_n, dNotB_b, dEq_i, dNe_i, dEq_b, dNe_b, dEq_s, dNe_s, dLen_l, dLen_t, dLen_s, dTupOf_l, dTupOf_t, nLstOf_l, nLstOf_t, dAbs_i, itemsD_l, itemsD_t, iSeq_ap, iSeqL_ap', seqL_l, iRng1_ap, iRng2_ap, iDown_ap, iEnum_ap, iZip_ap, zip2_l, isi_ap, isTy_int_non, isTy_int_bl, isTy_int_int, isTy_int_str, isTy_int_lst, isTy_int_tup, isTy_int_dct, isTy_bool_non, isTy_bool_bl, isTy_bool_int, isTy_bool_str, isTy_bool_lst, isTy_bool_tup, isTy_bool_dct, isTy_str_non, isTy_str_bl, isTy_str_int, isTy_str_str, isTy_str_lst, isTy_str_tup, isTy_str_dct, isTy_tuple_non, isTy_tuple_bl, isTy_tuple_int, isTy_tuple_str, isTy_tuple_lst, isTy_tuple_tup, isTy_tuple_dct, isTy_list_non, isTy_list_bl, isTy_list_int, isTy_list_str, isTy_list_lst, isTy_list_tup, isTy_list_dct, isTy_dict_non, isTy_dict_bl, isTy_dict_int, isTy_dict_str, isTy_dict_lst, isTy_dict_tup, isTy_dict_dct, dIx_l, dIx_t, nLc_ap, gN_ap, goOn_nx, goOn_rt, goOn_rtO, sSeq_ap, sNext_ap, sSet_ap, sOwn_ap, sTgt_ap, sRet_ap, retO_own, sRetO_ap, sIf_ap, sDrop_ap, sFor_ap, sApp_ap, sParN_ap, sParNK_ap, sVia_ap, eCall_ap, eCallV_ap, val_d, val_o, fin_rt, fin_rtO, fin_nx, DL.start, List.map_cons, List.map_nil, List.length_cons, List.length_nil, List.replicate, List.cons_append, List.nil_append, List.getElem?_cons_zero, List.getElem?_cons_succ, List.set_cons_zero, List.set_cons_succ, wipeG, Nat.reduceSub, Nat.reduceAdd, Nat.reduceLT, Nat.reduceLeDiff, if_true, if_false, Bool.not_true, Bool.not_false, Option.bind_some, Option.map_some, decide_eq_true hm]
        refine ih init found ⟨?_, ?_, ?_, w.n⟩ (by omega) _ _
        · intro x hx; exact w.r x (by rcases hx with hx | hx; · left; simp [hx]
                                      · exact Or.inr hx)
        · intro x hx
          rcases w.l x hx with hx | hx
          · simp at hx; rcases hx with hx | rfl
            · exact Or.inl hx
            · exact Or.inr hm
          · exact Or.inr hx
        · intro u hu x hx
          rcases w.c u hu x hx with hx | hx
          · simp at hx; rcases hx with hx | rfl
            · exact Or.inl hx
            · exact Or.inr hm
          · exact Or.inr hx
      · have hnd : (found ++ [h]).Nodup := by
          rw [List.nodup_append]; refine ⟨w.n, by simp, ?_⟩
          intro x hx y hy; simp at hy; subst hy; intro e; subst e; exact hm hx
        have hf2 : (found ++ [h]).length ≤ b + rows.length := nodup_len _ _ hnd (by
          intro x hx; simp at hx; rcases hx with hx | rfl
          · exact (w.r x (Or.inr hx)).2
          · exact hh.2)
        simp at hf2
        have w2 : WInv b rows ls (init ++ Ev b rows h) (found ++ [h]) := by
          refine ⟨?_, ?_, ?_, hnd⟩
          · intro x hx
            rcases hx with hx | hx
            · rw [List.mem_append] at hx
              rcases hx with hx | hx
              · exact w.r x (Or.inl (by simp [hx]))
              · refine ⟨.step h x hh.1 hx, ?_⟩
                have := Ev_lt v h x hx; omega
            · rw [List.mem_append] at hx
              rcases hx with hx | hx
              · exact w.r x (Or.inr hx)
              · simp at hx; subst hx; exact hh
          · intro x hx
            rcases w.l x hx with hx | hx
            · simp at hx; rcases hx with hx | rfl
              · left; simp [hx]
              · right; simp
            · right; simp [hx]
          · intro u hu x hx
            rw [List.mem_append] at hu
            rcases hu with hu | hu
            · rcases w.c u hu x hx with hx | hx
              · simp at hx; rcases hx with hx | rfl
                · left; simp [hx]
                · right; simp
              · right; simp [hx]
            · simp at hu; subst hu; left; simp [hx]
        have hel := Ev_len v h
        have hk : (kD found).length < lim := by simp only [kD, List.length_map, lim]; omega
        simp -implicitDefEqProofs only [ob_some, ob_bind, ob_map, eC_ap, eN_ap, eV_ap, slotN_dat, slotV_dat, slotV_own, slotV_odc, e1_ap, e2_ap, n2_ap, nLen_ap, aN_ap, aC_ap, eApp_ap, eTup_ap, nLst_ap, mkTup_0, mkTup_1, mkTup_2, mkTup_3, mkTup_4, mkLst_0, eL_ap, tV_ap, asBl_bl, tU_ap, ifB_t, ifB_f, tAnd_ap, tOr_ap, tNot_ap, tYes_ap, eIf_ap, ifD_bl, eAnd_ap, eOr_ap, notD_bl, eNot_ap, eChain_ap, dAdd_i, dSub_i, dNeg_i, dLt_i, dLe_i, dGt_i, dGe_i, dIsN2_n, dNotB_b, dEq_i, dNe_i, dEq_b, dNe_b, dEq_s, dNe_s, dLen_l, dLen_t, dLen_s, dTupOf_l, dTupOf_t, nLstOf_l, nLstOf_t, dAbs_i, itemsD_l, itemsD_t, iSeq_ap, iSeqL_ap', seqL_l, iRng1_ap, iRng2_ap, iDown_ap, iEnum_ap, iZip_ap, zip2_l, isi_ap, isTy_int_non, isTy_int_bl, isTy_int_int, isTy_int_str, isTy_int_lst, isTy_int_tup, isTy_int_dct, isTy_bool_non, isTy_bool_bl, isTy_bool_int, isTy_bool_str, isTy_bool_lst, isTy_bool_tup, isTy_bool_dct, isTy_str_non, isTy_str_bl, isTy_str_int, isTy_str_str, isTy_str_lst, isTy_str_tup, isTy_str_dct, isTy_tuple_non, isTy_tuple_bl, isTy_tuple_int, isTy_tuple_str, isTy_tuple_lst, isTy_tuple_tup, isTy_tuple_dct, isTy_list_non, isTy_list_bl, isTy_list_int, isTy_list_str, isTy_list_lst, isTy_list_tup, isTy_list_dct, isTy_dict_non, isTy_dict_bl, isTy_dict_int, isTy_dict_str, isTy_dict_lst, isTy_dict_tup, isTy_dict_dct, dIx_l, dIx_t, nLc_ap, gN_ap, goOn_nx, goOn_rt, goOn_rtO, sSeq_ap, sNext_ap, sSet_ap, sOwn_ap, sTgt_ap, sRet_ap, retO_own, sRetO_ap, sIf_ap, sDrop_ap, sFor_ap, sApp_ap, sParN_ap, sParNK_ap, sVia_ap, eCall_ap, eCallV_ap, val_d, val_o, fin_rt, fin_rtO, fin_nx, DL.start, List.map_cons, List.map_nil, List.length_cons, List.length_nil, List.replicate, List.cons_append, List.nil_append, List.getElem?_cons_zero, List.getElem?_cons_succ, List.set_cons_zero, List.set_cons_succ, wipeG, Nat.reduceSub, Nat.reduceAdd, Nat.reduceLT, Nat.reduceLeDiff, if_true, if_false, Bool.not_true, Bool.not_false, Option.bind_some, Option.map_some, decide_eq_false hm, sPutD_ap, putTo_own _ _ _ _ _ (show keyD (.int h) = true from rfl) hk, putD_kD found h hm, i1]
        by_cases hbh : b < h
        · obtain ⟨r, hr1, hr2⟩ := Ev_row (b := b) (rows := rows) h hbh hh.2.2
          have hb' : (b : Int) < (h : Int) := by omega
          have a1 : atD (rows.map tI) ((h : Int) - b - 1) = some (tI r) := by
            apply atD_of _ _ _ (by omega)
            rw [show ((h : Int) - b - 1).toNat = h - b - 1 by omega]; simp [hr1]
          have hrl := v.sz r (List.mem_of_getElem? hr1)
          simp -implicitDefEqProofs only [ob_some, ob_bind, ob_map, eC_ap, eN_ap, eV_ap, slotN_dat, slotV_dat, slotV_own, slotV_odc, e1_ap, e2_ap, n2_ap, nLen_ap, aN_ap, aC_ap, eApp_ap, eTup_ap, nLst_ap, mkTup_0, mkTup_1, mkTup_2, mkTup_3, mkTup_4, mkLst_0, eL_ap, tV_ap, asBl_bl, tU_ap, ifB_t, ifB_f, tAnd_ap, tOr_ap, tNot_ap, tYes_ap, eIf_ap, ifD_bl, eAnd_ap, eOr_ap, notD_bl, eNot_ap, eChain_ap, dAdd_i, dSub_i, dNeg_i, dLt_i, dLe_i, dGt_i, dGe_i, dIsN2_n, dNotB_b, dEq_i, dNe_i, dEq_b, dNe_b, dEq_s, dNe_s, dLen_l, dLen_t, dLen_s, dTupOf_l, dTupOf_t, nLstOf_l, nLstOf_t, dAbs_i, itemsD_l, itemsD_t, iSeq_ap, iSeqL_ap', seqL_l, iRng1_ap, iRng2_ap, iDown_ap, iEnum_ap, iZip_ap, zip2_l, isi_ap, isTy_int_non, isTy_int_bl, isTy_int_int, isTy_int_str, isTy_int_lst, isTy_int_tup, isTy_int_dct, isTy_bool_non, isTy_bool_bl, isTy_bool_int, isTy_bool_str, isTy_bool_lst, isTy_bool_tup, isTy_bool_dct, isTy_str_non, isTy_str_bl, isTy_str_int, isTy_str_str, isTy_str_lst, isTy_str_tup, isTy_str_dct, isTy_tuple_non, isTy_tuple_bl, isTy_tuple_int, isTy_tuple_str, isTy_tuple_lst, isTy_tuple_tup, isTy_tuple_dct, isTy_list_non, isTy_list_bl, isTy_list_int, isTy_list_str, isTy_list_lst, isTy_list_tup, isTy_list_dct, isTy_dict_non, isTy_dict_bl, isTy_dict_int, isTy_dict_str, isTy_dict_lst, isTy_dict_tup, isTy_dict_dct, dIx_l, dIx_t, nLc_ap, gN_ap, goOn_nx, goOn_rt, goOn_rtO, sSeq_ap, sNext_ap, sSet_ap, sOwn_ap, sTgt_ap, sRet_ap, retO_own, sRetO_ap, sIf_ap, sDrop_ap, sFor_ap, sApp_ap, sParN_ap, sParNK_ap, sVia_ap, eCall_ap, eCallV_ap, val_d, val_o, fin_rt, fin_rtO, fin_nx, DL.start, List.map_cons, List.map_nil, List.length_cons, List.length_nil, List.replicate, List.cons_append, List.nil_append, List.getElem?_cons_zero, List.getElem?_cons_succ, List.set_cons_zero, List.set_cons_succ, wipeG, Nat.reduceSub, Nat.reduceAdd, Nat.reduceLT, Nat.reduceLeDiff, if_true, if_false, Bool.not_true, Bool.not_false, Option.bind_some, Option.map_some, decide_eq_true hb', sExt_ap, i1, i2, a1, tI]
          refine ob_lcm (l := r) .int (fun l => .int (l.natAbs : Int)) (fun l hl2 => ?_) (by simp only [lim]; omega) ?_
          · simp -implicitDefEqProofs only [ob_some, ob_bind, ob_map, eC_ap, eN_ap, eV_ap, slotN_dat, slotV_dat, slotV_own, slotV_odc, e1_ap, e2_ap, n2_ap, nLen_ap, aN_ap, aC_ap, eApp_ap, eTup_ap, nLst_ap, mkTup_0, mkTup_1, mkTup_2, mkTup_3, mkTup_4, mkLst_0, eL_ap, tV_ap, asBl_bl, tU_ap, ifB_t, ifB_f, tAnd_ap, tOr_ap, tNot_ap, tYes_ap, eIf_ap, ifD_bl, eAnd_ap, eOr_ap, notD_bl, eNot_ap, eChain_ap, dAdd_i, dSub_i, dNeg_i, dLt_i, dLe_i, dGt_i, dGe_i, dIsN2_n, dNotB_b, dEq_i, dNe_i, dEq_b, dNe_b, dEq_s, dNe_s, dLen_l, dLen_t, dLen_s, dTupOf_l, dTupOf_t, nLstOf_l, nLstOf_t, dAbs_i, itemsD_l, itemsD_t, iSeq_ap, iSeqL_ap', seqL_l, iRng1_ap, iRng2_ap, iDown_ap, iEnum_ap, iZip_ap, zip2_l, isi_ap, isTy_int_non, isTy_int_bl, isTy_int_int, isTy_int_str, isTy_int_lst, isTy_int_tup, isTy_int_dct, isTy_bool_non, isTy_bool_bl, isTy_bool_int, isTy_bool_str, isTy_bool_lst, isTy_bool_tup, isTy_bool_dct, isTy_str_non, isTy_str_bl, isTy_str_int, isTy_str_str, isTy_str_lst, isTy_str_tup, isTy_str_dct, isTy_tuple_non, isTy_tuple_bl, isTy_tuple_int, isTy_tuple_str, isTy_tuple_lst, isTy_tuple_tup, isTy_tuple_dct, isTy_list_non, isTy_list_bl, isTy_list_int, isTy_list_str, isTy_list_lst, isTy_list_tup, isTy_list_dct, isTy_dict_non, isTy_dict_bl, isTy_dict_int, isTy_dict_str, isTy_dict_lst, isTy_dict_tup, isTy_dict_dct, dIx_l, dIx_t, nLc_ap, gN_ap, goOn_nx, goOn_rt, goOn_rtO, sSeq_ap, sNext_ap, sSet_ap, sOwn_ap, sTgt_ap, sRet_ap, retO_own, sRetO_ap, sIf_ap, sDrop_ap, sFor_ap, sApp_ap, sParN_ap, sParNK_ap, sVia_ap, eCall_ap, eCallV_ap, val_d, val_o, fin_rt, fin_rtO, fin_nx, DL.start, List.map_cons, List.map_nil, List.length_cons, List.length_nil, List.replicate, List.cons_append, List.nil_append, List.getElem?_cons_zero, List.getElem?_cons_succ, List.set_cons_zero, List.set_cons_succ, wipeG, Nat.reduceSub, Nat.reduceAdd, Nat.reduceLT, Nat.reduceLeDiff, if_true, if_false, Bool.not_true, Bool.not_false, Option.bind_some, Option.map_some, true_and]
          · have e2 : (r.map fun l => D.int (l.natAbs : Int)) = nD (Ev b rows h) := by rw [hr2]; simp [nD]
            rw [e2]
            have hi : (nD init).length + (nD (Ev b rows h)).length ≤ lim := by
              simp only [nD, List.length_map, lim]; omega
            simp -implicitDefEqProofs only [ob_some, ob_bind, ob_map, eC_ap, eN_ap, eV_ap, slotN_dat, slotV_dat, slotV_own, slotV_odc, e1_ap, e2_ap, n2_ap, nLen_ap, aN_ap, aC_ap, eApp_ap, eTup_ap, nLst_ap, mkTup_0, mkTup_1, mkTup_2, mkTup_3, mkTup_4, mkLst_0, eL_ap, tV_ap, asBl_bl, tU_ap, ifB_t, ifB_f, tAnd_ap, tOr_ap, tNot_ap, tYes_ap, eIf_ap, ifD_bl, eAnd_ap, eOr_ap, notD_bl, eNot_ap, eChain_ap, dAdd_i, dSub_i, dNeg_i, dLt_i, dLe_i, dGt_i, dGe_i, dIsN2_n, dNotB_b, dEq_i, dNe_i, dEq_b, dNe_b, dEq_s, dNe_s, dLen_l, dLen_t, dLen_s, dTupOf_l, dTupOf_t, nLstOf_l, nLstOf_t, dAbs_i, itemsD_l, itemsD_t, iSeq_ap, iSeqL_ap', seqL_l, iRng1_ap, iRng2_ap, iDown_ap, iEnum_ap, iZip_ap, zip2_l, isi_ap, isTy_int_non, isTy_int_bl, isTy_int_int, isTy_int_str, isTy_int_lst, isTy_int_tup, isTy_int_dct, isTy_bool_non, isTy_bool_bl, isTy_bool_int, isTy_bool_str, isTy_bool_lst, isTy_bool_tup, isTy_bool_dct, isTy_str_non, isTy_str_bl, isTy_str_int, isTy_str_str, isTy_str_lst, isTy_str_tup, isTy_str_dct, isTy_tuple_non, isTy_tuple_bl, isTy_tuple_int, isTy_tuple_str, isTy_tuple_lst, isTy_tuple_tup, isTy_tuple_dct, isTy_list_non, isTy_list_bl, isTy_list_int, isTy_list_str, isTy_list_lst, isTy_list_tup, isTy_list_dct, isTy_dict_non, isTy_dict_bl, isTy_dict_int, isTy_dict_str, isTy_dict_lst, isTy_dict_tup, isTy_dict_dct, dIx_l, dIx_t, nLc_ap, gN_ap, goOn_nx, goOn_rt, goOn_rtO, sSeq_ap, sNext_ap, sSet_ap, sOwn_ap, sTgt_ap, sRet_ap, retO_own, sRetO_ap, sIf_ap, sDrop_ap, sFor_ap, sApp_ap, sParN_ap, sParNK_ap, sVia_ap, eCall_ap, eCallV_ap, val_d, val_o, fin_rt, fin_rtO, fin_nx, DL.start, List.map_cons, List.map_nil, List.length_cons, List.length_nil, List.replicate, List.cons_append, List.nil_append, List.getElem?_cons_zero, List.getElem?_cons_succ, List.set_cons_zero, List.set_cons_succ, wipeG, Nat.reduceSub, Nat.reduceAdd, Nat.reduceLT, Nat.reduceLeDiff, if_true, if_false, Bool.not_true, Bool.not_false, Option.bind_some, Option.map_some, extTo_own _ _ _ _ hi]
            have e3 : nD init ++ nD (Ev b rows h) = nD (init ++ Ev b rows h) := by simp [nD]
            rw [e3]
            exact ih _ _ w2 (by simp; omega) _ _
        · have hb' : ¬ (b : Int) < (h : Int) := by omega
          have e2 : Ev b rows h = [] := by unfold Ev; rw [if_neg hbh]
          rw [e2, List.append_nil] at w2
          simp -implicitDefEqProofs only [ob_some, ob_bind, ob_map, eC_ap, eN_ap, eV_ap, slotN_dat, slotV_dat, slotV_own, slotV_odc, e1_ap, e2_ap, n2_ap, nLen_ap, aN_ap, aC_ap, eApp_ap, eTup_ap, nLst_ap, mkTup_0, mkTup_1, mkTup_2, mkTup_3, mkTup_4, mkLst_0, eL_ap, tV_ap, asBl_bl, tU_ap, ifB_t, ifB_f, tAnd_ap, tOr_ap, tNot_ap, tYes_ap, eIf_ap, ifD_bl, eAnd_ap, eOr_ap, notD_bl, eNot_ap, eChain_ap, dAdd_i, dSub_i, dNeg_i, dLt_i, dLe_i, dGt_i, dGe_i, dIsN2_n, dNotB_b, dEq_i, dNe_i, dEq_b, dNe_b, dEq_s, dNe_s, dLen_l, dLen_t, dLen_s, dTupOf_l, dTupOf_t, nLstOf_l, nLstOf_t, dAbs_i, itemsD_l, itemsD_t, iSeq_ap, iSeqL_ap', seqL_l, iRng1_ap, iRng2_ap, iDown_ap, iEnum_ap, iZip_ap, zip2_l, isi_ap, isTy_int_non, isTy_int_bl, isTy_int_int, isTy_int_str, isTy_int_lst, isTy_int_tup, isTy_int_dct, isTy_bool_non, isTy_bool_bl, isTy_bool_int, isTy_bool_str, isTy_bool_lst, isTy_bool_tup, isTy_bool_dct, isTy_str_non, isTy_str_bl, isTy_str_int, isTy_str_str, isTy_str_lst, isTy_str_tup, isTy_str_dct, isTy_tuple_non, isTy_tuple_bl, isTy_tuple_int, isTy_tuple_str, isTy_tuple_lst, isTy_tuple_tup, isTy_tuple_dct, isTy_list_non, isTy_list_bl, isTy_list_int, isTy_list_str, isTy_list_lst, isTy_list_tup, isTy_list_dct, isTy_dict_non, isTy_dict_bl, isTy_dict_int, isTy_dict_str, isTy_dict_lst, isTy_dict_tup, isTy_dict_dct, dIx_l, dIx_t, nLc_ap, gN_ap, goOn_nx, goOn_rt, goOn_rtO, sSeq_ap, sNext_ap, sSet_ap, sOwn_ap, sTgt_ap, sRet_ap, retO_own, sRetO_ap, sIf_ap, sDrop_ap, sFor_ap, sApp_ap, sParN_ap, sParNK_ap, sVia_ap, eCall_ap, eCallV_ap, val_d, val_o, fin_rt, fin_rtO, fin_nx, DL.start, List.map_cons, List.map_nil, List.length_cons, List.length_nil, List.replicate, List.cons_append, List.nil_append, List.getElem?_cons_zero, List.getElem?_cons_succ, List.set_cons_zero, List.set_cons_succ, wipeG, Nat.reduceSub, Nat.reduceAdd, Nat.reduceLT, Nat.reduceLeDiff, if_true, if_false, Bool.not_true, Bool.not_false, Option.bind_some, Option.map_some, decide_eq_false hb']
          exact ih _ _ w2 (by simp; omega) _ _
end Gk00
end
/-! T9 -/
section
set_option linter.all false
namespace Gk00
open PySem DL DM

theorem in_nD (v : Nat) (W : List Nat) : dIn (.int (v : Int)) (.lst (nD W)) = some (.bl (decide (v ∈ W))) := by
  have h1 : okDs 50 (nD W) = true := by
    unfold nD
    induction W with
    | nil => rfl
    | cons x W ih => simp [okDs, okD, ih]
  have h2 : memD (.int v) (nD W) = decide (v ∈ W) := by
    unfold memD nD
    rw [List.any_map, Bool.eq_iff_iff]
    simp only [List.any_eq_true, Function.comp, eqD, beq_iff_eq, decide_eq_true_eq]
    constructor
    · rintro ⟨x, hx, h⟩
      have : x = v := by omega
      exact this ▸ hx
    · intro h; exact ⟨v, h, rfl⟩
  simp only [dIn, h1, okD, h2, Bool.and_self, if_true]
theorem range_at {n : Nat} {pre post : List Nat} {x : Nat} (e : List.range n = pre ++ x :: post) : x = pre.length ∧ x < n := by
  have h1 : (List.range n)[pre.length]? = some x := by rw [e]; simp
  have h2 : pre.length < n := by
    have := congrArg List.length e
    simp at this; omega
  rw [List.getElem?_range h2] at h1
  injection h1 with h1
  exact ⟨h1.symm, by omega⟩
/-- what is needed, told by a list of it -/
def nd (m : Nat) (W : List Nat) : List Int := ((List.range m).filter fun k => decide (k + 1 ∈ W)).map fun (k : Nat) => 1 + (k : Int)
theorem nd_asc (m : Nat) (W : List Nat) : (nd m W).Pairwise (· < ·) := by
  unfold nd
  rw [List.pairwise_map]
  refine List.Pairwise.imp (R := (· < ·)) (by intro a b h; omega) ?_
  exact List.Pairwise.filter _ List.pairwise_lt_range
theorem mem_nd (m : Nat) (W : List Nat) (x : Int) : x ∈ nd m W ↔ ∃ v : Nat, x = v ∧ v ∈ W ∧ 1 ≤ v ∧ v ≤ m := by
  unfold nd
  simp only [List.mem_map, List.mem_filter, List.mem_range, decide_eq_true_eq]
  constructor
  · rintro ⟨k, ⟨h1, h2⟩, rfl⟩
    exact ⟨k + 1, by omega, h2, by omega, by omega⟩
  · rintro ⟨v, rfl, h1, h2, h3⟩
    exact ⟨v - 1, ⟨by omega, by rw [show v - 1 + 1 = v by omega]; exact h1⟩, by omega⟩
theorem sort_nd (m : Nat) (found W : List Nat) (h : found.Nodup) (hb : ∀ v ∈ found, 1 ≤ v ∧ v ≤ m) (hw : ∀ v, v ∈ found ↔ v ∈ W) :
    sortI (found.map fun v : Nat => (v : Int)) = nd m W := by
  apply asc_uniq
  · apply sort_asc
    rw [List.Nodup, List.pairwise_map]
    exact h.imp (by intro a b h; omega)
  · exact nd_asc m W
  · intro x
    rw [mem_sortI, mem_nd, List.mem_map]
    constructor
    · rintro ⟨v, hv, rfl⟩; exact ⟨v, rfl, (hw v).mp hv, hb v hv⟩
    · rintro ⟨v, rfl, h1, _, _⟩; exact ⟨v, (hw v).mpr h1, rfl⟩
theorem sortD_k (found : List Nat) (h : found.length < 64) : nSortD [.dct (kD found)] = some ((sortI (found.map fun v : Nat => (v : Int))).map .int) := by
  have e : ((kD found).map (·.1)).mapM asInt = some (found.map fun v : Nat => (v : Int)) := by
    have := mapM_int found (fun v : Nat => (v : Int))
    rw [← this]; congr 1; simp [kD]
  simp only [nSortD, e, Option.map_some]
  rw [if_pos (by simpa [kD] using h)]
theorem needed_eq {b : Nat} {rows : List (List Int)} (v : Valid b rows) (hb : b ≤ 4) (ls : List Int) (hl : ∀ l ∈ ls, 1 ≤ l.natAbs ∧ l.natAbs ≤ b + rows.length) (hn : ls.length ≤ 10)
    (W : List Nat) (hW : ∀ x, x ∈ W ↔ Rch b rows (ls.map Int.natAbs) x) :
    f_needed [gD b rows, tI ls] = some (.d (tI (nd (b + rows.length) W))) := by
  apply of_fn rfl
  unfold s_needed
  have hr := v.rs
  simp -implicitDefEqProofs only [ob_some, ob_bind, ob_map, eC_ap, eN_ap, eV_ap, slotN_dat, slotV_dat, slotV_own, slotV_odc, e1_ap, e2_ap, n2_ap, nLen_ap, aN_ap, aC_ap, eApp_ap, eTup_ap, nLst_ap, mkTup_0, mkTup_1, mkTup_2, mkTup_3, mkTup_4, mkLst_0, eL_ap, tV_ap, asBl_bl, tU_ap, ifB_t, ifB_f, tAnd_ap, tOr_ap, tNot_ap, tYes_ap, eIf_ap, ifD_bl, eAnd_ap, eOr_ap, notD_bl, eNot_ap, eChain_ap, dAdd_i, dSub_i, dNeg_i, dLt_i, dLe_i, dGt_i, dGe_i, dIsN2_n, dNotB_b, dEq_i, dNe_i, dEq_b, dNe_b, dEq_s, dNe_s, dLen_l, dLen_t, dLen_s, dTupOf_l, dTupOf_t, nLstOf_l, nLstOf_t, dAbs_i, itemsD_l, itemsD_t, iSeq_ap, iSeqL_ap', seqL_l, iRng1_ap, iRng2_ap, iDown_ap, iEnum_ap, iZip_ap, zip2_l, isi_ap, isTy_int_non, isTy_int_bl, isTy_int_int, isTy_int_str, isTy_int_lst, isTy_int_tup, isTy_int_dct, isTy_bool_non, isTy_bool_bl, isTy_bool_int, isTy_bool_str, isTy_bool_lst, isTy_bool_tup, isTy_bool_dct, isTy_str_non, isTy_str_bl, isTy_str_int, isTy_str_str, isTy_str_lst, isTy_str_tup, isTy_str_dct, isTy_tuple_non, isTy_tuple_bl, isTy_tuple_int, isTy_tuple_str, isTy_tuple_lst, isTy_tuple_tup, isTy_tuple_dct, isTy_list_non, isTy_list_bl, isTy_list_int, isTy_list_str, isTy_list_lst, isTy_list_tup, isTy_list_dct, isTy_dict_non, isTy_dict_bl, isTy_dict_int, isTy_dict_str, isTy_dict_lst, isTy_dict_tup, isTy_dict_dct, dIx_l, dIx_t, nLc_ap, gN_ap, goOn_nx, goOn_rt, goOn_rtO, sSeq_ap, sNext_ap, sSet_ap, sOwn_ap, sTgt_ap, sRet_ap, retO_own, sRetO_ap, sIf_ap, sDrop_ap, sFor_ap, sApp_ap, sParN_ap, sParNK_ap, sVia_ap, eCall_ap, eCallV_ap, val_d, val_o, fin_rt, fin_rtO, fin_nx, DL.start, List.map_cons, List.map_nil, List.length_cons, List.length_nil, List.replicate, List.cons_append, List.nil_append, List.getElem?_cons_zero, List.getElem?_cons_succ, List.set_cons_zero, List.set_cons_succ, wipeG, Nat.reduceSub, Nat.reduceAdd, Nat.reduceLT, Nat.reduceLeDiff, if_true, if_false, Bool.not_true, Bool.not_false, Option.bind_some, Option.map_some, check_literals_ok v hb ls hl (by omega)]
  have n1 : itemsD (tI ls) = some (ls.map .int) := rfl
  simp -implicitDefEqProofs only [ob_some, ob_bind, ob_map, eC_ap, eN_ap, eV_ap, slotN_dat, slotV_dat, slotV_own, slotV_odc, e1_ap, e2_ap, n2_ap, nLen_ap, aN_ap, aC_ap, eApp_ap, eTup_ap, nLst_ap, mkTup_0, mkTup_1, mkTup_2, mkTup_3, mkTup_4, mkLst_0, eL_ap, tV_ap, asBl_bl, tU_ap, ifB_t, ifB_f, tAnd_ap, tOr_ap, tNot_ap, tYes_ap, eIf_ap, ifD_bl, eAnd_ap, eOr_ap, notD_bl, eNot_ap, eChain_ap, dAdd_i, dSub_i, dNeg_i, dLt_i, dLe_i, dGt_i, dGe_i, dIsN2_n, dNotB_b, dEq_i, dNe_i, dEq_b, dNe_b, dEq_s, dNe_s, dLen_l, dLen_t, dLen_s, dTupOf_l, dTupOf_t, nLstOf_l, nLstOf_t, dAbs_i, itemsD_l, itemsD_t, iSeq_ap, iSeqL_ap', seqL_l, iRng1_ap, iRng2_ap, iDown_ap, iEnum_ap, iZip_ap, zip2_l, isi_ap, isTy_int_non, isTy_int_bl, isTy_int_int, isTy_int_str, isTy_int_lst, isTy_int_tup, isTy_int_dct, isTy_bool_non, isTy_bool_bl, isTy_bool_int, isTy_bool_str, isTy_bool_lst, isTy_bool_tup, isTy_bool_dct, isTy_str_non, isTy_str_bl, isTy_str_int, isTy_str_str, isTy_str_lst, isTy_str_tup, isTy_str_dct, isTy_tuple_non, isTy_tuple_bl, isTy_tuple_int, isTy_tuple_str, isTy_tuple_lst, isTy_tuple_tup, isTy_tuple_dct, isTy_list_non, isTy_list_bl, isTy_list_int, isTy_list_str, isTy_list_lst, isTy_list_tup, isTy_list_dct, isTy_dict_non, isTy_dict_bl, isTy_dict_int, isTy_dict_str, isTy_dict_lst, isTy_dict_tup, isTy_dict_dct, dIx_l, dIx_t, nLc_ap, gN_ap, goOn_nx, goOn_rt, goOn_rtO, sSeq_ap, sNext_ap, sSet_ap, sOwn_ap, sTgt_ap, sRet_ap, retO_own, sRetO_ap, sIf_ap, sDrop_ap, sFor_ap, sApp_ap, sParN_ap, sParNK_ap, sVia_ap, eCall_ap, eCallV_ap, val_d, val_o, fin_rt, fin_rtO, fin_nx, DL.start, List.map_cons, List.map_nil, List.length_cons, List.length_nil, List.replicate, List.cons_append, List.nil_append, List.getElem?_cons_zero, List.getElem?_cons_succ, List.set_cons_zero, List.set_cons_succ, wipeG, Nat.reduceSub, Nat.reduceAdd, Nat.reduceLT, Nat.reduceLeDiff, if_true, if_false, Bool.not_true, Bool.not_false, Option.bind_some, Option.map_some, n1]
  refine ob_lcm (l := ls) .int (fun l => .int (l.natAbs : Int)) (fun l _ => ?_) (by simp only [lim]; omega) ?_
  · simp -implicitDefEqProofs only [ob_some, ob_bind, ob_map, eC_ap, eN_ap, eV_ap, slotN_dat, slotV_dat, slotV_own, slotV_odc, e1_ap, e2_ap, n2_ap, nLen_ap, aN_ap, aC_ap, eApp_ap, eTup_ap, nLst_ap, mkTup_0, mkTup_1, mkTup_2, mkTup_3, mkTup_4, mkLst_0, eL_ap, tV_ap, asBl_bl, tU_ap, ifB_t, ifB_f, tAnd_ap, tOr_ap, tNot_ap, tYes_ap, eIf_ap, ifD_bl, eAnd_ap, eOr_ap, notD_bl, eNot_ap, eChain_ap, dAdd_i, dSub_i, dNeg_i, dLt_i, dLe_i, dGt_i, dGe_i, dIsN2_n, dNotB_b, dEq_i, dNe_i, dEq_b, dNe_b, dEq_s, dNe_s, dLen_l, dLen_t, dLen_s, dTupOf_l, dTupOf_t, nLstOf_l, nLstOf_t, dAbs_i, itemsD_l, itemsD_t, iSeq_ap, iSeqL_ap', seqL_l, iRng1_ap, iRng2_ap, iDown_ap, iEnum_ap, iZip_ap, zip2_l, isi_ap, isTy_int_non, isTy_int_bl, isTy_int_int, isTy_int_str, isTy_int_lst, isTy_int_tup, isTy_int_dct, isTy_bool_non, isTy_bool_bl, isTy_bool_int, isTy_bool_str, isTy_bool_lst, isTy_bool_tup, isTy_bool_dct, isTy_str_non, isTy_str_bl, isTy_str_int, isTy_str_str, isTy_str_lst, isTy_str_tup, isTy_str_dct, isTy_tuple_non, isTy_tuple_bl, isTy_tuple_int, isTy_tuple_str, isTy_tuple_lst, isTy_tuple_tup, isTy_tuple_dct, isTy_list_non, isTy_list_bl, isTy_list_int, isTy_list_str, isTy_list_lst, isTy_list_tup, isTy_list_dct, isTy_dict_non, isTy_dict_bl, isTy_dict_int, isTy_dict_str, isTy_dict_lst, isTy_dict_tup, isTy_dict_dct, dIx_l, dIx_t, nLc_ap, gN_ap, goOn_nx, goOn_rt, goOn_rtO, sSeq_ap, sNext_ap, sSet_ap, sOwn_ap, sTgt_ap, sRet_ap, retO_own, sRetO_ap, sIf_ap, sDrop_ap, sFor_ap, sApp_ap, sParN_ap, sParNK_ap, sVia_ap, eCall_ap, eCallV_ap, val_d, val_o, fin_rt, fin_rtO, fin_nx, DL.start, List.map_cons, List.map_nil, List.length_cons, List.length_nil, List.replicate, List.cons_append, List.nil_append, List.getElem?_cons_zero, List.getElem?_cons_succ, List.set_cons_zero, List.set_cons_succ, wipeG, Nat.reduceSub, Nat.reduceAdd, Nat.reduceLT, Nat.reduceLeDiff, if_true, if_false, Bool.not_true, Bool.not_false, Option.bind_some, Option.map_some, true_and]
  · have e2 : (ls.map fun l => D.int (l.natAbs : Int)) = nD (ls.map Int.natAbs) := by simp [nD]
    simp -implicitDefEqProofs only [ob_some, ob_bind, ob_map, eC_ap, eN_ap, eV_ap, slotN_dat, slotV_dat, slotV_own, slotV_odc, e1_ap, e2_ap, n2_ap, nLen_ap, aN_ap, aC_ap, eApp_ap, eTup_ap, nLst_ap, mkTup_0, mkTup_1, mkTup_2, mkTup_3, mkTup_4, mkLst_0, eL_ap, tV_ap, asBl_bl, tU_ap, ifB_t, ifB_f, tAnd_ap, tOr_ap, tNot_ap, tYes_ap, eIf_ap, ifD_bl, eAnd_ap, eOr_ap, notD_bl, eNot_ap, eChain_ap, dAdd_i, dSub_i, dNeg_i, dLt_i, dLe_i, dGt_i, dGe_i, dIsN2_n, dNotB_b, dEq_i, dNe_i, dEq_b, dNe_b, dEq_s, dNe_s, dLen_l, dLen_t, dLen_s, dTupOf_l, dTupOf_t, nLstOf_l, nLstOf_t, dAbs_i, itemsD_l, itemsD_t, iSeq_ap, iSeqL_ap', seqL_l, iRng1_ap, iRng2_ap, iDown_ap, iEnum_ap, iZip_ap, zip2_l, isi_ap, isTy_int_non, isTy_int_bl, isTy_int_int, isTy_int_str, isTy_int_lst, isTy_int_tup, isTy_int_dct, isTy_bool_non, isTy_bool_bl, isTy_bool_int, isTy_bool_str, isTy_bool_lst, isTy_bool_tup, isTy_bool_dct, isTy_str_non, isTy_str_bl, isTy_str_int, isTy_str_str, isTy_str_lst, isTy_str_tup, isTy_str_dct, isTy_tuple_non, isTy_tuple_bl, isTy_tuple_int, isTy_tuple_str, isTy_tuple_lst, isTy_tuple_tup, isTy_tuple_dct, isTy_list_non, isTy_list_bl, isTy_list_int, isTy_list_str, isTy_list_lst, isTy_list_tup, isTy_list_dct, isTy_dict_non, isTy_dict_bl, isTy_dict_int, isTy_dict_str, isTy_dict_lst, isTy_dict_tup, isTy_dict_dct, dIx_l, dIx_t, nLc_ap, gN_ap, goOn_nx, goOn_rt, goOn_rtO, sSeq_ap, sNext_ap, sSet_ap, sOwn_ap, sTgt_ap, sRet_ap, retO_own, sRetO_ap, sIf_ap, sDrop_ap, sFor_ap, sApp_ap, sParN_ap, sParNK_ap, sVia_ap, eCall_ap, eCallV_ap, val_d, val_o, fin_rt, fin_rtO, fin_nx, DL.start, List.map_cons, List.map_nil, List.length_cons, List.length_nil, List.replicate, List.cons_append, List.nil_append, List.getElem?_cons_zero, List.getElem?_cons_succ, List.set_cons_zero, List.set_cons_succ, wipeG, Nat.reduceSub, Nat.reduceAdd, Nat.reduceLT, Nat.reduceLeDiff, if_true, if_false, Bool.not_true, Bool.not_false, Option.bind_some, Option.map_some, e2, sWhile_ap, ne_eq, Nat.reduceEqDiff, not_false_eq_true, and_self]
    refine needed_loop v hb (ls.map Int.natAbs) (tI ls) _ ?_ 200 (by omega) (ls.map Int.natAbs) [] ?_ ?_ .un .un
    · intro found s t w
      have hf : found.length ≤ b + rows.length := nodup_len _ _ w.n fun x hx => (w.r x (Or.inr hx)).2
      simp -implicitDefEqProofs only [ob_some, ob_bind, ob_map, eC_ap, eN_ap, eV_ap, slotN_dat, slotV_dat, slotV_own, slotV_odc, e1_ap, e2_ap, n2_ap, nLen_ap, aN_ap, aC_ap, eApp_ap, eTup_ap, nLst_ap, mkTup_0, mkTup_1, mkTup_2, mkTup_3, mkTup_4, mkLst_0, eL_ap, tV_ap, asBl_bl, tU_ap, ifB_t, ifB_f, tAnd_ap, tOr_ap, tNot_ap, tYes_ap, eIf_ap, ifD_bl, eAnd_ap, eOr_ap, notD_bl, eNot_ap, eChain_ap, dAdd_i, dSub_i, dNeg_i, dLt_i, dLe_i, dGt_i, dGe_i, dIsN2_n, dNotB_b, dEq_i, dNe_i, dEq_b, dNe_b, dEq_s, dNe_s, dLen_l, dLen_t, dLen_s, dTupOf_l, dTupOf_t, nLstOf_l, nLstOf_t, dAbs_i, itemsD_l, itemsD_t, iSeq_ap, iSeqL_ap', seqL_l, iRng1_ap, iRng2_ap, iDown_ap, iEnum_ap, iZip_ap, zip2_l, isi_ap, isTy_int_non, isTy_int_bl, isTy_int_int, isTy_int_str, isTy_int_lst, isTy_int_tup, isTy_int_dct, isTy_bool_non, isTy_bool_bl, isTy_bool_int, isTy_bool_str, isTy_bool_lst, isTy_bool_tup, isTy_bool_dct, isTy_str_non, isTy_str_bl, isTy_str_int, isTy_str_str, isTy_str_lst, isTy_str_tup, isTy_str_dct, isTy_tuple_non, isTy_tuple_bl, isTy_tuple_int, isTy_tuple_str, isTy_tuple_lst, isTy_tuple_tup, isTy_tuple_dct, isTy_list_non, isTy_list_bl, isTy_list_int, isTy_list_str, isTy_list_lst, isTy_list_tup, isTy_list_dct, isTy_dict_non, isTy_dict_bl, isTy_dict_int, isTy_dict_str, isTy_dict_lst, isTy_dict_tup, isTy_dict_dct, dIx_l, dIx_t, nLc_ap, gN_ap, goOn_nx, goOn_rt, goOn_rtO, sSeq_ap, sNext_ap, sSet_ap, sOwn_ap, sTgt_ap, sRet_ap, retO_own, sRetO_ap, sIf_ap, sDrop_ap, sFor_ap, sApp_ap, sParN_ap, sParNK_ap, sVia_ap, eCall_ap, eCallV_ap, val_d, val_o, fin_rt, fin_rtO, fin_nx, DL.start, List.map_cons, List.map_nil, List.length_cons, List.length_nil, List.replicate, List.cons_append, List.nil_append, List.getElem?_cons_zero, List.getElem?_cons_succ, List.set_cons_zero, List.set_cons_succ, wipeG, Nat.reduceSub, Nat.reduceAdd, Nat.reduceLT, Nat.reduceLeDiff, if_true, if_false, Bool.not_true, Bool.not_false, Option.bind_some, Option.map_some, sortD_k found (by omega)]
      rw [sort_nd (b + rows.length) found W w.n (fun x hx => (w.r x (Or.inr hx)).2)]
      · rfl
      · intro x; rw [hW]
        constructor
        · intro hx; exact (w.r x (Or.inr hx)).1
        · intro hx
          refine rch_of found ?_ ?_ x hx
          · intro y hy; simpa using w.l y hy
          · intro u hu y hy; simpa using w.c u hu y hy
    · refine ⟨?_, ?_, ?_, List.nodup_nil⟩
      · intro x hx
        rcases hx with hx | hx
        · refine ⟨.lit x hx, ?_⟩
          rw [List.mem_map] at hx; obtain ⟨l, h1, rfl⟩ := hx; exact hl l h1
        · simp at hx
      · intro x hx; exact Or.inl hx
      · intro u hu; simp at hu
    · simp; omega
theorem law_needed_eq {b : Nat} {rows : List (List Int)} (v : Valid b rows) (hb : b ≤ 4) (ls : List Int) (hl : ∀ l ∈ ls, 1 ≤ l.natAbs ∧ l.natAbs ≤ b + rows.length) (hn : ls.length ≤ 10) :
    ∃ W : List Nat, (∀ x, x ∈ W ↔ Rch b rows (ls.map Int.natAbs) x) ∧ f__law_needed [.lst (rows.map tI), .int b, tI ls] = some (.d (tI (nd (b + rows.length) W))) := by
  suffices H : ∃ r, f__law_needed [.lst (rows.map tI), .int b, tI ls] = some r ∧ ∃ W : List Nat, (∀ x, x ∈ W ↔ Rch b rows (ls.map Int.natAbs) x) ∧ r = .d (tI (nd (b + rows.length) W)) by
    obtain ⟨r, h1, W, h2, rfl⟩ := H; exact ⟨W, h2, h1⟩
  refine ob_fn (P := fun r => ∃ W : List Nat, (∀ x, x ∈ W ↔ Rch b rows (ls.map Int.natAbs) x) ∧ r = .d (tI (nd (b + rows.length) W))) rfl ?_
  unfold s__law_needed
  have hr := v.rs
  have n1 : itemsD (tI ls) = some (ls.map .int) := rfl
  simp -implicitDefEqProofs only [ob_some, ob_bind, ob_map, eC_ap, eN_ap, eV_ap, slotN_dat, slotV_dat, slotV_own, slotV_odc, e1_ap, e2_ap, n2_ap, nLen_ap, aN_ap, aC_ap, eApp_ap, eTup_ap, nLst_ap, mkTup_0, mkTup_1, mkTup_2, mkTup_3, mkTup_4, mkLst_0, eL_ap, tV_ap, asBl_bl, tU_ap, ifB_t, ifB_f, tAnd_ap, tOr_ap, tNot_ap, tYes_ap, eIf_ap, ifD_bl, eAnd_ap, eOr_ap, notD_bl, eNot_ap, eChain_ap, dAdd_i, dSub_i, dNeg_i, dLt_i, dLe_i, dGt_i, dGe_i, dIsN2_n, dNotB_b, dEq_i, dNe_i, dEq_b, dNe_b, dEq_s, dNe_s, dLen_l, dLen_t, dLen_s, dTupOf_l, dTupOf_t, nLstOf_l, nLstOf_t, dAbs_i, itemsD_l, itemsD_t, iSeq_ap, iSeqL_ap', seqL_l, iRng1_ap, iRng2_ap, iDown_ap, iEnum_ap, iZip_ap, zip2_l, isi_ap, isTy_int_non, isTy_int_bl, isTy_int_int, isTy_int_str, isTy_int_lst, isTy_int_tup, isTy_int_dct, isTy_bool_non, isTy_bool_bl, isTy_bool_int, isTy_bool_str, isTy_bool_lst, isTy_bool_tup, isTy_bool_dct, isTy_str_non, isTy_str_bl, isTy_str_int, isTy_str_str, isTy_str_lst, isTy_str_tup, isTy_str_dct, isTy_tuple_non, isTy_tuple_bl, isTy_tuple_int, isTy_tuple_str, isTy_tuple_lst, isTy_tuple_tup, isTy_tuple_dct, isTy_list_non, isTy_list_bl, isTy_list_int, isTy_list_str, isTy_list_lst, isTy_list_tup, isTy_list_dct, isTy_dict_non, isTy_dict_bl, isTy_dict_int, isTy_dict_str, isTy_dict_lst, isTy_dict_tup, isTy_dict_dct, dIx_l, dIx_t, nLc_ap, gN_ap, goOn_nx, goOn_rt, goOn_rtO, sSeq_ap, sNext_ap, sSet_ap, sOwn_ap, sTgt_ap, sRet_ap, retO_own, sRetO_ap, sIf_ap, sDrop_ap, sFor_ap, sApp_ap, sParN_ap, sParNK_ap, sVia_ap, eCall_ap, eCallV_ap, val_d, val_o, fin_rt, fin_rtO, fin_nx, DL.start, List.map_cons, List.map_nil, List.length_cons, List.length_nil, List.replicate, List.cons_append, List.nil_append, List.getElem?_cons_zero, List.getElem?_cons_succ, List.set_cons_zero, List.set_cons_succ, wipeG, Nat.reduceSub, Nat.reduceAdd, Nat.reduceLT, Nat.reduceLeDiff, if_true, if_false, Bool.not_true, Bool.not_false, Option.bind_some, Option.map_some, n1]
  refine ob_lcm (l := ls) .int (fun l => .int (l.natAbs : Int)) (fun l _ => ?_) (by simp only [lim]; omega) ?_
  · simp -implicitDefEqProofs only [ob_some, ob_bind, ob_map, eC_ap, eN_ap, eV_ap, slotN_dat, slotV_dat, slotV_own, slotV_odc, e1_ap, e2_ap, n2_ap, nLen_ap, aN_ap, aC_ap, eApp_ap, eTup_ap, nLst_ap, mkTup_0, mkTup_1, mkTup_2, mkTup_3, mkTup_4, mkLst_0, eL_ap, tV_ap, asBl_bl, tU_ap, ifB_t, ifB_f, tAnd_ap, tOr_ap, tNot_ap, tYes_ap, eIf_ap, ifD_bl, eAnd_ap, eOr_ap, notD_bl, eNot_ap, eChain_ap, dAdd_i, dSub_i, dNeg_i, dLt_i, dLe_i, dGt_i, dGe_i, dIsN2_n, dNotB_b, dEq_i, dNe_i, dEq_b, dNe_b, dEq_s, dNe_s, dLen_l, dLen_t, dLen_s, dTupOf_l, dTupOf_t, nLstOf_l, nLstOf_t, dAbs_i, itemsD_l, itemsD_t, iSeq_ap, iSeqL_ap', seqL_l, iRng1_ap, iRng2_ap, iDown_ap, iEnum_ap, iZip_ap, zip2_l, isi_ap, isTy_int_non, isTy_int_bl, isTy_int_int, isTy_int_str, isTy_int_lst, isTy_int_tup, isTy_int_dct, isTy_bool_non, isTy_bool_bl, isTy_bool_int, isTy_bool_str, isTy_bool_lst, isTy_bool_tup, isTy_bool_dct, isTy_str_non, isTy_str_bl, isTy_str_int, isTy_str_str, isTy_str_lst, isTy_str_tup, isTy_str_dct, isTy_tuple_non, isTy_tuple_bl, isTy_tuple_int, isTy_tuple_str, isTy_tuple_lst, isTy_tuple_tup, isTy_tuple_dct, isTy_list_non, isTy_list_bl, isTy_list_int, isTy_list_str, isTy_list_lst, isTy_list_tup, isTy_list_dct, isTy_dict_non, isTy_dict_bl, isTy_dict_int, isTy_dict_str, isTy_dict_lst, isTy_dict_tup, isTy_dict_dct, dIx_l, dIx_t, nLc_ap, gN_ap, goOn_nx, goOn_rt, goOn_rtO, sSeq_ap, sNext_ap, sSet_ap, sOwn_ap, sTgt_ap, sRet_ap, retO_own, sRetO_ap, sIf_ap, sDrop_ap, sFor_ap, sApp_ap, sParN_ap, sParNK_ap, sVia_ap, eCall_ap, eCallV_ap, val_d, val_o, fin_rt, fin_rtO, fin_nx, DL.start, List.map_cons, List.map_nil, List.length_cons, List.length_nil, List.replicate, List.cons_append, List.nil_append, List.getElem?_cons_zero, List.getElem?_cons_succ, List.set_cons_zero, List.set_cons_succ, wipeG, Nat.reduceSub, Nat.reduceAdd, Nat.reduceLT, Nat.reduceLeDiff, if_true, if_false, Bool.not_true, Bool.not_false, Option.bind_some, Option.map_some, true_and]
  · have e2 : (ls.map fun l => D.int (l.natAbs : Int)) = nD (ls.map Int.natAbs) := by simp [nD]
    simp -implicitDefEqProofs only [ob_some, ob_bind, ob_map, eC_ap, eN_ap, eV_ap, slotN_dat, slotV_dat, slotV_own, slotV_odc, e1_ap, e2_ap, n2_ap, nLen_ap, aN_ap, aC_ap, eApp_ap, eTup_ap, nLst_ap, mkTup_0, mkTup_1, mkTup_2, mkTup_3, mkTup_4, mkLst_0, eL_ap, tV_ap, asBl_bl, tU_ap, ifB_t, ifB_f, tAnd_ap, tOr_ap, tNot_ap, tYes_ap, eIf_ap, ifD_bl, eAnd_ap, eOr_ap, notD_bl, eNot_ap, eChain_ap, dAdd_i, dSub_i, dNeg_i, dLt_i, dLe_i, dGt_i, dGe_i, dIsN2_n, dNotB_b, dEq_i, dNe_i, dEq_b, dNe_b, dEq_s, dNe_s, dLen_l, dLen_t, dLen_s, dTupOf_l, dTupOf_t, nLstOf_l, nLstOf_t, dAbs_i, itemsD_l, itemsD_t, iSeq_ap, iSeqL_ap', seqL_l, iRng1_ap, iRng2_ap, iDown_ap, iEnum_ap, iZip_ap, zip2_l, isi_ap, isTy_int_non, isTy_int_bl, isTy_int_int, isTy_int_str, isTy_int_lst, isTy_int_tup, isTy_int_dct, isTy_bool_non, isTy_bool_bl, isTy_bool_int, isTy_bool_str, isTy_bool_lst, isTy_bool_tup, isTy_bool_dct, isTy_str_non, isTy_str_bl, isTy_str_int, isTy_str_str, isTy_str_lst, isTy_str_tup, isTy_str_dct, isTy_tuple_non, isTy_tuple_bl, isTy_tuple_int, isTy_tuple_str, isTy_tuple_lst, isTy_tuple_tup, isTy_tuple_dct, isTy_list_non, isTy_list_bl, isTy_list_int, isTy_list_str, isTy_list_lst, isTy_list_tup, isTy_list_dct, isTy_dict_non, isTy_dict_bl, isTy_dict_int, isTy_dict_str, isTy_dict_lst, isTy_dict_tup, isTy_dict_dct, dIx_l, dIx_t, nLc_ap, gN_ap, goOn_nx, goOn_rt, goOn_rtO, sSeq_ap, sNext_ap, sSet_ap, sOwn_ap, sTgt_ap, sRet_ap, retO_own, sRetO_ap, sIf_ap, sDrop_ap, sFor_ap, sApp_ap, sParN_ap, sParNK_ap, sVia_ap, eCall_ap, eCallV_ap, val_d, val_o, fin_rt, fin_rtO, fin_nx, DL.start, List.map_cons, List.map_nil, List.length_cons, List.length_nil, List.replicate, List.cons_append, List.nil_append, List.getElem?_cons_zero, List.getElem?_cons_succ, List.set_cons_zero, List.set_cons_succ, wipeG, Nat.reduceSub, Nat.reduceAdd, Nat.reduceLT, Nat.reduceLeDiff, if_true, if_false, Bool.not_true, Bool.not_false, Option.bind_some, Option.map_some, e2, List.length_map, rngDown_i ((b : Int) + rows.length) b (by omega) (by omega)]
    have e3 : ((b : Int) + rows.length - b).toNat = rows.length := by omega
    rw [e3]
    refine ob_for (fun k : Nat => D.int ((b : Int) + rows.length - k)) (fun pre g => ∃ (W : List Nat) (s t : Slot), g = [.dat (.lst (rows.map tI)), .dat (.int b), .dat (tI ls), .dat (.lst (nD W)), s, t] ∧
      (∀ x ∈ W, Rch b rows (ls.map Int.natAbs) x ∧ 1 ≤ x ∧ x ≤ b + rows.length) ∧ (∀ x ∈ ls.map Int.natAbs, x ∈ W) ∧ (∀ u ∈ W, b + rows.length < u + pre.length → ∀ x ∈ Ev b rows u, x ∈ W) ∧ W.length ≤ ls.length + 3 * pre.length) ?_ ?_ ?_
    · refine ⟨_, _, _, rfl, ?_, fun x hx => hx, ?_, by simp⟩
      · intro x hx
        refine ⟨.lit x hx, ?_⟩
        rw [List.mem_map] at hx; obtain ⟨l, h1, rfl⟩ := hx; exact hl l h1
      · intro u hu h; 
        rw [List.mem_map] at hu; obtain ⟨l, h1, rfl⟩ := hu
        have := hl l h1; simp at h; omega
    · rintro pre k post g e ⟨W, s, t, rfl, w1, w2, w3, w4⟩
      obtain ⟨hk, hk2⟩ := range_at e
      have e4 : (b : Int) + rows.length - k = ((b + rows.length - k : Nat) : Int) := by omega
      have hkr : pre.length < rows.length := by omega
      simp -implicitDefEqProofs only [ob_some, ob_bind, ob_map, eC_ap, eN_ap, eV_ap, slotN_dat, slotV_dat, slotV_own, slotV_odc, e1_ap, e2_ap, n2_ap, nLen_ap, aN_ap, aC_ap, eApp_ap, eTup_ap, nLst_ap, mkTup_0, mkTup_1, mkTup_2, mkTup_3, mkTup_4, mkLst_0, eL_ap, tV_ap, asBl_bl, tU_ap, ifB_t, ifB_f, tAnd_ap, tOr_ap, tNot_ap, tYes_ap, eIf_ap, ifD_bl, eAnd_ap, eOr_ap, notD_bl, eNot_ap, eChain_ap, dAdd_i, dSub_i, dNeg_i, dLt_i, dLe_i, dGt_i, dGe_i, dIsN2_n, dNotB_b, dEq_i, dNe_i, dEq_b, dNe_b, dEq_s, dNe_s, dLen_l, dLen_t, dLen_s, dTupOf_l, dTupOf_t, nLstOf_l, nLstOf_t, dAbs_i, itemsD_l, itemsD_t, iSeq_ap, iSeqL_ap', seqL_l, iRng1_ap, iRng2_ap, iDown_ap, iEnum_ap, iZip_ap, zip2_l, isi_ap, isTy_int_non, isTy_int_bl, isTy_int_int, isTy_int_str, isTy_int_lst, isTy_int_tup, isTy_int_dct, isTy_bool_non, isTy_bool_bl, isTy_bool_int, isTy_bool_str, isTy_bool_lst, isTy_bool_tup, isTy_bool_dct, isTy_str_non, isTy_str_bl, isTy_str_int, isTy_str_str, isTy_str_lst, isTy_str_tup, isTy_str_dct, isTy_tuple_non, isTy_tuple_bl, isTy_tuple_int, isTy_tuple_str, isTy_tuple_lst, isTy_tuple_tup, isTy_tuple_dct, isTy_list_non, isTy_list_bl, isTy_list_int, isTy_list_str, isTy_list_lst, isTy_list_tup, isTy_list_dct, isTy_dict_non, isTy_dict_bl, isTy_dict_int, isTy_dict_str, isTy_dict_lst, isTy_dict_tup, isTy_dict_dct, dIx_l, dIx_t, nLc_ap, gN_ap, goOn_nx, goOn_rt, goOn_rtO, sSeq_ap, sNext_ap, sSet_ap, sOwn_ap, sTgt_ap, sRet_ap, retO_own, sRetO_ap, sIf_ap, sDrop_ap, sFor_ap, sApp_ap, sParN_ap, sParNK_ap, sVia_ap, eCall_ap, eCallV_ap, val_d, val_o, fin_rt, fin_rtO, fin_nx, DL.start, List.map_cons, List.map_nil, List.length_cons, List.length_nil, List.replicate, List.cons_append, List.nil_append, List.getElem?_cons_zero, List.getElem?_cons_succ, List.set_cons_zero, List.set_cons_succ, wipeG, Nat.reduceSub, Nat.reduceAdd, Nat.reduceLT, Nat.reduceLeDiff, if_true, if_false, Bool.not_true, Bool.not_false, Option.bind_some, Option.map_some, e4, in_nD]
      have h1 : (b : Int) < ((b + rows.length - k : Nat) : Int) := by omega
      generalize hu : b + rows.length - k = u at *
      have hub : b < u := by omega
      by_cases hm : u ∈ W
      · obtain ⟨r, hr1, hr2⟩ := Ev_row (b := b) (rows := rows) u hub (by omega)
        have a1 : atD (rows.map tI) ((u : Int) - b - 1) = some (tI r) := by
          apply atD_of _ _ _ (by omega)
          rw [show ((u : Int) - b - 1).toNat = u - b - 1 by omega]; simp [hr1]
        have hrl := v.sz r (List.mem_of_getElem? hr1)
        have n2 : itemsD (tI r) = some (r.map .int) := rfl
        simp -implicitDefEqProofs only [ob_some, ob_bind, ob_map, eC_ap, eN_ap, eV_ap, slotN_dat, slotV_dat, slotV_own, slotV_odc, e1_ap, e2_ap, n2_ap, nLen_ap, aN_ap, aC_ap, eApp_ap, eTup_ap, nLst_ap, mkTup_0, mkTup_1, mkTup_2, mkTup_3, mkTup_4, mkLst_0, eL_ap, tV_ap, asBl_bl, tU_ap, ifB_t, ifB_f, tAnd_ap, tOr_ap, tNot_ap, tYes_ap, eIf_ap, ifD_bl, eAnd_ap, eOr_ap, notD_bl, eNot_ap, eChain_ap, dAdd_i, dSub_i, dNeg_i, dLt_i, dLe_i, dGt_i, dGe_i, dIsN2_n, dNotB_b, dEq_i, dNe_i, dEq_b, dNe_b, dEq_s, dNe_s, dLen_l, dLen_t, dLen_s, dTupOf_l, dTupOf_t, nLstOf_l, nLstOf_t, dAbs_i, itemsD_l, itemsD_t, iSeq_ap, iSeqL_ap', seqL_l, iRng1_ap, iRng2_ap, iDown_ap, iEnum_ap, iZip_ap, zip2_l, isi_ap, isTy_int_non, isTy_int_bl, isTy_int_int, isTy_int_str, isTy_int_lst, isTy_int_tup, isTy_int_dct, isTy_bool_non, isTy_bool_bl, isTy_bool_int, isTy_bool_str, isTy_bool_lst, isTy_bool_tup, isTy_bool_dct, isTy_str_non, isTy_str_bl, isTy_str_int, isTy_str_str, isTy_str_lst, isTy_str_tup, isTy_str_dct, isTy_tuple_non, isTy_tuple_bl, isTy_tuple_int, isTy_tuple_str, isTy_tuple_lst, isTy_tuple_tup, isTy_tuple_dct, isTy_list_non, isTy_list_bl, isTy_list_int, isTy_list_str, isTy_list_lst, isTy_list_tup, isTy_list_dct, isTy_dict_non, isTy_dict_bl, isTy_dict_int, isTy_dict_str, isTy_dict_lst, isTy_dict_tup, isTy_dict_dct, dIx_l, dIx_t, nLc_ap, gN_ap, goOn_nx, goOn_rt, goOn_rtO, sSeq_ap, sNext_ap, sSet_ap, sOwn_ap, sTgt_ap, sRet_ap, retO_own, sRetO_ap, sIf_ap, sDrop_ap, sFor_ap, sApp_ap, sParN_ap, sParNK_ap, sVia_ap, eCall_ap, eCallV_ap, val_d, val_o, fin_rt, fin_rtO, fin_nx, DL.start, List.map_cons, List.map_nil, List.length_cons, List.length_nil, List.replicate, List.cons_append, List.nil_append, List.getElem?_cons_zero, List.getElem?_cons_succ, List.set_cons_zero, List.set_cons_succ, wipeG, Nat.reduceSub, Nat.reduceAdd, Nat.reduceLT, Nat.reduceLeDiff, if_true, if_false, Bool.not_true, Bool.not_false, Option.bind_some, Option.map_some, decide_eq_true hm, a1, n2]
        refine ob_lcm (l := r) .int (fun l => .int (l.natAbs : Int)) (fun l _ => ?_) (by simp only [lim]; omega) ?_
        · simp -implicitDefEqProofs only [ob_some, ob_bind, ob_map, eC_ap, eN_ap, eV_ap, slotN_dat, slotV_dat, slotV_own, slotV_odc, e1_ap, e2_ap, n2_ap, nLen_ap, aN_ap, aC_ap, eApp_ap, eTup_ap, nLst_ap, mkTup_0, mkTup_1, mkTup_2, mkTup_3, mkTup_4, mkLst_0, eL_ap, tV_ap, asBl_bl, tU_ap, ifB_t, ifB_f, tAnd_ap, tOr_ap, tNot_ap, tYes_ap, eIf_ap, ifD_bl, eAnd_ap, eOr_ap, notD_bl, eNot_ap, eChain_ap, dAdd_i, dSub_i, dNeg_i, dLt_i, dLe_i, dGt_i, dGe_i, dIsN2_n, dNotB_b, dEq_i, dNe_i, dEq_b, dNe_b, dEq_s, dNe_s, dLen_l, dLen_t, dLen_s, dTupOf_l, dTupOf_t, nLstOf_l, nLstOf_t, dAbs_i, itemsD_l, itemsD_t, iSeq_ap, iSeqL_ap', seqL_l, iRng1_ap, iRng2_ap, iDown_ap, iEnum_ap, iZip_ap, zip2_l, isi_ap, isTy_int_non, isTy_int_bl, isTy_int_int, isTy_int_str, isTy_int_lst, isTy_int_tup, isTy_int_dct, isTy_bool_non, isTy_bool_bl, isTy_bool_int, isTy_bool_str, isTy_bool_lst, isTy_bool_tup, isTy_bool_dct, isTy_str_non, isTy_str_bl, isTy_str_int, isTy_str_str, isTy_str_lst, isTy_str_tup, isTy_str_dct, isTy_tuple_non, isTy_tuple_bl, isTy_tuple_int, isTy_tuple_str, isTy_tuple_lst, isTy_tuple_tup, isTy_tuple_dct, isTy_list_non, isTy_list_bl, isTy_list_int, isTy_list_str, isTy_list_lst, isTy_list_tup, isTy_list_dct, isTy_dict_non, isTy_dict_bl, isTy_dict_int, isTy_dict_str, isTy_dict_lst, isTy_dict_tup, isTy_dict_dct, dIx_l, dIx_t, nLc_ap, gN_ap, goOn_nx, goOn_rt, goOn_rtO, sSeq_ap, sNext_ap, sSet_ap, sOwn_ap, sTgt_ap, sRet_ap, retO_own, sRetO_ap, sIf_ap, sDrop_ap, sFor_ap, sApp_ap, sParN_ap, sParNK_ap, sVia_ap, eCall_ap, eCallV_ap, val_d, val_o, fin_rt, fin_rtO, fin_nx, DL.start, List.map_cons, List.map_nil, List.length_cons, List.length_nil, List.replicate, List.cons_append, List.nil_append, List.getElem?_cons_zero, List.getElem?_cons_succ, List.set_cons_zero, List.set_cons_succ, wipeG, Nat.reduceSub, Nat.reduceAdd, Nat.reduceLT, Nat.reduceLeDiff, if_true, if_false, Bool.not_true, Bool.not_false, Option.bind_some, Option.map_some, true_and]
        · have e5 : (r.map fun l => D.int (l.natAbs : Int)) = nD (Ev b rows u) := by rw [hr2]; simp [nD]
          rw [e5]
          have hel := Ev_len v u
          have hi : dAdd (.lst (nD W)) (.lst (nD (Ev b rows u))) = some (.lst (nD (W ++ Ev b rows u))) := by
            simp only [dAdd]
            rw [if_pos (by simp only [nD, List.length_map, lim]; omega)]
            simp [nD]
          simp -implicitDefEqProofs only [ob_some, ob_bind, ob_map, eC_ap, eN_ap, eV_ap, slotN_dat, slotV_dat, slotV_own, slotV_odc, e1_ap, e2_ap, n2_ap, nLen_ap, aN_ap, aC_ap, eApp_ap, eTup_ap, nLst_ap, mkTup_0, mkTup_1, mkTup_2, mkTup_3, mkTup_4, mkLst_0, eL_ap, tV_ap, asBl_bl, tU_ap, ifB_t, ifB_f, tAnd_ap, tOr_ap, tNot_ap, tYes_ap, eIf_ap, ifD_bl, eAnd_ap, eOr_ap, notD_bl, eNot_ap, eChain_ap, dAdd_i, dSub_i, dNeg_i, dLt_i, dLe_i, dGt_i, dGe_i, dIsN2_n, dNotB_b, dEq_i, dNe_i, dEq_b, dNe_b, dEq_s, dNe_s, dLen_l, dLen_t, dLen_s, dTupOf_l, dTupOf_t, nLstOf_l, nLstOf_t, dAbs_i, itemsD_l, itemsD_t, iSeq_ap, iSeqL_ap', seqL_l, iRng1_ap, iRng2_ap, iDown_ap, iEnum_ap, iZip_ap, zip2_l, isi_ap, isTy_int_non, isTy_int_bl, isTy_int_int, isTy_int_str, isTy_int_lst, isTy_int_tup, isTy_int_dct, isTy_bool_non, isTy_bool_bl, isTy_bool_int, isTy_bool_str, isTy_bool_lst, isTy_bool_tup, isTy_bool_dct, isTy_str_non, isTy_str_bl, isTy_str_int, isTy_str_str, isTy_str_lst, isTy_str_tup, isTy_str_dct, isTy_tuple_non, isTy_tuple_bl, isTy_tuple_int, isTy_tuple_str, isTy_tuple_lst, isTy_tuple_tup, isTy_tuple_dct, isTy_list_non, isTy_list_bl, isTy_list_int, isTy_list_str, isTy_list_lst, isTy_list_tup, isTy_list_dct, isTy_dict_non, isTy_dict_bl, isTy_dict_int, isTy_dict_str, isTy_dict_lst, isTy_dict_tup, isTy_dict_dct, dIx_l, dIx_t, nLc_ap, gN_ap, goOn_nx, goOn_rt, goOn_rtO, sSeq_ap, sNext_ap, sSet_ap, sOwn_ap, sTgt_ap, sRet_ap, retO_own, sRetO_ap, sIf_ap, sDrop_ap, sFor_ap, sApp_ap, sParN_ap, sParNK_ap, sVia_ap, eCall_ap, eCallV_ap, val_d, val_o, fin_rt, fin_rtO, fin_nx, DL.start, List.map_cons, List.map_nil, List.length_cons, List.length_nil, List.replicate, List.cons_append, List.nil_append, List.getElem?_cons_zero, List.getElem?_cons_succ, List.set_cons_zero, List.set_cons_succ, wipeG, Nat.reduceSub, Nat.reduceAdd, Nat.reduceLT, Nat.reduceLeDiff, if_true, if_false, Bool.not_true, Bool.not_false, Option.bind_some, Option.map_some, hi]
          refine ⟨_, rfl, W ++ Ev b rows u, _, _, rfl, ?_, ?_, ?_, by simp; omega⟩
          · intro x hx; rw [List.mem_append] at hx
            rcases hx with hx | hx
            · exact w1 x hx
            · refine ⟨.step u x (w1 u hm).1 hx, ?_⟩
              have := Ev_lt v u x hx; omega
          · intro x hx; rw [List.mem_append]; exact Or.inl (w2 x hx)
          · intro u' hu' hlt x hx
            rw [List.mem_append] at hu' ⊢
            simp at hlt
            rcases hu' with hu' | hu'
            · by_cases hq : b + rows.length < u' + pre.length
              · exact Or.inl (w3 u' hu' hq x hx)
              · have : u' = u := by omega
                subst this; exact Or.inr hx
            · have := Ev_lt v u u' hu'; omega
      · simp -implicitDefEqProofs only [ob_some, ob_bind, ob_map, eC_ap, eN_ap, eV_ap, slotN_dat, slotV_dat, slotV_own, slotV_odc, e1_ap, e2_ap, n2_ap, nLen_ap, aN_ap, aC_ap, eApp_ap, eTup_ap, nLst_ap, mkTup_0, mkTup_1, mkTup_2, mkTup_3, mkTup_4, mkLst_0, eL_ap, tV_ap, asBl_bl, tU_ap, ifB_t, ifB_f, tAnd_ap, tOr_ap, tNot_ap, tYes_ap, eIf_ap, ifD_bl, eAnd_ap, eOr_ap, notD_bl, eNot_ap, eChain_ap, dAdd_i, dSub_i, dNeg_i, dLt_i, dLe_i, dGt_i, dGe_i, dIsN2_n, dNotB_b, dEq_i, dNe_i, dEq_b, dNe_b, dEq_s, dNe_s, dLen_l, dLen_t, dLen_s, dTupOf_l, dTupOf_t, nLstOf_l, nLstOf_t, dAbs_i, itemsD_l, itemsD_t, iSeq_ap, iSeqL_ap', seqL_l, iRng1_ap, iRng2_ap, iDown_ap, iEnum_ap, iZip_ap, zip2_l, isi_ap, isTy_int_non, isTy_int_bl, isTy_int_int, isTy_int_str, isTy_int_lst, isTy_int_tup, isTy_int_dct, isTy_bool_non, isTy_bool_bl, isTy_bool_int, isTy_bool_str, isTy_bool_lst, isTy_bool_tup, isTy_bool_dct, isTy_str_non, isTy_str_bl, isTy_str_int, isTy_str_str, isTy_str_lst, isTy_str_tup, isTy_str_dct, isTy_tuple_non, isTy_tuple_bl, isTy_tuple_int, isTy_tuple_str, isTy_tuple_lst, isTy_tuple_tup, isTy_tuple_dct, isTy_list_non, isTy_list_bl, isTy_list_int, isTy_list_str, isTy_list_lst, isTy_list_tup, isTy_list_dct, isTy_dict_non, isTy_dict_bl, isTy_dict_int, isTy_dict_str, isTy_dict_lst, isTy_dict_tup, isTy_dict_dct, dIx_l, dIx_t, nLc_ap, gN_ap, goOn_nx, goOn_rt, goOn_rtO, sSeq_ap, sNext_ap, sSet_ap, sOwn_ap, sTgt_ap, sRet_ap, retO_own, sRetO_ap, sIf_ap, sDrop_ap, sFor_ap, sApp_ap, sParN_ap, sParNK_ap, sVia_ap, eCall_ap, eCallV_ap, val_d, val_o, fin_rt, fin_rtO, fin_nx, DL.start, List.map_cons, List.map_nil, List.length_cons, List.length_nil, List.replicate, List.cons_append, List.nil_append, List.getElem?_cons_zero, List.getElem?_cons_succ, List.set_cons_zero, List.set_cons_succ, wipeG, Nat.reduceSub, Nat.reduceAdd, Nat.reduceLT, Nat.reduceLeDiff, if_true, if_false, Bool.not_true, Bool.not_false, Option.bind_some, Option.map_some, decide_eq_false hm]
        refine ⟨_, rfl, W, _, _, rfl, w1, w2, ?_, by simp; omega⟩
        intro u' hu' hlt x hx
        simp at hlt
        by_cases hq : b + rows.length < u' + pre.length
        · exact w3 u' hu' hq x hx
        · have : u' = u := by omega
          subst this; exact (hm hu').elim
    · rintro g ⟨W, s, t, rfl, w1, w2, w3, w4⟩
      have hW : ∀ x, x ∈ W ↔ Rch b rows (ls.map Int.natAbs) x := by
        intro x
        constructor
        · intro h; exact (w1 x h).1
        · intro h
          refine rch_of W w2 ?_ x h
          intro u hu y hy
          by_cases hub : b < u
          · exact w3 u hu (by simp; omega) y hy
          · unfold Ev at hy; rw [if_neg hub] at hy; simp at hy
      simp -implicitDefEqProofs only [ob_some, ob_bind, ob_map, eC_ap, eN_ap, eV_ap, slotN_dat, slotV_dat, slotV_own, slotV_odc, e1_ap, e2_ap, n2_ap, nLen_ap, aN_ap, aC_ap, eApp_ap, eTup_ap, nLst_ap, mkTup_0, mkTup_1, mkTup_2, mkTup_3, mkTup_4, mkLst_0, eL_ap, tV_ap, asBl_bl, tU_ap, ifB_t, ifB_f, tAnd_ap, tOr_ap, tNot_ap, tYes_ap, eIf_ap, ifD_bl, eAnd_ap, eOr_ap, notD_bl, eNot_ap, eChain_ap, dAdd_i, dSub_i, dNeg_i, dLt_i, dLe_i, dGt_i, dGe_i, dIsN2_n, dNotB_b, dEq_i, dNe_i, dEq_b, dNe_b, dEq_s, dNe_s, dLen_l, dLen_t, dLen_s, dTupOf_l, dTupOf_t, nLstOf_l, nLstOf_t, dAbs_i, itemsD_l, itemsD_t, iSeq_ap, iSeqL_ap', seqL_l, iRng1_ap, iRng2_ap, iDown_ap, iEnum_ap, iZip_ap, zip2_l, isi_ap, isTy_int_non, isTy_int_bl, isTy_int_int, isTy_int_str, isTy_int_lst, isTy_int_tup, isTy_int_dct, isTy_bool_non, isTy_bool_bl, isTy_bool_int, isTy_bool_str, isTy_bool_lst, isTy_bool_tup, isTy_bool_dct, isTy_str_non, isTy_str_bl, isTy_str_int, isTy_str_str, isTy_str_lst, isTy_str_tup, isTy_str_dct, isTy_tuple_non, isTy_tuple_bl, isTy_tuple_int, isTy_tuple_str, isTy_tuple_lst, isTy_tuple_tup, isTy_tuple_dct, isTy_list_non, isTy_list_bl, isTy_list_int, isTy_list_str, isTy_list_lst, isTy_list_tup, isTy_list_dct, isTy_dict_non, isTy_dict_bl, isTy_dict_int, isTy_dict_str, isTy_dict_lst, isTy_dict_tup, isTy_dict_dct, dIx_l, dIx_t, nLc_ap, gN_ap, goOn_nx, goOn_rt, goOn_rtO, sSeq_ap, sNext_ap, sSet_ap, sOwn_ap, sTgt_ap, sRet_ap, retO_own, sRetO_ap, sIf_ap, sDrop_ap, sFor_ap, sApp_ap, sParN_ap, sParNK_ap, sVia_ap, eCall_ap, eCallV_ap, val_d, val_o, fin_rt, fin_rtO, fin_nx, DL.start, List.map_cons, List.map_nil, List.length_cons, List.length_nil, List.replicate, List.cons_append, List.nil_append, List.getElem?_cons_zero, List.getElem?_cons_succ, List.set_cons_zero, List.set_cons_succ, wipeG, Nat.reduceSub, Nat.reduceAdd, Nat.reduceLT, Nat.reduceLeDiff, if_true, if_false, Bool.not_true, Bool.not_false, Option.bind_some, Option.map_some, List.length_map, rng2_i 1 ((b : Int) + rows.length + 1) (by omega) (by omega)]
      have e6 : ((b : Int) + rows.length + 1 - 1).toNat = b + rows.length := by omega
      rw [e6]
      refine ob_lc (fun k : Nat => D.int (1 + (k : Nat))) (fun k => decide (k + 1 ∈ W)) (fun k => D.int (1 + (k : Nat))) (fun k hk => ?_) (by simp [lim]; omega) ?_
      · have e7 : (1 : Int) + k = ((k + 1 : Nat) : Int) := by omega
        simp -implicitDefEqProofs only [ob_some, ob_bind, ob_map, eC_ap, eN_ap, eV_ap, slotN_dat, slotV_dat, slotV_own, slotV_odc, e1_ap, e2_ap, n2_ap, nLen_ap, aN_ap, aC_ap, eApp_ap, eTup_ap, nLst_ap, mkTup_0, mkTup_1, mkTup_2, mkTup_3, mkTup_4, mkLst_0, eL_ap, tV_ap, asBl_bl, tU_ap, ifB_t, ifB_f, tAnd_ap, tOr_ap, tNot_ap, tYes_ap, eIf_ap, ifD_bl, eAnd_ap, eOr_ap, notD_bl, eNot_ap, eChain_ap, dAdd_i, dSub_i, dNeg_i, dLt_i, dLe_i, dGt_i, dGe_i, dIsN2_n, dNotB_b, dEq_i, dNe_i, dEq_b, dNe_b, dEq_s, dNe_s, dLen_l, dLen_t, dLen_s, dTupOf_l, dTupOf_t, nLstOf_l, nLstOf_t, dAbs_i, itemsD_l, itemsD_t, iSeq_ap, iSeqL_ap', seqL_l, iRng1_ap, iRng2_ap, iDown_ap, iEnum_ap, iZip_ap, zip2_l, isi_ap, isTy_int_non, isTy_int_bl, isTy_int_int, isTy_int_str, isTy_int_lst, isTy_int_tup, isTy_int_dct, isTy_bool_non, isTy_bool_bl, isTy_bool_int, isTy_bool_str, isTy_bool_lst, isTy_bool_tup, isTy_bool_dct, isTy_str_non, isTy_str_bl, isTy_str_int, isTy_str_str, isTy_str_lst, isTy_str_tup, isTy_str_dct, isTy_tuple_non, isTy_tuple_bl, isTy_tuple_int, isTy_tuple_str, isTy_tuple_lst, isTy_tuple_tup, isTy_tuple_dct, isTy_list_non, isTy_list_bl, isTy_list_int, isTy_list_str, isTy_list_lst, isTy_list_tup, isTy_list_dct, isTy_dict_non, isTy_dict_bl, isTy_dict_int, isTy_dict_str, isTy_dict_lst, isTy_dict_tup, isTy_dict_dct, dIx_l, dIx_t, nLc_ap, gN_ap, goOn_nx, goOn_rt, goOn_rtO, sSeq_ap, sNext_ap, sSet_ap, sOwn_ap, sTgt_ap, sRet_ap, retO_own, sRetO_ap, sIf_ap, sDrop_ap, sFor_ap, sApp_ap, sParN_ap, sParNK_ap, sVia_ap, eCall_ap, eCallV_ap, val_d, val_o, fin_rt, fin_rtO, fin_nx, DL.start, List.map_cons, List.map_nil, List.length_cons, List.length_nil, List.replicate, List.cons_append, List.nil_append, List.getElem?_cons_zero, List.getElem?_cons_succ, List.set_cons_zero, List.set_cons_succ, wipeG, Nat.reduceSub, Nat.reduceAdd, Nat.reduceLT, Nat.reduceLeDiff, if_true, if_false, Bool.not_true, Bool.not_false, Option.bind_some, Option.map_some, e7, in_nD, true_and, implies_true]
      · refine ⟨W, hW, ?_⟩
        simp only [tI, nd, List.map_map]; rfl
end Gk00
end
/-! T10 -/
section
set_option linter.all false
namespace Gk00
open PySem DL DM

/-! drawn digits -/
def Fit : List Int → List Int → Prop
  | [], [] => True
  | d :: ds, s :: ss => (0 ≤ d ∧ d < s) ∧ Fit ds ss
  | _, _ => False
theorem fit_snoc : ∀ (ds ss : List Int) (d s : Int), Fit ds ss → 0 ≤ d → d < s → Fit (ds ++ [d]) (ss ++ [s])
  | [], [], d, s, _, h1, h2 => ⟨⟨h1, h2⟩, trivial⟩
  | x :: ds, y :: ss, d, s, h, h1, h2 => ⟨h.1, fit_snoc ds ss d s h.2 h1 h2⟩
  | [], y :: ss, d, s, h, _, _ => h.elim
  | x :: ds, [], d, s, h, _, _ => h.elim
theorem fit_len : ∀ (ds ss : List Int), Fit ds ss → ds.length = ss.length
  | [], [], _ => rfl
  | x :: ds, y :: ss, h => by simp [fit_len ds ss h.2]
  | [], y :: ss, h => h.elim
  | x :: ds, [], h => h.elim
theorem law_cell_eq (ns : List Int) (k : Nat) : ∃ c, f__law_cell [.scr ns, .int k] = some (.d (.int c)) := by
  suffices H : Ob (f__law_cell [.scr ns, .int k]) fun r => ∃ c, r = .d (.int c) by
    obtain ⟨r, h1, c, rfl⟩ := H; exact ⟨c, h1⟩
  refine ob_fn rfl ?_
  unfold s__law_cell
  simp -implicitDefEqProofs only [ob_some, ob_bind, ob_map, eC_ap, eN_ap, eV_ap, slotN_dat, slotV_dat, slotV_own, slotV_odc, e1_ap, e2_ap, n2_ap, nLen_ap, aN_ap, aC_ap, eApp_ap, eTup_ap, nLst_ap, mkTup_0, mkTup_1, mkTup_2, mkTup_3, mkTup_4, mkLst_0, eL_ap, tV_ap, asBl_bl, tU_ap, ifB_t, ifB_f, tAnd_ap, tOr_ap, tNot_ap, tYes_ap, eIf_ap, ifD_bl, eAnd_ap, eOr_ap, notD_bl, eNot_ap, eChain_ap, dAdd_i, dSub_i, dNeg_i, dLt_i, dLe_i, dGt_i, dGe_i, dIsN2_n, dNotB_b, dEq_i, dNe_i, dEq_b, dNe_b, dEq_s, dNe_s, dLen_l, dLen_t, dLen_s, dTupOf_l, dTupOf_t, nLstOf_l, nLstOf_t, dAbs_i, itemsD_l, itemsD_t, iSeq_ap, iSeqL_ap', seqL_l, iRng1_ap, iRng2_ap, iDown_ap, iEnum_ap, iZip_ap, zip2_l, isi_ap, isTy_int_non, isTy_int_bl, isTy_int_int, isTy_int_str, isTy_int_lst, isTy_int_tup, isTy_int_dct, isTy_bool_non, isTy_bool_bl, isTy_bool_int, isTy_bool_str, isTy_bool_lst, isTy_bool_tup, isTy_bool_dct, isTy_str_non, isTy_str_bl, isTy_str_int, isTy_str_str, isTy_str_lst, isTy_str_tup, isTy_str_dct, isTy_tuple_non, isTy_tuple_bl, isTy_tuple_int, isTy_tuple_str, isTy_tuple_lst, isTy_tuple_tup, isTy_tuple_dct, isTy_list_non, isTy_list_bl, isTy_list_int, isTy_list_str, isTy_list_lst, isTy_list_tup, isTy_list_dct, isTy_dict_non, isTy_dict_bl, isTy_dict_int, isTy_dict_str, isTy_dict_lst, isTy_dict_tup, isTy_dict_dct, dIx_l, dIx_t, nLc_ap, gN_ap, goOn_nx, goOn_rt, goOn_rtO, sSeq_ap, sNext_ap, sSet_ap, sOwn_ap, sTgt_ap, sRet_ap, retO_own, sRetO_ap, sIf_ap, sDrop_ap, sFor_ap, sApp_ap, sParN_ap, sParNK_ap, sVia_ap, eCall_ap, eCallV_ap, val_d, val_o, fin_rt, fin_rtO, fin_nx, DL.start, List.map_cons, List.map_nil, List.length_cons, List.length_nil, List.replicate, List.cons_append, List.nil_append, List.getElem?_cons_zero, List.getElem?_cons_succ, List.set_cons_zero, List.set_cons_succ, wipeG, Nat.reduceSub, Nat.reduceAdd, Nat.reduceLT, Nat.reduceLeDiff, if_true, if_false, Bool.not_true, Bool.not_false, Option.bind_some, Option.map_some]
  by_cases h : (k : Int) < (ns.length : Int)
  · have h2 : ns[k]? = some ns[k] := List.getElem?_eq_getElem (by omega)
    have a : dIx (.scr ns) (.int k) = some (.int ns[k]) := by
      simp only [dIx, placeN, if_pos (show (0 : Int) ≤ (k : Int) by omega), if_pos h, Option.bind_some, Int.toNat_natCast, h2, Option.map_some]
    simp -implicitDefEqProofs only [ob_some, ob_bind, ob_map, eC_ap, eN_ap, eV_ap, slotN_dat, slotV_dat, slotV_own, slotV_odc, e1_ap, e2_ap, n2_ap, nLen_ap, aN_ap, aC_ap, eApp_ap, eTup_ap, nLst_ap, mkTup_0, mkTup_1, mkTup_2, mkTup_3, mkTup_4, mkLst_0, eL_ap, tV_ap, asBl_bl, tU_ap, ifB_t, ifB_f, tAnd_ap, tOr_ap, tNot_ap, tYes_ap, eIf_ap, ifD_bl, eAnd_ap, eOr_ap, notD_bl, eNot_ap, eChain_ap, dAdd_i, dSub_i, dNeg_i, dLt_i, dLe_i, dGt_i, dGe_i, dIsN2_n, dNotB_b, dEq_i, dNe_i, dEq_b, dNe_b, dEq_s, dNe_s, dLen_l, dLen_t, dLen_s, dTupOf_l, dTupOf_t, nLstOf_l, nLstOf_t, dAbs_i, itemsD_l, itemsD_t, iSeq_ap, iSeqL_ap', seqL_l, iRng1_ap, iRng2_ap, iDown_ap, iEnum_ap, iZip_ap, zip2_l, isi_ap, isTy_int_non, isTy_int_bl, isTy_int_int, isTy_int_str, isTy_int_lst, isTy_int_tup, isTy_int_dct, isTy_bool_non, isTy_bool_bl, isTy_bool_int, isTy_bool_str, isTy_bool_lst, isTy_bool_tup, isTy_bool_dct, isTy_str_non, isTy_str_bl, isTy_str_int, isTy_str_str, isTy_str_lst, isTy_str_tup, isTy_str_dct, isTy_tuple_non, isTy_tuple_bl, isTy_tuple_int, isTy_tuple_str, isTy_tuple_lst, isTy_tuple_tup, isTy_tuple_dct, isTy_list_non, isTy_list_bl, isTy_list_int, isTy_list_str, isTy_list_lst, isTy_list_tup, isTy_list_dct, isTy_dict_non, isTy_dict_bl, isTy_dict_int, isTy_dict_str, isTy_dict_lst, isTy_dict_tup, isTy_dict_dct, dIx_l, dIx_t, nLc_ap, gN_ap, goOn_nx, goOn_rt, goOn_rtO, sSeq_ap, sNext_ap, sSet_ap, sOwn_ap, sTgt_ap, sRet_ap, retO_own, sRetO_ap, sIf_ap, sDrop_ap, sFor_ap, sApp_ap, sParN_ap, sParNK_ap, sVia_ap, eCall_ap, eCallV_ap, val_d, val_o, fin_rt, fin_rtO, fin_nx, DL.start, List.map_cons, List.map_nil, List.length_cons, List.length_nil, List.replicate, List.cons_append, List.nil_append, List.getElem?_cons_zero, List.getElem?_cons_succ, List.set_cons_zero, List.set_cons_succ, wipeG, Nat.reduceSub, Nat.reduceAdd, Nat.reduceLT, Nat.reduceLeDiff, if_true, if_false, Bool.not_true, Bool.not_false, Option.bind_some, Option.map_some, decide_eq_true h, a]
    exact ⟨_, rfl⟩
  · simp -implicitDefEqProofs only [ob_some, ob_bind, ob_map, eC_ap, eN_ap, eV_ap, slotN_dat, slotV_dat, slotV_own, slotV_odc, e1_ap, e2_ap, n2_ap, nLen_ap, aN_ap, aC_ap, eApp_ap, eTup_ap, nLst_ap, mkTup_0, mkTup_1, mkTup_2, mkTup_3, mkTup_4, mkLst_0, eL_ap, tV_ap, asBl_bl, tU_ap, ifB_t, ifB_f, tAnd_ap, tOr_ap, tNot_ap, tYes_ap, eIf_ap, ifD_bl, eAnd_ap, eOr_ap, notD_bl, eNot_ap, eChain_ap, dAdd_i, dSub_i, dNeg_i, dLt_i, dLe_i, dGt_i, dGe_i, dIsN2_n, dNotB_b, dEq_i, dNe_i, dEq_b, dNe_b, dEq_s, dNe_s, dLen_l, dLen_t, dLen_s, dTupOf_l, dTupOf_t, nLstOf_l, nLstOf_t, dAbs_i, itemsD_l, itemsD_t, iSeq_ap, iSeqL_ap', seqL_l, iRng1_ap, iRng2_ap, iDown_ap, iEnum_ap, iZip_ap, zip2_l, isi_ap, isTy_int_non, isTy_int_bl, isTy_int_int, isTy_int_str, isTy_int_lst, isTy_int_tup, isTy_int_dct, isTy_bool_non, isTy_bool_bl, isTy_bool_int, isTy_bool_str, isTy_bool_lst, isTy_bool_tup, isTy_bool_dct, isTy_str_non, isTy_str_bl, isTy_str_int, isTy_str_str, isTy_str_lst, isTy_str_tup, isTy_str_dct, isTy_tuple_non, isTy_tuple_bl, isTy_tuple_int, isTy_tuple_str, isTy_tuple_lst, isTy_tuple_tup, isTy_tuple_dct, isTy_list_non, isTy_list_bl, isTy_list_int, isTy_list_str, isTy_list_lst, isTy_list_tup, isTy_list_dct, isTy_dict_non, isTy_dict_bl, isTy_dict_int, isTy_dict_str, isTy_dict_lst, isTy_dict_tup, isTy_dict_dct, dIx_l, dIx_t, nLc_ap, gN_ap, goOn_nx, goOn_rt, goOn_rtO, sSeq_ap, sNext_ap, sSet_ap, sOwn_ap, sTgt_ap, sRet_ap, retO_own, sRetO_ap, sIf_ap, sDrop_ap, sFor_ap, sApp_ap, sParN_ap, sParNK_ap, sVia_ap, eCall_ap, eCallV_ap, val_d, val_o, fin_rt, fin_rtO, fin_nx, DL.start, List.map_cons, List.map_nil, List.length_cons, List.length_nil, List.replicate, List.cons_append, List.nil_append, List.getElem?_cons_zero, List.getElem?_cons_succ, List.set_cons_zero, List.set_cons_succ, wipeG, Nat.reduceSub, Nat.reduceAdd, Nat.reduceLT, Nat.reduceLeDiff, if_true, if_false, Bool.not_true, Bool.not_false, Option.bind_some, Option.map_some, decide_eq_false h]
    exact ⟨_, rfl⟩
theorem pow_18 : dPow (.int 10) (.int 18) = some (.int 1000000000000000000) := rfl
theorem law_draw_eq (ns : List Int) (k : Nat) (sizes : List Int) (hs : ∀ s ∈ sizes, 0 < s ∧ s < 1073741824) (hl : sizes.length ≤ 100) :
    ∃ ds, f__law_draw [.scr ns, .int k, .lst (sizes.map .int)] = some (.o (ds.map .int)) ∧ Fit ds sizes := by
  suffices H : Ob (f__law_draw [.scr ns, .int k, .lst (sizes.map .int)]) fun r => ∃ ds, r = .o (ds.map .int) ∧ Fit ds sizes by
    obtain ⟨r, h1, ds, rfl, h2⟩ := H; exact ⟨ds, h1, h2⟩
  refine ob_fn rfl ?_
  unfold s__law_draw
  obtain ⟨c0, hc0⟩ := law_cell_eq ns k
  simp -implicitDefEqProofs only [ob_some, ob_bind, ob_map, eC_ap, eN_ap, eV_ap, slotN_dat, slotV_dat, slotV_own, slotV_odc, e1_ap, e2_ap, n2_ap, nLen_ap, aN_ap, aC_ap, eApp_ap, eTup_ap, nLst_ap, mkTup_0, mkTup_1, mkTup_2, mkTup_3, mkTup_4, mkLst_0, eL_ap, tV_ap, asBl_bl, tU_ap, ifB_t, ifB_f, tAnd_ap, tOr_ap, tNot_ap, tYes_ap, eIf_ap, ifD_bl, eAnd_ap, eOr_ap, notD_bl, eNot_ap, eChain_ap, dAdd_i, dSub_i, dNeg_i, dLt_i, dLe_i, dGt_i, dGe_i, dIsN2_n, dNotB_b, dEq_i, dNe_i, dEq_b, dNe_b, dEq_s, dNe_s, dLen_l, dLen_t, dLen_s, dTupOf_l, dTupOf_t, nLstOf_l, nLstOf_t, dAbs_i, itemsD_l, itemsD_t, iSeq_ap, iSeqL_ap', seqL_l, iRng1_ap, iRng2_ap, iDown_ap, iEnum_ap, iZip_ap, zip2_l, isi_ap, isTy_int_non, isTy_int_bl, isTy_int_int, isTy_int_str, isTy_int_lst, isTy_int_tup, isTy_int_dct, isTy_bool_non, isTy_bool_bl, isTy_bool_int, isTy_bool_str, isTy_bool_lst, isTy_bool_tup, isTy_bool_dct, isTy_str_non, isTy_str_bl, isTy_str_int, isTy_str_str, isTy_str_lst, isTy_str_tup, isTy_str_dct, isTy_tuple_non, isTy_tuple_bl, isTy_tuple_int, isTy_tuple_str, isTy_tuple_lst, isTy_tuple_tup, isTy_tuple_dct, isTy_list_non, isTy_list_bl, isTy_list_int, isTy_list_str, isTy_list_lst, isTy_list_tup, isTy_list_dct, isTy_dict_non, isTy_dict_bl, isTy_dict_int, isTy_dict_str, isTy_dict_lst, isTy_dict_tup, isTy_dict_dct, dIx_l, dIx_t, nLc_ap, gN_ap, goOn_nx, goOn_rt, goOn_rtO, sSeq_ap, sNext_ap, sSet_ap, sOwn_ap, sTgt_ap, sRet_ap, retO_own, sRetO_ap, sIf_ap, sDrop_ap, sFor_ap, sApp_ap, sParN_ap, sParNK_ap, sVia_ap, eCall_ap, eCallV_ap, val_d, val_o, fin_rt, fin_rtO, fin_nx, DL.start, List.map_cons, List.map_nil, List.length_cons, List.length_nil, List.replicate, List.cons_append, List.nil_append, List.getElem?_cons_zero, List.getElem?_cons_succ, List.set_cons_zero, List.set_cons_succ, wipeG, Nat.reduceSub, Nat.reduceAdd, Nat.reduceLT, Nat.reduceLeDiff, if_true, if_false, Bool.not_true, Bool.not_false, Option.bind_some, Option.map_some, hc0]
  have go : ∀ (c : Int) (s4 s5 s6 s7 : Slot), Ob ((sSeq (sOwn 4 (nLst aN))
  (sSeq (sIf (tV (e2 dGe (eV 3) (e2 dPow (eC (.int 10)) (eC (.int 18))))) (sSeq (sSet 3 (e2 dSub (eV 3) (e2 dPow (eC (.int 10)) (eC (.int 18)))))
  (sSeq (sFor (iSeq (eN 2)) (gN 5)
  (sSeq (sApp 4 (e2 dMod (eV 3) (eV 5)))
  (sSet 3 (e2 dDiv (eV 3) (eV 5)))))
  (sRetO 4))) sNext)
  (sSeq (sSet 6 (e2 dMod (e2 dAdd (e2 dAdd (eV 3) (eC (.int 1))) (e2 dMul (eC (.int 31)) (eV 1))) (eC (.int 2147483647))))
  (sSeq (sFor (iRng1 (eApp dLen (aC (eV 2) aN))) (gN 7)
  (sSeq (sSet 6 (e2 dMod (e2 dAdd (e2 dAdd (e2 dMul (eV 6) (eC (.int 48271))) (eC (.int 11))) (eV 7)) (eC (.int 2147483647))))
  (sSeq (sSet 6 (e2 dMod (e2 dAdd (e2 dMul (eV 6) (eC (.int 69621))) (eC (.int 3))) (eC (.int 2147483647))))
  (sApp 4 (e2 dMod (e2 dDiv (eV 6) (eC (.int 7))) (e2 dIx (eV 2) (eV 7)))))))
  (sRetO 4))))) [.dat (.scr ns), .dat (.int k), .dat (.lst (sizes.map .int)), .dat (.int c), s4, s5, s6, s7]) fun o => Ob (fin (some o)) fun r => ∃ ds, r = .o (ds.map .int) ∧ Fit ds sizes := by
    intro c s4 s5 s6 s7
    simp -implicitDefEqProofs only [ob_some, ob_bind, ob_map, eC_ap, eN_ap, eV_ap, slotN_dat, slotV_dat, slotV_own, slotV_odc, e1_ap, e2_ap, n2_ap, nLen_ap, aN_ap, aC_ap, eApp_ap, eTup_ap, nLst_ap, mkTup_0, mkTup_1, mkTup_2, mkTup_3, mkTup_4, mkLst_0, eL_ap, tV_ap, asBl_bl, tU_ap, ifB_t, ifB_f, tAnd_ap, tOr_ap, tNot_ap, tYes_ap, eIf_ap, ifD_bl, eAnd_ap, eOr_ap, notD_bl, eNot_ap, eChain_ap, dAdd_i, dSub_i, dNeg_i, dLt_i, dLe_i, dGt_i, dGe_i, dIsN2_n, dNotB_b, dEq_i, dNe_i, dEq_b, dNe_b, dEq_s, dNe_s, dLen_l, dLen_t, dLen_s, dTupOf_l, dTupOf_t, nLstOf_l, nLstOf_t, dAbs_i, itemsD_l, itemsD_t, iSeq_ap, iSeqL_ap', seqL_l, iRng1_ap, iRng2_ap, iDown_ap, iEnum_ap, iZip_ap, zip2_l, isi_ap, isTy_int_non, isTy_int_bl, isTy_int_int, isTy_int_str, isTy_int_lst, isTy_int_tup, isTy_int_dct, isTy_bool_non, isTy_bool_bl, isTy_bool_int, isTy_bool_str, isTy_bool_lst, isTy_bool_tup, isTy_bool_dct, isTy_str_non, isTy_str_bl, isTy_str_int, isTy_str_str, isTy_str_lst, isTy_str_tup, isTy_str_dct, isTy_tuple_non, isTy_tuple_bl, isTy_tuple_int, isTy_tuple_str, isTy_tuple_lst, isTy_tuple_tup, isTy_tuple_dct, isTy_list_non, isTy_list_bl, isTy_list_int, isTy_list_str, isTy_list_lst, isTy_list_tup, isTy_list_dct, isTy_dict_non, isTy_dict_bl, isTy_dict_int, isTy_dict_str, isTy_dict_lst, isTy_dict_tup, isTy_dict_dct, dIx_l, dIx_t, nLc_ap, gN_ap, goOn_nx, goOn_rt, goOn_rtO, sSeq_ap, sNext_ap, sSet_ap, sOwn_ap, sTgt_ap, sRet_ap, retO_own, sRetO_ap, sIf_ap, sDrop_ap, sFor_ap, sApp_ap, sParN_ap, sParNK_ap, sVia_ap, eCall_ap, eCallV_ap, val_d, val_o, fin_rt, fin_rtO, fin_nx, DL.start, List.map_cons, List.map_nil, List.length_cons, List.length_nil, List.replicate, List.cons_append, List.nil_append, List.getElem?_cons_zero, List.getElem?_cons_succ, List.set_cons_zero, List.set_cons_succ, wipeG, Nat.reduceSub, Nat.reduceAdd, Nat.reduceLT, Nat.reduceLeDiff, if_true, if_false, Bool.not_true, Bool.not_false, Option.bind_some, Option.map_some, pow_18]
    by_cases hc : (1000000000000000000 : Int) ≤ c
    · simp -implicitDefEqProofs only [ob_some, ob_bind, ob_map, eC_ap, eN_ap, eV_ap, slotN_dat, slotV_dat, slotV_own, slotV_odc, e1_ap, e2_ap, n2_ap, nLen_ap, aN_ap, aC_ap, eApp_ap, eTup_ap, nLst_ap, mkTup_0, mkTup_1, mkTup_2, mkTup_3, mkTup_4, mkLst_0, eL_ap, tV_ap, asBl_bl, tU_ap, ifB_t, ifB_f, tAnd_ap, tOr_ap, tNot_ap, tYes_ap, eIf_ap, ifD_bl, eAnd_ap, eOr_ap, notD_bl, eNot_ap, eChain_ap, dAdd_i, dSub_i, dNeg_i, dLt_i, dLe_i, dGt_i, dGe_i, dIsN2_n, dNotB_b, dEq_i, dNe_i, dEq_b, dNe_b, dEq_s, dNe_s, dLen_l, dLen_t, dLen_s, dTupOf_l, dTupOf_t, nLstOf_l, nLstOf_t, dAbs_i, itemsD_l, itemsD_t, iSeq_ap, iSeqL_ap', seqL_l, iRng1_ap, iRng2_ap, iDown_ap, iEnum_ap, iZip_ap, zip2_l, isi_ap, isTy_int_non, isTy_int_bl, isTy_int_int, isTy_int_str, isTy_int_lst, isTy_int_tup, isTy_int_dct, isTy_bool_non, isTy_bool_bl, isTy_bool_int, isTy_bool_str, isTy_bool_lst, isTy_bool_tup, isTy_bool_dct, isTy_str_non, isTy_str_bl, isTy_str_int, isTy_str_str, isTy_str_lst, isTy_str_tup, isTy_str_dct, isTy_tuple_non, isTy_tuple_bl, isTy_tuple_int, isTy_tuple_str, isTy_tuple_lst, isTy_tuple_tup, isTy_tuple_dct, isTy_list_non, isTy_list_bl, isTy_list_int, isTy_list_str, isTy_list_lst, isTy_list_tup, isTy_list_dct, isTy_dict_non, isTy_dict_bl, isTy_dict_int, isTy_dict_str, isTy_dict_lst, isTy_dict_tup, isTy_dict_dct, dIx_l, dIx_t, nLc_ap, gN_ap, goOn_nx, goOn_rt, goOn_rtO, sSeq_ap, sNext_ap, sSet_ap, sOwn_ap, sTgt_ap, sRet_ap, retO_own, sRetO_ap, sIf_ap, sDrop_ap, sFor_ap, sApp_ap, sParN_ap, sParNK_ap, sVia_ap, eCall_ap, eCallV_ap, val_d, val_o, fin_rt, fin_rtO, fin_nx, DL.start, List.map_cons, List.map_nil, List.length_cons, List.length_nil, List.replicate, List.cons_append, List.nil_append, List.getElem?_cons_zero, List.getElem?_cons_succ, List.set_cons_zero, List.set_cons_succ, wipeG, Nat.reduceSub, Nat.reduceAdd, Nat.reduceLT, Nat.reduceLeDiff, if_true, if_false, Bool.not_true, Bool.not_false, Option.bind_some, Option.map_some, decide_eq_true hc, pow_18]
      refine ob_for .int (fun pre g => ∃ (ds : List Int) (c : Int) (s5 : Slot), g = [.dat (.scr ns), .dat (.int k), .dat (.lst (sizes.map .int)), .dat (.int c), .own (ds.map .int), s5, s6, s7] ∧ Fit ds pre) ?_ ?_ ?_
      · exact ⟨[], _, _, rfl, trivial⟩
      · rintro pre s post g e ⟨ds, c, s5, rfl, hf⟩
        have h1 := hs s (by rw [e]; simp)
        have h2 := fit_len _ _ hf
        have h3 : pre.length ≤ sizes.length := by rw [e]; simp
        simp -implicitDefEqProofs only [ob_some, ob_bind, ob_map, eC_ap, eN_ap, eV_ap, slotN_dat, slotV_dat, slotV_own, slotV_odc, e1_ap, e2_ap, n2_ap, nLen_ap, aN_ap, aC_ap, eApp_ap, eTup_ap, nLst_ap, mkTup_0, mkTup_1, mkTup_2, mkTup_3, mkTup_4, mkLst_0, eL_ap, tV_ap, asBl_bl, tU_ap, ifB_t, ifB_f, tAnd_ap, tOr_ap, tNot_ap, tYes_ap, eIf_ap, ifD_bl, eAnd_ap, eOr_ap, notD_bl, eNot_ap, eChain_ap, dAdd_i, dSub_i, dNeg_i, dLt_i, dLe_i, dGt_i, dGe_i, dIsN2_n, dNotB_b, dEq_i, dNe_i, dEq_b, dNe_b, dEq_s, dNe_s, dLen_l, dLen_t, dLen_s, dTupOf_l, dTupOf_t, nLstOf_l, nLstOf_t, dAbs_i, itemsD_l, itemsD_t, iSeq_ap, iSeqL_ap', seqL_l, iRng1_ap, iRng2_ap, iDown_ap, iEnum_ap, iZip_ap, zip2_l, isi_ap, isTy_int_non, isTy_int_bl, isTy_int_int, isTy_int_str, isTy_int_lst, isTy_int_tup, isTy_int_dct, isTy_bool_non, isTy_bool_bl, isTy_bool_int, isTy_bool_str, isTy_bool_lst, isTy_bool_tup, isTy_bool_dct, isTy_str_non, isTy_str_bl, isTy_str_int, isTy_str_str, isTy_str_lst, isTy_str_tup, isTy_str_dct, isTy_tuple_non, isTy_tuple_bl, isTy_tuple_int, isTy_tuple_str, isTy_tuple_lst, isTy_tuple_tup, isTy_tuple_dct, isTy_list_non, isTy_list_bl, isTy_list_int, isTy_list_str, isTy_list_lst, isTy_list_tup, isTy_list_dct, isTy_dict_non, isTy_dict_bl, isTy_dict_int, isTy_dict_str, isTy_dict_lst, isTy_dict_tup, isTy_dict_dct, dIx_l, dIx_t, nLc_ap, gN_ap, goOn_nx, goOn_rt, goOn_rtO, sSeq_ap, sNext_ap, sSet_ap, sOwn_ap, sTgt_ap, sRet_ap, retO_own, sRetO_ap, sIf_ap, sDrop_ap, sFor_ap, sApp_ap, sParN_ap, sParNK_ap, sVia_ap, eCall_ap, eCallV_ap, val_d, val_o, fin_rt, fin_rtO, fin_nx, DL.start, List.map_cons, List.map_nil, List.length_cons, List.length_nil, List.replicate, List.cons_append, List.nil_append, List.getElem?_cons_zero, List.getElem?_cons_succ, List.set_cons_zero, List.set_cons_succ, wipeG, Nat.reduceSub, Nat.reduceAdd, Nat.reduceLT, Nat.reduceLeDiff, if_true, if_false, Bool.not_true, Bool.not_false, Option.bind_some, Option.map_some, dMod_i _ _ h1.1, dDiv_i _ _ h1, appTo_own _ _ _ (ds.map .int) (by simp only [List.length_map, lim]; omega)]
        exact ⟨_, rfl, ds ++ [c % s], _, _, by simp; exact ⟨rfl, rfl⟩, fit_snoc _ _ _ _ hf (Int.emod_nonneg _ (by omega)) (Int.emod_lt_of_pos _ h1.1)⟩
      · rintro g ⟨ds, c, s5, rfl, hf⟩
        simp -implicitDefEqProofs only [ob_some, ob_bind, ob_map, eC_ap, eN_ap, eV_ap, slotN_dat, slotV_dat, slotV_own, slotV_odc, e1_ap, e2_ap, n2_ap, nLen_ap, aN_ap, aC_ap, eApp_ap, eTup_ap, nLst_ap, mkTup_0, mkTup_1, mkTup_2, mkTup_3, mkTup_4, mkLst_0, eL_ap, tV_ap, asBl_bl, tU_ap, ifB_t, ifB_f, tAnd_ap, tOr_ap, tNot_ap, tYes_ap, eIf_ap, ifD_bl, eAnd_ap, eOr_ap, notD_bl, eNot_ap, eChain_ap, dAdd_i, dSub_i, dNeg_i, dLt_i, dLe_i, dGt_i, dGe_i, dIsN2_n, dNotB_b, dEq_i, dNe_i, dEq_b, dNe_b, dEq_s, dNe_s, dLen_l, dLen_t, dLen_s, dTupOf_l, dTupOf_t, nLstOf_l, nLstOf_t, dAbs_i, itemsD_l, itemsD_t, iSeq_ap, iSeqL_ap', seqL_l, iRng1_ap, iRng2_ap, iDown_ap, iEnum_ap, iZip_ap, zip2_l, isi_ap, isTy_int_non, isTy_int_bl, isTy_int_int, isTy_int_str, isTy_int_lst, isTy_int_tup, isTy_int_dct, isTy_bool_non, isTy_bool_bl, isTy_bool_int, isTy_bool_str, isTy_bool_lst, isTy_bool_tup, isTy_bool_dct, isTy_str_non, isTy_str_bl, isTy_str_int, isTy_str_str, isTy_str_lst, isTy_str_tup, isTy_str_dct, isTy_tuple_non, isTy_tuple_bl, isTy_tuple_int, isTy_tuple_str, isTy_tuple_lst, isTy_tuple_tup, isTy_tuple_dct, isTy_list_non, isTy_list_bl, isTy_list_int, isTy_list_str, isTy_list_lst, isTy_list_tup, isTy_list_dct, isTy_dict_non, isTy_dict_bl, isTy_dict_int, isTy_dict_str, isTy_dict_lst, isTy_dict_tup, isTy_dict_dct, dIx_l, dIx_t, nLc_ap, gN_ap, goOn_nx, goOn_rt, goOn_rtO, sSeq_ap, sNext_ap, sSet_ap, sOwn_ap, sTgt_ap, sRet_ap, retO_own, sRetO_ap, sIf_ap, sDrop_ap, sFor_ap, sApp_ap, sParN_ap, sParNK_ap, sVia_ap, eCall_ap, eCallV_ap, val_d, val_o, fin_rt, fin_rtO, fin_nx, DL.start, List.map_cons, List.map_nil, List.length_cons, List.length_nil, List.replicate, List.cons_append, List.nil_append, List.getElem?_cons_zero, List.getElem?_cons_succ, List.set_cons_zero, List.set_cons_succ, wipeG, Nat.reduceSub, Nat.reduceAdd, Nat.reduceLT, Nat.reduceLeDiff, if_true, if_false, Bool.not_true, Bool.not_false, Option.bind_some, Option.map_some]
        exact ⟨_, rfl, hf⟩
    · simp -implicitDefEqProofs only [ob_some, ob_bind, ob_map, eC_ap, eN_ap, eV_ap, slotN_dat, slotV_dat, slotV_own, slotV_odc, e1_ap, e2_ap, n2_ap, nLen_ap, aN_ap, aC_ap, eApp_ap, eTup_ap, nLst_ap, mkTup_0, mkTup_1, mkTup_2, mkTup_3, mkTup_4, mkLst_0, eL_ap, tV_ap, asBl_bl, tU_ap, ifB_t, ifB_f, tAnd_ap, tOr_ap, tNot_ap, tYes_ap, eIf_ap, ifD_bl, eAnd_ap, eOr_ap, notD_bl, eNot_ap, eChain_ap, dAdd_i, dSub_i, dNeg_i, dLt_i, dLe_i, dGt_i, dGe_i, dIsN2_n, dNotB_b, dEq_i, dNe_i, dEq_b, dNe_b, dEq_s, dNe_s, dLen_l, dLen_t, dLen_s, dTupOf_l, dTupOf_t, nLstOf_l, nLstOf_t, dAbs_i, itemsD_l, itemsD_t, iSeq_ap, iSeqL_ap', seqL_l, iRng1_ap, iRng2_ap, iDown_ap, iEnum_ap, iZip_ap, zip2_l, isi_ap, isTy_int_non, isTy_int_bl, isTy_int_int, isTy_int_str, isTy_int_lst, isTy_int_tup, isTy_int_dct, isTy_bool_non, isTy_bool_bl, isTy_bool_int, isTy_bool_str, isTy_bool_lst, isTy_bool_tup, isTy_bool_dct, isTy_str_non, isTy_str_bl, isTy_str_int, isTy_str_str, isTy_str_lst, isTy_str_tup, isTy_str_dct, isTy_tuple_non, isTy_tuple_bl, isTy_tuple_int, isTy_tuple_str, isTy_tuple_lst, isTy_tuple_tup, isTy_tuple_dct, isTy_list_non, isTy_list_bl, isTy_list_int, isTy_list_str, isTy_list_lst, isTy_list_tup, isTy_list_dct, isTy_dict_non, isTy_dict_bl, isTy_dict_int, isTy_dict_str, isTy_dict_lst, isTy_dict_tup, isTy_dict_dct, dIx_l, dIx_t, nLc_ap, gN_ap, goOn_nx, goOn_rt, goOn_rtO, sSeq_ap, sNext_ap, sSet_ap, sOwn_ap, sTgt_ap, sRet_ap, retO_own, sRetO_ap, sIf_ap, sDrop_ap, sFor_ap, sApp_ap, sParN_ap, sParNK_ap, sVia_ap, eCall_ap, eCallV_ap, val_d, val_o, fin_rt, fin_rtO, fin_nx, DL.start, List.map_cons, List.map_nil, List.length_cons, List.length_nil, List.replicate, List.cons_append, List.nil_append, List.getElem?_cons_zero, List.getElem?_cons_succ, List.set_cons_zero, List.set_cons_succ, wipeG, Nat.reduceSub, Nat.reduceAdd, Nat.reduceLT, Nat.reduceLeDiff, if_true, if_false, Bool.not_true, Bool.not_false, Option.bind_some, Option.map_some, decide_eq_false hc, dMul_i2 31 _ (show small64 31 = true from rfl), dMod_i _ 2147483647 (by omega), List.length_map, rng1_i (sizes.length : Int) (by omega), Int.toNat_natCast]
      refine ob_for (fun j : Nat => D.int (j : Int)) (fun pre g => ∃ (ds : List Int) (m : Int) (s7 : Slot), g = [.dat (.scr ns), .dat (.int k), .dat (.lst (sizes.map .int)), .dat (.int c), .own (ds.map .int), s5, .dat (.int m), s7] ∧ Fit ds (sizes.take pre.length)) ?_ ?_ ?_
      · exact ⟨[], _, _, rfl, by simp [Fit]⟩
      · rintro pre j post g e ⟨ds, m, s7, rfl, hf⟩
        obtain ⟨hj, hj2⟩ := range_at e
        have h0 : sizes[j]? = some sizes[j] := List.getElem?_eq_getElem hj2
        have h1 := hs _ (List.getElem_mem hj2)
        have h2 := fit_len _ _ hf
        have a1 : atD (sizes.map .int) (j : Int) = some (.int sizes[j]) := atD_of _ _ _ (by omega) (by simp [h0])
        simp only [List.length_take] at h2
        simp -implicitDefEqProofs only [ob_some, ob_bind, ob_map, eC_ap, eN_ap, eV_ap, slotN_dat, slotV_dat, slotV_own, slotV_odc, e1_ap, e2_ap, n2_ap, nLen_ap, aN_ap, aC_ap, eApp_ap, eTup_ap, nLst_ap, mkTup_0, mkTup_1, mkTup_2, mkTup_3, mkTup_4, mkLst_0, eL_ap, tV_ap, asBl_bl, tU_ap, ifB_t, ifB_f, tAnd_ap, tOr_ap, tNot_ap, tYes_ap, eIf_ap, ifD_bl, eAnd_ap, eOr_ap, notD_bl, eNot_ap, eChain_ap, dAdd_i, dSub_i, dNeg_i, dLt_i, dLe_i, dGt_i, dGe_i, dIsN2_n, dNotB_b, dEq_i, dNe_i, dEq_b, dNe_b, dEq_s, dNe_s, dLen_l, dLen_t, dLen_s, dTupOf_l, dTupOf_t, nLstOf_l, nLstOf_t, dAbs_i, itemsD_l, itemsD_t, iSeq_ap, iSeqL_ap', seqL_l, iRng1_ap, iRng2_ap, iDown_ap, iEnum_ap, iZip_ap, zip2_l, isi_ap, isTy_int_non, isTy_int_bl, isTy_int_int, isTy_int_str, isTy_int_lst, isTy_int_tup, isTy_int_dct, isTy_bool_non, isTy_bool_bl, isTy_bool_int, isTy_bool_str, isTy_bool_lst, isTy_bool_tup, isTy_bool_dct, isTy_str_non, isTy_str_bl, isTy_str_int, isTy_str_str, isTy_str_lst, isTy_str_tup, isTy_str_dct, isTy_tuple_non, isTy_tuple_bl, isTy_tuple_int, isTy_tuple_str, isTy_tuple_lst, isTy_tuple_tup, isTy_tuple_dct, isTy_list_non, isTy_list_bl, isTy_list_int, isTy_list_str, isTy_list_lst, isTy_list_tup, isTy_list_dct, isTy_dict_non, isTy_dict_bl, isTy_dict_int, isTy_dict_str, isTy_dict_lst, isTy_dict_tup, isTy_dict_dct, dIx_l, dIx_t, nLc_ap, gN_ap, goOn_nx, goOn_rt, goOn_rtO, sSeq_ap, sNext_ap, sSet_ap, sOwn_ap, sTgt_ap, sRet_ap, retO_own, sRetO_ap, sIf_ap, sDrop_ap, sFor_ap, sApp_ap, sParN_ap, sParNK_ap, sVia_ap, eCall_ap, eCallV_ap, val_d, val_o, fin_rt, fin_rtO, fin_nx, DL.start, List.map_cons, List.map_nil, List.length_cons, List.length_nil, List.replicate, List.cons_append, List.nil_append, List.getElem?_cons_zero, List.getElem?_cons_succ, List.set_cons_zero, List.set_cons_succ, wipeG, Nat.reduceSub, Nat.reduceAdd, Nat.reduceLT, Nat.reduceLeDiff, if_true, if_false, Bool.not_true, Bool.not_false, Option.bind_some, Option.map_some, dMul_i _ 48271 (show small64 48271 = true from rfl), dMul_i _ 69621 (show small64 69621 = true from rfl), dMod_i _ 2147483647 (by omega), dDiv_i _ 7 (by omega), a1, dMod_i _ _ h1.1, appTo_own _ _ _ (ds.map .int) (by simp only [List.length_map, lim]; omega)]
        refine ⟨_, rfl, ds ++ [_], _, _, by simp; exact ⟨rfl, rfl, rfl⟩, ?_⟩
        have e2 : sizes.take (pre ++ [j]).length = sizes.take pre.length ++ [sizes[j]] := by
          subst hj; simp
        rw [e2]
        exact fit_snoc _ _ _ _ hf (Int.emod_nonneg _ (by omega)) (Int.emod_lt_of_pos _ h1.1)
      · rintro g ⟨ds, m, s7, rfl, hf⟩
        simp -implicitDefEqProofs only [ob_some, ob_bind, ob_map, eC_ap, eN_ap, eV_ap, slotN_dat, slotV_dat, slotV_own, slotV_odc, e1_ap, e2_ap, n2_ap, nLen_ap, aN_ap, aC_ap, eApp_ap, eTup_ap, nLst_ap, mkTup_0, mkTup_1, mkTup_2, mkTup_3, mkTup_4, mkLst_0, eL_ap, tV_ap, asBl_bl, tU_ap, ifB_t, ifB_f, tAnd_ap, tOr_ap, tNot_ap, tYes_ap, eIf_ap, ifD_bl, eAnd_ap, eOr_ap, notD_bl, eNot_ap, eChain_ap, dAdd_i, dSub_i, dNeg_i, dLt_i, dLe_i, dGt_i, dGe_i, dIsN2_n, dNotB_b, dEq_i, dNe_i, dEq_b, dNe_b, dEq_s, dNe_s, dLen_l, dLen_t, dLen_s, dTupOf_l, dTupOf_t, nLstOf_l, nLstOf_t, dAbs_i, itemsD_l, itemsD_t, iSeq_ap, iSeqL_ap', seqL_l, iRng1_ap, iRng2_ap, iDown_ap, iEnum_ap, iZip_ap, zip2_l, isi_ap, isTy_int_non, isTy_int_bl, isTy_int_int, isTy_int_str, isTy_int_lst, isTy_int_tup, isTy_int_dct, isTy_bool_non, isTy_bool_bl, isTy_bool_int, isTy_bool_str, isTy_bool_lst, isTy_bool_tup, isTy_bool_dct, isTy_str_non, isTy_str_bl, isTy_str_int, isTy_str_str, isTy_str_lst, isTy_str_tup, isTy_str_dct, isTy_tuple_non, isTy_tuple_bl, isTy_tuple_int, isTy_tuple_str, isTy_tuple_lst, isTy_tuple_tup, isTy_tuple_dct, isTy_list_non, isTy_list_bl, isTy_list_int, isTy_list_str, isTy_list_lst, isTy_list_tup, isTy_list_dct, isTy_dict_non, isTy_dict_bl, isTy_dict_int, isTy_dict_str, isTy_dict_lst, isTy_dict_tup, isTy_dict_dct, dIx_l, dIx_t, nLc_ap, gN_ap, goOn_nx, goOn_rt, goOn_rtO, sSeq_ap, sNext_ap, sSet_ap, sOwn_ap, sTgt_ap, sRet_ap, retO_own, sRetO_ap, sIf_ap, sDrop_ap, sFor_ap, sApp_ap, sParN_ap, sParNK_ap, sVia_ap, eCall_ap, eCallV_ap, val_d, val_o, fin_rt, fin_rtO, fin_nx, DL.start, List.map_cons, List.map_nil, List.length_cons, List.length_nil, List.replicate, List.cons_append, List.nil_append, List.getElem?_cons_zero, List.getElem?_cons_succ, List.set_cons_zero, List.set_cons_succ, wipeG, Nat.reduceSub, Nat.reduceAdd, Nat.reduceLT, Nat.reduceLeDiff, if_true, if_false, Bool.not_true, Bool.not_false, Option.bind_some, Option.map_some]
        refine ⟨_, rfl, ?_⟩
        simpa using hf
  by_cases h0 : c0 < 0
  · simp -implicitDefEqProofs only [ob_some, ob_bind, ob_map, eC_ap, eN_ap, eV_ap, slotN_dat, slotV_dat, slotV_own, slotV_odc, e1_ap, e2_ap, n2_ap, nLen_ap, aN_ap, aC_ap, eApp_ap, eTup_ap, nLst_ap, mkTup_0, mkTup_1, mkTup_2, mkTup_3, mkTup_4, mkLst_0, eL_ap, tV_ap, asBl_bl, tU_ap, ifB_t, ifB_f, tAnd_ap, tOr_ap, tNot_ap, tYes_ap, eIf_ap, ifD_bl, eAnd_ap, eOr_ap, notD_bl, eNot_ap, eChain_ap, dAdd_i, dSub_i, dNeg_i, dLt_i, dLe_i, dGt_i, dGe_i, dIsN2_n, dNotB_b, dEq_i, dNe_i, dEq_b, dNe_b, dEq_s, dNe_s, dLen_l, dLen_t, dLen_s, dTupOf_l, dTupOf_t, nLstOf_l, nLstOf_t, dAbs_i, itemsD_l, itemsD_t, iSeq_ap, iSeqL_ap', seqL_l, iRng1_ap, iRng2_ap, iDown_ap, iEnum_ap, iZip_ap, zip2_l, isi_ap, isTy_int_non, isTy_int_bl, isTy_int_int, isTy_int_str, isTy_int_lst, isTy_int_tup, isTy_int_dct, isTy_bool_non, isTy_bool_bl, isTy_bool_int, isTy_bool_str, isTy_bool_lst, isTy_bool_tup, isTy_bool_dct, isTy_str_non, isTy_str_bl, isTy_str_int, isTy_str_str, isTy_str_lst, isTy_str_tup, isTy_str_dct, isTy_tuple_non, isTy_tuple_bl, isTy_tuple_int, isTy_tuple_str, isTy_tuple_lst, isTy_tuple_tup, isTy_tuple_dct, isTy_list_non, isTy_list_bl, isTy_list_int, isTy_list_str, isTy_list_lst, isTy_list_tup, isTy_list_dct, isTy_dict_non, isTy_dict_bl, isTy_dict_int, isTy_dict_str, isTy_dict_lst, isTy_dict_tup, isTy_dict_dct, dIx_l, dIx_t, nLc_ap, gN_ap, goOn_nx, goOn_rt, goOn_rtO, sSeq_ap, sNext_ap, sSet_ap, sOwn_ap, sTgt_ap, sRet_ap, retO_own, sRetO_ap, sIf_ap, sDrop_ap, sFor_ap, sApp_ap, sParN_ap, sParNK_ap, sVia_ap, eCall_ap, eCallV_ap, val_d, val_o, fin_rt, fin_rtO, fin_nx, DL.start, List.map_cons, List.map_nil, List.length_cons, List.length_nil, List.replicate, List.cons_append, List.nil_append, List.getElem?_cons_zero, List.getElem?_cons_succ, List.set_cons_zero, List.set_cons_succ, wipeG, Nat.reduceSub, Nat.reduceAdd, Nat.reduceLT, Nat.reduceLeDiff, if_true, if_false, Bool.not_true, Bool.not_false, Option.bind_some, Option.map_some, decide_eq_true h0]
    have := go (-c0) .un .un .un .un
    simp -implicitDefEqProofs only [ob_some, ob_bind, ob_map, eC_ap, eN_ap, eV_ap, slotN_dat, slotV_dat, slotV_own, slotV_odc, e1_ap, e2_ap, n2_ap, nLen_ap, aN_ap, aC_ap, eApp_ap, eTup_ap, nLst_ap, mkTup_0, mkTup_1, mkTup_2, mkTup_3, mkTup_4, mkLst_0, eL_ap, tV_ap, asBl_bl, tU_ap, ifB_t, ifB_f, tAnd_ap, tOr_ap, tNot_ap, tYes_ap, eIf_ap, ifD_bl, eAnd_ap, eOr_ap, notD_bl, eNot_ap, eChain_ap, dAdd_i, dSub_i, dNeg_i, dLt_i, dLe_i, dGt_i, dGe_i, dIsN2_n, dNotB_b, dEq_i, dNe_i, dEq_b, dNe_b, dEq_s, dNe_s, dLen_l, dLen_t, dLen_s, dTupOf_l, dTupOf_t, nLstOf_l, nLstOf_t, dAbs_i, itemsD_l, itemsD_t, iSeq_ap, iSeqL_ap', seqL_l, iRng1_ap, iRng2_ap, iDown_ap, iEnum_ap, iZip_ap, zip2_l, isi_ap, isTy_int_non, isTy_int_bl, isTy_int_int, isTy_int_str, isTy_int_lst, isTy_int_tup, isTy_int_dct, isTy_bool_non, isTy_bool_bl, isTy_bool_int, isTy_bool_str, isTy_bool_lst, isTy_bool_tup, isTy_bool_dct, isTy_str_non, isTy_str_bl, isTy_str_int, isTy_str_str, isTy_str_lst, isTy_str_tup, isTy_str_dct, isTy_tuple_non, isTy_tuple_bl, isTy_tuple_int, isTy_tuple_str, isTy_tuple_lst, isTy_tuple_tup, isTy_tuple_dct, isTy_list_non, isTy_list_bl, isTy_list_int, isTy_list_str, isTy_list_lst, isTy_list_tup, isTy_list_dct, isTy_dict_non, isTy_dict_bl, isTy_dict_int, isTy_dict_str, isTy_dict_lst, isTy_dict_tup, isTy_dict_dct, dIx_l, dIx_t, nLc_ap, gN_ap, goOn_nx, goOn_rt, goOn_rtO, sSeq_ap, sNext_ap, sSet_ap, sOwn_ap, sTgt_ap, sRet_ap, retO_own, sRetO_ap, sIf_ap, sDrop_ap, sFor_ap, sApp_ap, sParN_ap, sParNK_ap, sVia_ap, eCall_ap, eCallV_ap, val_d, val_o, fin_rt, fin_rtO, fin_nx, DL.start, List.map_cons, List.map_nil, List.length_cons, List.length_nil, List.replicate, List.cons_append, List.nil_append, List.getElem?_cons_zero, List.getElem?_cons_succ, List.set_cons_zero, List.set_cons_succ, wipeG, Nat.reduceSub, Nat.reduceAdd, Nat.reduceLT, Nat.reduceLeDiff, if_true, if_false, Bool.not_true, Bool.not_false, Option.bind_some, Option.map_some] at this
    exact this
  · simp -implicitDefEqProofs only [ob_some, ob_bind, ob_map, eC_ap, eN_ap, eV_ap, slotN_dat, slotV_dat, slotV_own, slotV_odc, e1_ap, e2_ap, n2_ap, nLen_ap, aN_ap, aC_ap, eApp_ap, eTup_ap, nLst_ap, mkTup_0, mkTup_1, mkTup_2, mkTup_3, mkTup_4, mkLst_0, eL_ap, tV_ap, asBl_bl, tU_ap, ifB_t, ifB_f, tAnd_ap, tOr_ap, tNot_ap, tYes_ap, eIf_ap, ifD_bl, eAnd_ap, eOr_ap, notD_bl, eNot_ap, eChain_ap, dAdd_i, dSub_i, dNeg_i, dLt_i, dLe_i, dGt_i, dGe_i, dIsN2_n, dNotB_b, dEq_i, dNe_i, dEq_b, dNe_b, dEq_s, dNe_s, dLen_l, dLen_t, dLen_s, dTupOf_l, dTupOf_t, nLstOf_l, nLstOf_t, dAbs_i, itemsD_l, itemsD_t, iSeq_ap, iSeqL_ap', seqL_l, iRng1_ap, iRng2_ap, iDown_ap, iEnum_ap, iZip_ap, zip2_l, isi_ap, isTy_int_non, isTy_int_bl, isTy_int_int, isTy_int_str, isTy_int_lst, isTy_int_tup, isTy_int_dct, isTy_bool_non, isTy_bool_bl, isTy_bool_int, isTy_bool_str, isTy_bool_lst, isTy_bool_tup, isTy_bool_dct, isTy_str_non, isTy_str_bl, isTy_str_int, isTy_str_str, isTy_str_lst, isTy_str_tup, isTy_str_dct, isTy_tuple_non, isTy_tuple_bl, isTy_tuple_int, isTy_tuple_str, isTy_tuple_lst, isTy_tuple_tup, isTy_tuple_dct, isTy_list_non, isTy_list_bl, isTy_list_int, isTy_list_str, isTy_list_lst, isTy_list_tup, isTy_list_dct, isTy_dict_non, isTy_dict_bl, isTy_dict_int, isTy_dict_str, isTy_dict_lst, isTy_dict_tup, isTy_dict_dct, dIx_l, dIx_t, nLc_ap, gN_ap, goOn_nx, goOn_rt, goOn_rtO, sSeq_ap, sNext_ap, sSet_ap, sOwn_ap, sTgt_ap, sRet_ap, retO_own, sRetO_ap, sIf_ap, sDrop_ap, sFor_ap, sApp_ap, sParN_ap, sParNK_ap, sVia_ap, eCall_ap, eCallV_ap, val_d, val_o, fin_rt, fin_rtO, fin_nx, DL.start, List.map_cons, List.map_nil, List.length_cons, List.length_nil, List.replicate, List.cons_append, List.nil_append, List.getElem?_cons_zero, List.getElem?_cons_succ, List.set_cons_zero, List.set_cons_succ, wipeG, Nat.reduceSub, Nat.reduceAdd, Nat.reduceLT, Nat.reduceLeDiff, if_true, if_false, Bool.not_true, Bool.not_false, Option.bind_some, Option.map_some, decide_eq_false h0]
    have := go c0 .un .un .un .un
    simp -implicitDefEqProofs only [ob_some, ob_bind, ob_map, eC_ap, eN_ap, eV_ap, slotN_dat, slotV_dat, slotV_own, slotV_odc, e1_ap, e2_ap, n2_ap, nLen_ap, aN_ap, aC_ap, eApp_ap, eTup_ap, nLst_ap, mkTup_0, mkTup_1, mkTup_2, mkTup_3, mkTup_4, mkLst_0, eL_ap, tV_ap, asBl_bl, tU_ap, ifB_t, ifB_f, tAnd_ap, tOr_ap, tNot_ap, tYes_ap, eIf_ap, ifD_bl, eAnd_ap, eOr_ap, notD_bl, eNot_ap, eChain_ap, dAdd_i, dSub_i, dNeg_i, dLt_i, dLe_i, dGt_i, dGe_i, dIsN2_n, dNotB_b, dEq_i, dNe_i, dEq_b, dNe_b, dEq_s, dNe_s, dLen_l, dLen_t, dLen_s, dTupOf_l, dTupOf_t, nLstOf_l, nLstOf_t, dAbs_i, itemsD_l, itemsD_t, iSeq_ap, iSeqL_ap', seqL_l, iRng1_ap, iRng2_ap, iDown_ap, iEnum_ap, iZip_ap, zip2_l, isi_ap, isTy_int_non, isTy_int_bl, isTy_int_int, isTy_int_str, isTy_int_lst, isTy_int_tup, isTy_int_dct, isTy_bool_non, isTy_bool_bl, isTy_bool_int, isTy_bool_str, isTy_bool_lst, isTy_bool_tup, isTy_bool_dct, isTy_str_non, isTy_str_bl, isTy_str_int, isTy_str_str, isTy_str_lst, isTy_str_tup, isTy_str_dct, isTy_tuple_non, isTy_tuple_bl, isTy_tuple_int, isTy_tuple_str, isTy_tuple_lst, isTy_tuple_tup, isTy_tuple_dct, isTy_list_non, isTy_list_bl, isTy_list_int, isTy_list_str, isTy_list_lst, isTy_list_tup, isTy_list_dct, isTy_dict_non, isTy_dict_bl, isTy_dict_int, isTy_dict_str, isTy_dict_lst, isTy_dict_tup, isTy_dict_dct, dIx_l, dIx_t, nLc_ap, gN_ap, goOn_nx, goOn_rt, goOn_rtO, sSeq_ap, sNext_ap, sSet_ap, sOwn_ap, sTgt_ap, sRet_ap, retO_own, sRetO_ap, sIf_ap, sDrop_ap, sFor_ap, sApp_ap, sParN_ap, sParNK_ap, sVia_ap, eCall_ap, eCallV_ap, val_d, val_o, fin_rt, fin_rtO, fin_nx, DL.start, List.map_cons, List.map_nil, List.length_cons, List.length_nil, List.replicate, List.cons_append, List.nil_append, List.getElem?_cons_zero, List.getElem?_cons_succ, List.set_cons_zero, List.set_cons_succ, wipeG, Nat.reduceSub, Nat.reduceAdd, Nat.reduceLT, Nat.reduceLeDiff, if_true, if_false, Bool.not_true, Bool.not_false, Option.bind_some, Option.map_some] at this
    exact this
end Gk00
end
/-! T11 -/
section
set_option linter.all false
namespace Gk00
open PySem DL DM

/-! laid rows -/
theorem eqDs_int (a b : List Int) : eqDs (a.map .int) (b.map .int) = (a == b) := by
  induction a generalizing b with
  | nil => cases b <;> rfl
  | cons x a ih => cases b with
    | nil => rfl
    | cons y b => simp [eqDs, eqD, ih]
theorem okDs_int (n : Nat) (a : List Int) : okDs n (a.map .int) = true := by
  induction a with
  | nil => cases n <;> rfl
  | cons x a ih => cases n <;> simp_all [okDs, okD]
theorem okDs_tI (n : Nat) (a : List (List Int)) : okDs (n + 1) (a.map tI) = true := by
  induction a with
  | nil => rfl
  | cons x a ih => simp [okDs, okD, tI, okDs_int, ih]
theorem memD_tI (r : List Int) (rows : List (List Int)) : memD (tI r) (rows.map tI) = decide (r ∈ rows) := by
  unfold memD
  rw [List.any_map, Bool.eq_iff_iff]
  simp only [List.any_eq_true, Function.comp, tI, eqD, eqDs_int, beq_iff_eq, decide_eq_true_eq]
  constructor
  · rintro ⟨x, hx, rfl⟩; exact hx
  · intro h; exact ⟨r, h, rfl⟩
theorem notin_tI (r : List Int) (rows : List (List Int)) : dNotIn (tI r) (.lst (rows.map tI)) = some (.bl (!decide (r ∈ rows))) := by
  have h1 : okD 50 (tI r) = true := by simp [tI, okD, okDs_int]
  have h2 : okDs 50 (rows.map tI) = true := okDs_tI 49 rows
  have h3 := memD_tI r rows
  simp only [tI] at h1 h2 h3 ⊢
  simp only [dNotIn, h1, h2, Bool.and_self, if_true]
  exact congrArg (fun b => some (D.bl (!b))) h3
theorem notin_nD (v : Nat) (W : List Nat) : dNotIn (.int (v : Int)) (.lst (nD W)) = some (.bl (!decide (v ∈ W))) := by
  have := in_nD v W
  simp only [dIn] at this
  simp only [dNotIn]
  split at this
  · rename_i h; rw [if_pos h]; simp at this; simp [this]
  · cases this
theorem len_insBy {α : Type} (le : α → α → Bool) (x : α) (l : List α) : (insBy le x l).length = l.length + 1 := by
  induction l with
  | nil => rfl
  | cons z l ih => simp only [insBy]; split <;> simp [ih]
theorem len_sortBy {α : Type} (le : α → α → Bool) (l : List α) : (sortBy le l).length = l.length := by
  induction l with
  | nil => rfl
  | cons z l ih => simp [sortBy, len_insBy, ih]
theorem mem_sortBy {α : Type} (le : α → α → Bool) (l : List α) (y : α) : y ∈ sortBy le l ↔ y ∈ l := by
  induction l with
  | nil => exact Iff.rfl
  | cons x l ih => simp only [sortBy, mem_insBy, ih, List.mem_cons]
theorem insP_asc (x : Int × Int) (l : List (Int × Int)) (h : l.Pairwise (fun a b => a.1 < b.1)) (hx : ∀ y ∈ l, y.1 ≠ x.1) : (insBy leP x l).Pairwise (fun a b => a.1 < b.1) := by
  induction l with
  | nil => simp [insBy]
  | cons z l ih =>
    rw [List.pairwise_cons] at h
    have hz := hx z List.mem_cons_self
    simp only [insBy]; split
    · rename_i hle
      have hle : x.1 < z.1 := by
        simp only [leP, Bool.or_eq_true, Bool.and_eq_true, decide_eq_true_eq] at hle
        rcases hle with h1 | ⟨h1, _⟩
        · exact h1
        · exact (hz h1.symm).elim
      rw [List.pairwise_cons]
      refine ⟨?_, List.pairwise_cons.mpr h⟩
      intro y hy; rw [List.mem_cons] at hy
      rcases hy with rfl | hy
      · exact hle
      · have := h.1 y hy; omega
    · rename_i hle
      have hle : z.1 < x.1 := by
        simp only [leP, Bool.or_eq_true, Bool.and_eq_true, decide_eq_true_eq, not_or] at hle
        have := hle.1; omega
      rw [List.pairwise_cons]
      refine ⟨?_, ih h.2 fun y hy => hx y (List.mem_cons_of_mem _ hy)⟩
      intro y hy; rw [mem_insBy] at hy
      rcases hy with rfl | hy
      · exact hle
      · exact h.1 y hy
theorem sortP_asc (l : List (Int × Int)) (h : (l.map (·.1)).Nodup) : (sortP l).Pairwise (fun a b => a.1 < b.1) := by
  induction l with
  | nil => exact List.Pairwise.nil
  | cons x l ih =>
    rw [List.map_cons, List.nodup_cons] at h
    refine insP_asc x _ (ih h.2) ?_
    intro y hy e
    rw [show sortBy leP l = sortP l from rfl] at hy
    rw [sortP, mem_sortBy] at hy
    exact h.1 (e ▸ List.mem_map_of_mem hy)
def rowOf (own : List Int) : List Int := (sortP (own.map fun l => ((l.natAbs : Int), l))).map (·.2)
theorem rowOf_len (own : List Int) : (rowOf own).length = own.length := by simp [rowOf, sortP, len_sortBy]
theorem rowOf_mem (own : List Int) (l : Int) : l ∈ rowOf own ↔ l ∈ own := by
  unfold rowOf sortP
  simp only [List.mem_map, mem_sortBy]
  constructor
  · rintro ⟨p, ⟨x, hx, rfl⟩, rfl⟩; exact hx
  · intro h; exact ⟨_, ⟨l, h, rfl⟩, rfl⟩
theorem rowOf_asc (own : List Int) (h : (own.map Int.natAbs).Nodup) : (rowOf own).Pairwise (fun a b => a.natAbs < b.natAbs) := by
  unfold rowOf
  rw [List.pairwise_map]
  have h1 := sortP_asc (own.map fun l => ((l.natAbs : Int), l)) (by
    rw [List.map_map]
    have : ((fun p : Int × Int => p.1) ∘ fun l : Int => ((l.natAbs : Int), l)) = (fun n : Nat => (n : Int)) ∘ Int.natAbs := rfl
    rw [this, ← List.map_map]
    rw [List.Nodup, List.pairwise_map]
    exact h.imp (by intro a b h; omega))
  refine h1.imp_of_mem ?_
  intro p q hp hq hpq
  have e : ∀ p ∈ sortP (own.map fun l => ((l.natAbs : Int), l)), p.1 = (p.2.natAbs : Int) := by
    intro p hp
    rw [sortP, mem_sortBy, List.mem_map] at hp
    obtain ⟨x, _, rfl⟩ := hp; rfl
  have e1 := e p hp
  have e2 := e q hq
  omega
theorem sortP_l (own : List Int) : nSortP [.lst (own.map fun l => .tup [.int (l.natAbs : Int), .int l])] = some ((sortP (own.map fun l => ((l.natAbs : Int), l))).map pairD) := by
  have e : (own.map fun l => D.tup [.int (l.natAbs : Int), .int l]).mapM asPair = some (own.map fun l => ((l.natAbs : Int), l)) := by
    induction own with
    | nil => rfl
    | cons x l ih => simp [List.mapM_cons, ih, asPair]
  simp only [nSortP, e, Option.map_some]
theorem valid_more {b : Nat} {rows : List (List Int)} (v : Valid b rows) (r : List Int) (h : Cl (b + rows.length) r) (h1 : r.length ≠ 1) (h2 : r ∉ rows) (h3 : r.length ≤ 3) (h4 : rows.length ≤ 8) : Valid b (rows ++ [r]) := by
  refine ⟨?_, ?_, ?_, by simp; omega⟩
  · intro k x hx
    by_cases hk : k < rows.length
    · rw [List.getElem?_append_left hk] at hx; exact v.cl k x hx
    · rw [List.getElem?_append_right (by omega)] at hx
      cases hk2 : k - rows.length with
      | zero => rw [hk2] at hx; simp at hx; subst hx; rw [show k = rows.length by omega]; exact ⟨h, h1⟩
      | succ j => rw [hk2] at hx; simp at hx
  · rw [List.nodup_append]; refine ⟨v.nd, by simp, ?_⟩
    intro x hx y hy; simp at hy; subst hy; intro e; subst e; exact h2 hx
  · intro x hx; rw [List.mem_append] at hx
    rcases hx with hx | hx
    · exact v.sz x hx
    · simp at hx; subst hx; exact h3
theorem valid_nil (b : Nat) : Valid b [] := ⟨by intro k r h; simp at h, List.nodup_nil, by simp, by simp⟩
end Gk00
end
/-! T12 -/
section
set_option linter.all false
namespace Gk00
open PySem DL DM

theorem oS_ap (a : M D) (g : G) (i : Int) (h : a g = some (.int i)) : oS a g = some (some i) := by simp [oS, h]
def oSi : D → Option (Option Int)
  | .int i => some (some i)
  | _ => none
theorem oS_ap' (a : M D) (g : G) : oS a g = (a g).bind oSi := by unfold oS; congr 1
theorem oSi_i (i : Int) : oSi (.int i) = some (some i) := rfl
def slD (l h : Option Int) : D → Option D
  | .lst ds => some (.lst (cutD ds l h))
  | .tup ds => some (.tup (cutD ds l h))
  | _ => none
theorem eSl_ap (a : M D) (lo hi : M (Option Int)) (g : G) : eSl a lo hi g = (a g).bind fun x => (lo g).bind fun l => (hi g).bind fun h => slD l h x := by
  unfold eSl; congr 1
theorem slD_l (l h : Option Int) (ds : List D) : slD l h (.lst ds) = some (.lst (cutD ds l h)) := rfl
theorem slD_t (l h : Option Int) (ds : List D) : slD l h (.tup ds) = some (.tup (cutD ds l h)) := rfl
/-- a slice of ints -/
theorem cut_int (l : List Int) (lo hi : Int) (h : 0 ≤ lo) (h2 : lo ≤ hi) : cutD (l.map .int) (some lo) (some hi) = (((l.drop lo.toNat).take (hi.toNat - lo.toNat)).map .int) := by
  unfold cutD clip
  simp only [if_neg (show ¬ lo < 0 by omega), if_neg (show ¬ hi < 0 by omega), List.length_map]
  rw [← List.map_drop, ← List.map_take]
  congr 1
  by_cases h3 : lo.toNat ≤ l.length
  · rw [Nat.min_eq_left h3]
    by_cases h4 : hi.toNat ≤ l.length
    · rw [Nat.min_eq_left h4]
    · rw [Nat.min_eq_right (by omega), List.take_of_length_le (by simp), List.take_of_length_le (by simp; omega)]
  · rw [List.drop_eq_nil_of_le (by omega), List.drop_eq_nil_of_le (by omega)]; simp
theorem nD_abs (own : List Int) : (own.map fun l => D.int (l.natAbs : Int)) = nD (own.map Int.natAbs) := by simp [nD]
theorem neg_abs (n : Nat) : (-(n : Int)).natAbs = n := by omega
theorem law_rows_eq (cells : List Int) (hc : cells.length = 32) (b : Nat) (h2 : 2 ≤ b) (h4 : b ≤ 4) :
    ∃ rows, f__law_rows [.lst (cells.map .int), .int b] = some (.o (rows.map tI)) ∧ Valid b rows ∧ rows.length ≤ 8 := by
  suffices H : Ob (f__law_rows [.lst (cells.map .int), .int b]) fun r => ∃ rows, r = .o (rows.map tI) ∧ Valid b rows ∧ rows.length ≤ 8 by
    obtain ⟨r, h1, ds, rfl, h2⟩ := H; exact ⟨ds, h1, h2⟩
  refine ob_fn rfl ?_
  unfold s__law_rows
  simp -implicitDefEqProofs only [ob_some, ob_bind, ob_map, eC_ap, eN_ap, eV_ap, slotN_dat, slotV_dat, slotV_own, slotV_odc, e1_ap, e2_ap, n2_ap, nLen_ap, aN_ap, aC_ap, eApp_ap, eTup_ap, nLst_ap, mkTup_0, mkTup_1, mkTup_2, mkTup_3, mkTup_4, mkLst_0, eL_ap, tV_ap, asBl_bl, tU_ap, ifB_t, ifB_f, tAnd_ap, tOr_ap, tNot_ap, tYes_ap, eIf_ap, ifD_bl, eAnd_ap, eOr_ap, notD_bl, eNot_ap, eChain_ap, dAdd_i, dSub_i, dNeg_i, dLt_i, dLe_i, dGt_i, dGe_i, dIsN2_n, dNotB_b, dEq_i, dNe_i, dEq_b, dNe_b, dEq_s, dNe_s, dLen_l, dLen_t, dLen_s, dTupOf_l, dTupOf_t, nLstOf_l, nLstOf_t, dAbs_i, itemsD_l, itemsD_t, iSeq_ap, iSeqL_ap', seqL_l, iRng1_ap, iRng2_ap, iDown_ap, iEnum_ap, iZip_ap, zip2_l, isi_ap, isTy_int_non, isTy_int_bl, isTy_int_int, isTy_int_str, isTy_int_lst, isTy_int_tup, isTy_int_dct, isTy_bool_non, isTy_bool_bl, isTy_bool_int, isTy_bool_str, isTy_bool_lst, isTy_bool_tup, isTy_bool_dct, isTy_str_non, isTy_str_bl, isTy_str_int, isTy_str_str, isTy_str_lst, isTy_str_tup, isTy_str_dct, isTy_tuple_non, isTy_tuple_bl, isTy_tuple_int, isTy_tuple_str, isTy_tuple_lst, isTy_tuple_tup, isTy_tuple_dct, isTy_list_non, isTy_list_bl, isTy_list_int, isTy_list_str, isTy_list_lst, isTy_list_tup, isTy_list_dct, isTy_dict_non, isTy_dict_bl, isTy_dict_int, isTy_dict_str, isTy_dict_lst, isTy_dict_tup, isTy_dict_dct, dIx_l, dIx_t, nLc_ap, gN_ap, goOn_nx, goOn_rt, goOn_rtO, sSeq_ap, sNext_ap, sSet_ap, sOwn_ap, sTgt_ap, sRet_ap, retO_own, sRetO_ap, sIf_ap, sDrop_ap, sFor_ap, sApp_ap, sParN_ap, sParNK_ap, sVia_ap, eCall_ap, eCallV_ap, val_d, val_o, fin_rt, fin_rtO, fin_nx, DL.start, List.map_cons, List.map_nil, List.length_cons, List.length_nil, List.replicate, List.cons_append, List.nil_append, List.getElem?_cons_zero, List.getElem?_cons_succ, List.set_cons_zero, List.set_cons_succ, wipeG, Nat.reduceSub, Nat.reduceAdd, Nat.reduceLT, Nat.reduceLeDiff, if_true, if_false, Bool.not_true, Bool.not_false, Option.bind_some, Option.map_some, rng1_i 8 (by omega)]
  refine ob_for (fun j : Nat => D.int (j : Int)) (fun pre g => ∃ (rows : List (List Int)) (s3 s4 s5 s6 s7 s8 s9 s10 : Slot), g = [.dat (.lst (cells.map .int)), .dat (.int b), .own (rows.map tI), s3, s4, s5, s6, s7, s8, s9, s10] ∧ Valid b rows ∧ rows.length ≤ pre.length) ?_ ?_ ?_
  · exact ⟨[], _, _, _, _, _, _, _, _, rfl, valid_nil b, by simp⟩
  · rintro pre j post g e ⟨rows, s3, s4, s5, s6, s7, s8, s9, s10, rfl, v, hr⟩
    obtain ⟨hj, hj2⟩ := range_at e
    have hj3 : j < 8 := hj2
    simp -implicitDefEqProofs only [ob_some, ob_bind, ob_map, eC_ap, eN_ap, eV_ap, slotN_dat, slotV_dat, slotV_own, slotV_odc, e1_ap, e2_ap, n2_ap, nLen_ap, aN_ap, aC_ap, eApp_ap, eTup_ap, nLst_ap, mkTup_0, mkTup_1, mkTup_2, mkTup_3, mkTup_4, mkLst_0, eL_ap, tV_ap, asBl_bl, tU_ap, ifB_t, ifB_f, tAnd_ap, tOr_ap, tNot_ap, tYes_ap, eIf_ap, ifD_bl, eAnd_ap, eOr_ap, notD_bl, eNot_ap, eChain_ap, dAdd_i, dSub_i, dNeg_i, dLt_i, dLe_i, dGt_i, dGe_i, dIsN2_n, dNotB_b, dEq_i, dNe_i, dEq_b, dNe_b, dEq_s, dNe_s, dLen_l, dLen_t, dLen_s, dTupOf_l, dTupOf_t, nLstOf_l, nLstOf_t, dAbs_i, itemsD_l, itemsD_t, iSeq_ap, iSeqL_ap', seqL_l, iRng1_ap, iRng2_ap, iDown_ap, iEnum_ap, iZip_ap, zip2_l, isi_ap, isTy_int_non, isTy_int_bl, isTy_int_int, isTy_int_str, isTy_int_lst, isTy_int_tup, isTy_int_dct, isTy_bool_non, isTy_bool_bl, isTy_bool_int, isTy_bool_str, isTy_bool_lst, isTy_bool_tup, isTy_bool_dct, isTy_str_non, isTy_str_bl, isTy_str_int, isTy_str_str, isTy_str_lst, isTy_str_tup, isTy_str_dct, isTy_tuple_non, isTy_tuple_bl, isTy_tuple_int, isTy_tuple_str, isTy_tuple_lst, isTy_tuple_tup, isTy_tuple_dct, isTy_list_non, isTy_list_bl, isTy_list_int, isTy_list_str, isTy_list_lst, isTy_list_tup, isTy_list_dct, isTy_dict_non, isTy_dict_bl, isTy_dict_int, isTy_dict_str, isTy_dict_lst, isTy_dict_tup, isTy_dict_dct, dIx_l, dIx_t, nLc_ap, gN_ap, goOn_nx, goOn_rt, goOn_rtO, sSeq_ap, sNext_ap, sSet_ap, sOwn_ap, sTgt_ap, sRet_ap, retO_own, sRetO_ap, sIf_ap, sDrop_ap, sFor_ap, sApp_ap, sParN_ap, sParNK_ap, sVia_ap, eCall_ap, eCallV_ap, val_d, val_o, fin_rt, fin_rtO, fin_nx, DL.start, List.map_cons, List.map_nil, List.length_cons, List.length_nil, List.replicate, List.cons_append, List.nil_append, List.getElem?_cons_zero, List.getElem?_cons_succ, List.set_cons_zero, List.set_cons_succ, wipeG, Nat.reduceSub, Nat.reduceAdd, Nat.reduceLT, Nat.reduceLeDiff, if_true, if_false, Bool.not_true, Bool.not_false, Option.bind_some, Option.map_some, List.length_map, oS_ap', oSi_i, eSl_ap, slD_l, dMul_i2 4 _ (show small64 4 = true from rfl), cut_int cells (4 * (j : Int)) (4 * (j : Int) + 3) (by omega) (by omega), and_self]
    have hml : (((cells.drop (4 * (j : Int)).toNat).take ((4 * (j : Int) + 3).toNat - (4 * (j : Int)).toNat))).length ≤ 3 := by
      rw [List.length_take]; omega
    generalize (((cells.drop (4 * (j : Int)).toNat).take ((4 * (j : Int) + 3).toNat - (4 * (j : Int)).toNat))) = X at *
    have hm : ∃ m : Nat, m = b + rows.length := ⟨_, rfl⟩
    obtain ⟨m, hm⟩ := hm
    have hmi : (b : Int) + rows.length = (m : Int) := by omega
    have hmp : (0 : Int) < (m : Int) := by omega
    rw [hmi]
    refine ob_for .int (fun prel g => ∃ (own : List Int) (s6 s7 : Slot), g = [.dat (.lst (cells.map .int)), .dat (.int b), .own (rows.map tI), .dat (.int j), .dat (.int m), .own (own.map .int), s6, s7, s8, s9, s10] ∧
      (∀ l ∈ own, 1 ≤ l.natAbs ∧ l.natAbs ≤ m) ∧ (own.map Int.natAbs).Nodup ∧ own.length ≤ prel.length) ?_ ?_ ?_
    · exact ⟨[], _, _, rfl, by simp, by simp, by simp⟩
    · rintro prel c postl g el ⟨own, s6, s7, rfl, o1, o2, o3⟩
      have hpl : prel.length < X.length := by rw [el]; simp
      simp -implicitDefEqProofs only [ob_some, ob_bind, ob_map, eC_ap, eN_ap, eV_ap, slotN_dat, slotV_dat, slotV_own, slotV_odc, e1_ap, e2_ap, n2_ap, nLen_ap, aN_ap, aC_ap, eApp_ap, eTup_ap, nLst_ap, mkTup_0, mkTup_1, mkTup_2, mkTup_3, mkTup_4, mkLst_0, eL_ap, tV_ap, asBl_bl, tU_ap, ifB_t, ifB_f, tAnd_ap, tOr_ap, tNot_ap, tYes_ap, eIf_ap, ifD_bl, eAnd_ap, eOr_ap, notD_bl, eNot_ap, eChain_ap, dAdd_i, dSub_i, dNeg_i, dLt_i, dLe_i, dGt_i, dGe_i, dIsN2_n, dNotB_b, dEq_i, dNe_i, dEq_b, dNe_b, dEq_s, dNe_s, dLen_l, dLen_t, dLen_s, dTupOf_l, dTupOf_t, nLstOf_l, nLstOf_t, dAbs_i, itemsD_l, itemsD_t, iSeq_ap, iSeqL_ap', seqL_l, iRng1_ap, iRng2_ap, iDown_ap, iEnum_ap, iZip_ap, zip2_l, isi_ap, isTy_int_non, isTy_int_bl, isTy_int_int, isTy_int_str, isTy_int_lst, isTy_int_tup, isTy_int_dct, isTy_bool_non, isTy_bool_bl, isTy_bool_int, isTy_bool_str, isTy_bool_lst, isTy_bool_tup, isTy_bool_dct, isTy_str_non, isTy_str_bl, isTy_str_int, isTy_str_str, isTy_str_lst, isTy_str_tup, isTy_str_dct, isTy_tuple_non, isTy_tuple_bl, isTy_tuple_int, isTy_tuple_str, isTy_tuple_lst, isTy_tuple_tup, isTy_tuple_dct, isTy_list_non, isTy_list_bl, isTy_list_int, isTy_list_str, isTy_list_lst, isTy_list_tup, isTy_list_dct, isTy_dict_non, isTy_dict_bl, isTy_dict_int, isTy_dict_str, isTy_dict_lst, isTy_dict_tup, isTy_dict_dct, dIx_l, dIx_t, nLc_ap, gN_ap, goOn_nx, goOn_rt, goOn_rtO, sSeq_ap, sNext_ap, sSet_ap, sOwn_ap, sTgt_ap, sRet_ap, retO_own, sRetO_ap, sIf_ap, sDrop_ap, sFor_ap, sApp_ap, sParN_ap, sParNK_ap, sVia_ap, eCall_ap, eCallV_ap, val_d, val_o, fin_rt, fin_rtO, fin_nx, DL.start, List.map_cons, List.map_nil, List.length_cons, List.length_nil, List.replicate, List.cons_append, List.nil_append, List.getElem?_cons_zero, List.getElem?_cons_succ, List.set_cons_zero, List.set_cons_succ, wipeG, Nat.reduceSub, Nat.reduceAdd, Nat.reduceLT, Nat.reduceLeDiff, if_true, if_false, Bool.not_true, Bool.not_false, Option.bind_some, Option.map_some, dMod_i c m hmp]
      have hq : 1 + c % (m : Int) = (((1 + c % (m : Int)).toNat : Nat) : Int) := by
        have := Int.emod_nonneg c (show (m : Int) ≠ 0 by omega); omega
      have hq2 : 1 ≤ (1 + c % (m : Int)).toNat ∧ (1 + c % (m : Int)).toNat ≤ m := by
        have := Int.emod_nonneg c (show (m : Int) ≠ 0 by omega)
        have := Int.emod_lt_of_pos c hmp; omega
      generalize (1 + c % (m : Int)).toNat = u at *
      rw [hq]
      refine ob_lcm (l := own) .int (fun l => .int (l.natAbs : Int)) (fun l _ => ?_) (by simp only [lim]; omega) ?_
      · simp -implicitDefEqProofs only [ob_some, ob_bind, ob_map, eC_ap, eN_ap, eV_ap, slotN_dat, slotV_dat, slotV_own, slotV_odc, e1_ap, e2_ap, n2_ap, nLen_ap, aN_ap, aC_ap, eApp_ap, eTup_ap, nLst_ap, mkTup_0, mkTup_1, mkTup_2, mkTup_3, mkTup_4, mkLst_0, eL_ap, tV_ap, asBl_bl, tU_ap, ifB_t, ifB_f, tAnd_ap, tOr_ap, tNot_ap, tYes_ap, eIf_ap, ifD_bl, eAnd_ap, eOr_ap, notD_bl, eNot_ap, eChain_ap, dAdd_i, dSub_i, dNeg_i, dLt_i, dLe_i, dGt_i, dGe_i, dIsN2_n, dNotB_b, dEq_i, dNe_i, dEq_b, dNe_b, dEq_s, dNe_s, dLen_l, dLen_t, dLen_s, dTupOf_l, dTupOf_t, nLstOf_l, nLstOf_t, dAbs_i, itemsD_l, itemsD_t, iSeq_ap, iSeqL_ap', seqL_l, iRng1_ap, iRng2_ap, iDown_ap, iEnum_ap, iZip_ap, zip2_l, isi_ap, isTy_int_non, isTy_int_bl, isTy_int_int, isTy_int_str, isTy_int_lst, isTy_int_tup, isTy_int_dct, isTy_bool_non, isTy_bool_bl, isTy_bool_int, isTy_bool_str, isTy_bool_lst, isTy_bool_tup, isTy_bool_dct, isTy_str_non, isTy_str_bl, isTy_str_int, isTy_str_str, isTy_str_lst, isTy_str_tup, isTy_str_dct, isTy_tuple_non, isTy_tuple_bl, isTy_tuple_int, isTy_tuple_str, isTy_tuple_lst, isTy_tuple_tup, isTy_tuple_dct, isTy_list_non, isTy_list_bl, isTy_list_int, isTy_list_str, isTy_list_lst, isTy_list_tup, isTy_list_dct, isTy_dict_non, isTy_dict_bl, isTy_dict_int, isTy_dict_str, isTy_dict_lst, isTy_dict_tup, isTy_dict_dct, dIx_l, dIx_t, nLc_ap, gN_ap, goOn_nx, goOn_rt, goOn_rtO, sSeq_ap, sNext_ap, sSet_ap, sOwn_ap, sTgt_ap, sRet_ap, retO_own, sRetO_ap, sIf_ap, sDrop_ap, sFor_ap, sApp_ap, sParN_ap, sParNK_ap, sVia_ap, eCall_ap, eCallV_ap, val_d, val_o, fin_rt, fin_rtO, fin_nx, DL.start, List.map_cons, List.map_nil, List.length_cons, List.length_nil, List.replicate, List.cons_append, List.nil_append, List.getElem?_cons_zero, List.getElem?_cons_succ, List.set_cons_zero, List.set_cons_succ, wipeG, Nat.reduceSub, Nat.reduceAdd, Nat.reduceLT, Nat.reduceLeDiff, if_true, if_false, Bool.not_true, Bool.not_false, Option.bind_some, Option.map_some, true_and]
      · rw [nD_abs]
        simp -implicitDefEqProofs only [ob_some, ob_bind, ob_map, eC_ap, eN_ap, eV_ap, slotN_dat, slotV_dat, slotV_own, slotV_odc, e1_ap, e2_ap, n2_ap, nLen_ap, aN_ap, aC_ap, eApp_ap, eTup_ap, nLst_ap, mkTup_0, mkTup_1, mkTup_2, mkTup_3, mkTup_4, mkLst_0, eL_ap, tV_ap, asBl_bl, tU_ap, ifB_t, ifB_f, tAnd_ap, tOr_ap, tNot_ap, tYes_ap, eIf_ap, ifD_bl, eAnd_ap, eOr_ap, notD_bl, eNot_ap, eChain_ap, dAdd_i, dSub_i, dNeg_i, dLt_i, dLe_i, dGt_i, dGe_i, dIsN2_n, dNotB_b, dEq_i, dNe_i, dEq_b, dNe_b, dEq_s, dNe_s, dLen_l, dLen_t, dLen_s, dTupOf_l, dTupOf_t, nLstOf_l, nLstOf_t, dAbs_i, itemsD_l, itemsD_t, iSeq_ap, iSeqL_ap', seqL_l, iRng1_ap, iRng2_ap, iDown_ap, iEnum_ap, iZip_ap, zip2_l, isi_ap, isTy_int_non, isTy_int_bl, isTy_int_int, isTy_int_str, isTy_int_lst, isTy_int_tup, isTy_int_dct, isTy_bool_non, isTy_bool_bl, isTy_bool_int, isTy_bool_str, isTy_bool_lst, isTy_bool_tup, isTy_bool_dct, isTy_str_non, isTy_str_bl, isTy_str_int, isTy_str_str, isTy_str_lst, isTy_str_tup, isTy_str_dct, isTy_tuple_non, isTy_tuple_bl, isTy_tuple_int, isTy_tuple_str, isTy_tuple_lst, isTy_tuple_tup, isTy_tuple_dct, isTy_list_non, isTy_list_bl, isTy_list_int, isTy_list_str, isTy_list_lst, isTy_list_tup, isTy_list_dct, isTy_dict_non, isTy_dict_bl, isTy_dict_int, isTy_dict_str, isTy_dict_lst, isTy_dict_tup, isTy_dict_dct, dIx_l, dIx_t, nLc_ap, gN_ap, goOn_nx, goOn_rt, goOn_rtO, sSeq_ap, sNext_ap, sSet_ap, sOwn_ap, sTgt_ap, sRet_ap, retO_own, sRetO_ap, sIf_ap, sDrop_ap, sFor_ap, sApp_ap, sParN_ap, sParNK_ap, sVia_ap, eCall_ap, eCallV_ap, val_d, val_o, fin_rt, fin_rtO, fin_nx, DL.start, List.map_cons, List.map_nil, List.length_cons, List.length_nil, List.replicate, List.cons_append, List.nil_append, List.getElem?_cons_zero, List.getElem?_cons_succ, List.set_cons_zero, List.set_cons_succ, wipeG, Nat.reduceSub, Nat.reduceAdd, Nat.reduceLT, Nat.reduceLeDiff, if_true, if_false, Bool.not_true, Bool.not_false, Option.bind_some, Option.map_some, notin_nD]
        by_cases hu : u ∈ own.map Int.natAbs
        · simp -implicitDefEqProofs only [ob_some, ob_bind, ob_map, eC_ap, eN_ap, eV_ap, slotN_dat, slotV_dat, slotV_own, slotV_odc, e1_ap, e2_ap, n2_ap, nLen_ap, aN_ap, aC_ap, eApp_ap, eTup_ap, nLst_ap, mkTup_0, mkTup_1, mkTup_2, mkTup_3, mkTup_4, mkLst_0, eL_ap, tV_ap, asBl_bl, tU_ap, ifB_t, ifB_f, tAnd_ap, tOr_ap, tNot_ap, tYes_ap, eIf_ap, ifD_bl, eAnd_ap, eOr_ap, notD_bl, eNot_ap, eChain_ap, dAdd_i, dSub_i, dNeg_i, dLt_i, dLe_i, dGt_i, dGe_i, dIsN2_n, dNotB_b, dEq_i, dNe_i, dEq_b, dNe_b, dEq_s, dNe_s, dLen_l, dLen_t, dLen_s, dTupOf_l, dTupOf_t, nLstOf_l, nLstOf_t, dAbs_i, itemsD_l, itemsD_t, iSeq_ap, iSeqL_ap', seqL_l, iRng1_ap, iRng2_ap, iDown_ap, iEnum_ap, iZip_ap, zip2_l, isi_ap, isTy_int_non, isTy_int_bl, isTy_int_int, isTy_int_str, isTy_int_lst, isTy_int_tup, isTy_int_dct, isTy_bool_non, isTy_bool_bl, isTy_bool_int, isTy_bool_str, isTy_bool_lst, isTy_bool_tup, isTy_bool_dct, isTy_str_non, isTy_str_bl, isTy_str_int, isTy_str_str, isTy_str_lst, isTy_str_tup, isTy_str_dct, isTy_tuple_non, isTy_tuple_bl, isTy_tuple_int, isTy_tuple_str, isTy_tuple_lst, isTy_tuple_tup, isTy_tuple_dct, isTy_list_non, isTy_list_bl, isTy_list_int, isTy_list_str, isTy_list_lst, isTy_list_tup, isTy_list_dct, isTy_dict_non, isTy_dict_bl, isTy_dict_int, isTy_dict_str, isTy_dict_lst, isTy_dict_tup, isTy_dict_dct, dIx_l, dIx_t, nLc_ap, gN_ap, goOn_nx, goOn_rt, goOn_rtO, sSeq_ap, sNext_ap, sSet_ap, sOwn_ap, sTgt_ap, sRet_ap, retO_own, sRetO_ap, sIf_ap, sDrop_ap, sFor_ap, sApp_ap, sParN_ap, sParNK_ap, sVia_ap, eCall_ap, eCallV_ap, val_d, val_o, fin_rt, fin_rtO, fin_nx, DL.start, List.map_cons, List.map_nil, List.length_cons, List.length_nil, List.replicate, List.cons_append, List.nil_append, List.getElem?_cons_zero, List.getElem?_cons_succ, List.set_cons_zero, List.set_cons_succ, wipeG, Nat.reduceSub, Nat.reduceAdd, Nat.reduceLT, Nat.reduceLeDiff, if_true, if_false, Bool.not_true, Bool.not_false, Option.bind_some, Option.map_some, decide_eq_true hu]
          exact ⟨_, rfl, own, _, _, rfl, o1, o2, by simp; omega⟩
        · simp -implicitDefEqProofs only [ob_some, ob_bind, ob_map, eC_ap, eN_ap, eV_ap, slotN_dat, slotV_dat, slotV_own, slotV_odc, e1_ap, e2_ap, n2_ap, nLen_ap, aN_ap, aC_ap, eApp_ap, eTup_ap, nLst_ap, mkTup_0, mkTup_1, mkTup_2, mkTup_3, mkTup_4, mkLst_0, eL_ap, tV_ap, asBl_bl, tU_ap, ifB_t, ifB_f, tAnd_ap, tOr_ap, tNot_ap, tYes_ap, eIf_ap, ifD_bl, eAnd_ap, eOr_ap, notD_bl, eNot_ap, eChain_ap, dAdd_i, dSub_i, dNeg_i, dLt_i, dLe_i, dGt_i, dGe_i, dIsN2_n, dNotB_b, dEq_i, dNe_i, dEq_b, dNe_b, dEq_s, dNe_s, dLen_l, dLen_t, dLen_s, dTupOf_l, dTupOf_t, nLstOf_l, nLstOf_t, dAbs_i, itemsD_l, itemsD_t, iSeq_ap, iSeqL_ap', seqL_l, iRng1_ap, iRng2_ap, iDown_ap, iEnum_ap, iZip_ap, zip2_l, isi_ap, isTy_int_non, isTy_int_bl, isTy_int_int, isTy_int_str, isTy_int_lst, isTy_int_tup, isTy_int_dct, isTy_bool_non, isTy_bool_bl, isTy_bool_int, isTy_bool_str, isTy_bool_lst, isTy_bool_tup, isTy_bool_dct, isTy_str_non, isTy_str_bl, isTy_str_int, isTy_str_str, isTy_str_lst, isTy_str_tup, isTy_str_dct, isTy_tuple_non, isTy_tuple_bl, isTy_tuple_int, isTy_tuple_str, isTy_tuple_lst, isTy_tuple_tup, isTy_tuple_dct, isTy_list_non, isTy_list_bl, isTy_list_int, isTy_list_str, isTy_list_lst, isTy_list_tup, isTy_list_dct, isTy_dict_non, isTy_dict_bl, isTy_dict_int, isTy_dict_str, isTy_dict_lst, isTy_dict_tup, isTy_dict_dct, dIx_l, dIx_t, nLc_ap, gN_ap, goOn_nx, goOn_rt, goOn_rtO, sSeq_ap, sNext_ap, sSet_ap, sOwn_ap, sTgt_ap, sRet_ap, retO_own, sRetO_ap, sIf_ap, sDrop_ap, sFor_ap, sApp_ap, sParN_ap, sParNK_ap, sVia_ap, eCall_ap, eCallV_ap, val_d, val_o, fin_rt, fin_rtO, fin_nx, DL.start, List.map_cons, List.map_nil, List.length_cons, List.length_nil, List.replicate, List.cons_append, List.nil_append, List.getElem?_cons_zero, List.getElem?_cons_succ, List.set_cons_zero, List.set_cons_succ, wipeG, Nat.reduceSub, Nat.reduceAdd, Nat.reduceLT, Nat.reduceLeDiff, if_true, if_false, Bool.not_true, Bool.not_false, Option.bind_some, Option.map_some, decide_eq_false hu, dDiv_i c 60 (by omega), dMod_i _ 2 (by omega)]
          have nx : ∀ l : Int, l.natAbs = u → Ob (appTo 5 [.dat (.lst (cells.map .int)), .dat (.int b), .own (rows.map tI), .dat (.int j), .dat (.int m), .own (own.map .int), .dat (.int c), .dat (.int u), s8, s9, s10] (.int l) (some (.own (own.map .int))))
              fun o => ∃ g2, o = Out.nx g2 ∧ ∃ (own : List Int) (s6 s7 : Slot), g2 = [.dat (.lst (cells.map .int)), .dat (.int b), .own (rows.map tI), .dat (.int j), .dat (.int m), .own (own.map .int), s6, s7, s8, s9, s10] ∧
                (∀ l ∈ own, 1 ≤ l.natAbs ∧ l.natAbs ≤ m) ∧ (own.map Int.natAbs).Nodup ∧ own.length ≤ (prel ++ [c]).length := by
            intro l hl
            simp -implicitDefEqProofs only [ob_some, ob_bind, ob_map, eC_ap, eN_ap, eV_ap, slotN_dat, slotV_dat, slotV_own, slotV_odc, e1_ap, e2_ap, n2_ap, nLen_ap, aN_ap, aC_ap, eApp_ap, eTup_ap, nLst_ap, mkTup_0, mkTup_1, mkTup_2, mkTup_3, mkTup_4, mkLst_0, eL_ap, tV_ap, asBl_bl, tU_ap, ifB_t, ifB_f, tAnd_ap, tOr_ap, tNot_ap, tYes_ap, eIf_ap, ifD_bl, eAnd_ap, eOr_ap, notD_bl, eNot_ap, eChain_ap, dAdd_i, dSub_i, dNeg_i, dLt_i, dLe_i, dGt_i, dGe_i, dIsN2_n, dNotB_b, dEq_i, dNe_i, dEq_b, dNe_b, dEq_s, dNe_s, dLen_l, dLen_t, dLen_s, dTupOf_l, dTupOf_t, nLstOf_l, nLstOf_t, dAbs_i, itemsD_l, itemsD_t, iSeq_ap, iSeqL_ap', seqL_l, iRng1_ap, iRng2_ap, iDown_ap, iEnum_ap, iZip_ap, zip2_l, isi_ap, isTy_int_non, isTy_int_bl, isTy_int_int, isTy_int_str, isTy_int_lst, isTy_int_tup, isTy_int_dct, isTy_bool_non, isTy_bool_bl, isTy_bool_int, isTy_bool_str, isTy_bool_lst, isTy_bool_tup, isTy_bool_dct, isTy_str_non, isTy_str_bl, isTy_str_int, isTy_str_str, isTy_str_lst, isTy_str_tup, isTy_str_dct, isTy_tuple_non, isTy_tuple_bl, isTy_tuple_int, isTy_tuple_str, isTy_tuple_lst, isTy_tuple_tup, isTy_tuple_dct, isTy_list_non, isTy_list_bl, isTy_list_int, isTy_list_str, isTy_list_lst, isTy_list_tup, isTy_list_dct, isTy_dict_non, isTy_dict_bl, isTy_dict_int, isTy_dict_str, isTy_dict_lst, isTy_dict_tup, isTy_dict_dct, dIx_l, dIx_t, nLc_ap, gN_ap, goOn_nx, goOn_rt, goOn_rtO, sSeq_ap, sNext_ap, sSet_ap, sOwn_ap, sTgt_ap, sRet_ap, retO_own, sRetO_ap, sIf_ap, sDrop_ap, sFor_ap, sApp_ap, sParN_ap, sParNK_ap, sVia_ap, eCall_ap, eCallV_ap, val_d, val_o, fin_rt, fin_rtO, fin_nx, DL.start, List.map_cons, List.map_nil, List.length_cons, List.length_nil, List.replicate, List.cons_append, List.nil_append, List.getElem?_cons_zero, List.getElem?_cons_succ, List.set_cons_zero, List.set_cons_succ, wipeG, Nat.reduceSub, Nat.reduceAdd, Nat.reduceLT, Nat.reduceLeDiff, if_true, if_false, Bool.not_true, Bool.not_false, Option.bind_some, Option.map_some, appTo_own _ _ _ (own.map .int) (by simp only [List.length_map, lim]; omega)]
            refine ⟨_, rfl, own ++ [l], _, _, by simp; exact ⟨rfl, rfl⟩, ?_, ?_, by simp; omega⟩
            · intro x hx; rw [List.mem_append] at hx
              rcases hx with hx | hx
              · exact o1 x hx
              · simp at hx; subst hx; omega
            · rw [List.map_append, List.nodup_append]; refine ⟨o2, by simp, ?_⟩
              intro x hx y hy; simp at hy; rw [hl] at hy; subst hy; intro e; subst e; exact hu hx
          cases hz : (c / 60 % 2 == 0) with
          | true => simp -implicitDefEqProofs only [ob_some, ob_bind, ob_map, eC_ap, eN_ap, eV_ap, slotN_dat, slotV_dat, slotV_own, slotV_odc, e1_ap, e2_ap, n2_ap, nLen_ap, aN_ap, aC_ap, eApp_ap, eTup_ap, nLst_ap, mkTup_0, mkTup_1, mkTup_2, mkTup_3, mkTup_4, mkLst_0, eL_ap, tV_ap, asBl_bl, tU_ap, ifB_t, ifB_f, tAnd_ap, tOr_ap, tNot_ap, tYes_ap, eIf_ap, ifD_bl, eAnd_ap, eOr_ap, notD_bl, eNot_ap, eChain_ap, dAdd_i, dSub_i, dNeg_i, dLt_i, dLe_i, dGt_i, dGe_i, dIsN2_n, dNotB_b, dEq_i, dNe_i, dEq_b, dNe_b, dEq_s, dNe_s, dLen_l, dLen_t, dLen_s, dTupOf_l, dTupOf_t, nLstOf_l, nLstOf_t, dAbs_i, itemsD_l, itemsD_t, iSeq_ap, iSeqL_ap', seqL_l, iRng1_ap, iRng2_ap, iDown_ap, iEnum_ap, iZip_ap, zip2_l, isi_ap, isTy_int_non, isTy_int_bl, isTy_int_int, isTy_int_str, isTy_int_lst, isTy_int_tup, isTy_int_dct, isTy_bool_non, isTy_bool_bl, isTy_bool_int, isTy_bool_str, isTy_bool_lst, isTy_bool_tup, isTy_bool_dct, isTy_str_non, isTy_str_bl, isTy_str_int, isTy_str_str, isTy_str_lst, isTy_str_tup, isTy_str_dct, isTy_tuple_non, isTy_tuple_bl, isTy_tuple_int, isTy_tuple_str, isTy_tuple_lst, isTy_tuple_tup, isTy_tuple_dct, isTy_list_non, isTy_list_bl, isTy_list_int, isTy_list_str, isTy_list_lst, isTy_list_tup, isTy_list_dct, isTy_dict_non, isTy_dict_bl, isTy_dict_int, isTy_dict_str, isTy_dict_lst, isTy_dict_tup, isTy_dict_dct, dIx_l, dIx_t, nLc_ap, gN_ap, goOn_nx, goOn_rt, goOn_rtO, sSeq_ap, sNext_ap, sSet_ap, sOwn_ap, sTgt_ap, sRet_ap, retO_own, sRetO_ap, sIf_ap, sDrop_ap, sFor_ap, sApp_ap, sParN_ap, sParNK_ap, sVia_ap, eCall_ap, eCallV_ap, val_d, val_o, fin_rt, fin_rtO, fin_nx, DL.start, List.map_cons, List.map_nil, List.length_cons, List.length_nil, List.replicate, List.cons_append, List.nil_append, List.getElem?_cons_zero, List.getElem?_cons_succ, List.set_cons_zero, List.set_cons_succ, wipeG, Nat.reduceSub, Nat.reduceAdd, Nat.reduceLT, Nat.reduceLeDiff, if_true, if_false, Bool.not_true, Bool.not_false, Option.bind_some, Option.map_some]; exact nx _ (by omega)
          | false => simp -implicitDefEqProofs only [ob_some, ob_bind, ob_map, eC_ap, eN_ap, eV_ap, slotN_dat, slotV_dat, slotV_own, slotV_odc, e1_ap, e2_ap, n2_ap, nLen_ap, aN_ap, aC_ap, eApp_ap, eTup_ap, nLst_ap, mkTup_0, mkTup_1, mkTup_2, mkTup_3, mkTup_4, mkLst_0, eL_ap, tV_ap, asBl_bl, tU_ap, ifB_t, ifB_f, tAnd_ap, tOr_ap, tNot_ap, tYes_ap, eIf_ap, ifD_bl, eAnd_ap, eOr_ap, notD_bl, eNot_ap, eChain_ap, dAdd_i, dSub_i, dNeg_i, dLt_i, dLe_i, dGt_i, dGe_i, dIsN2_n, dNotB_b, dEq_i, dNe_i, dEq_b, dNe_b, dEq_s, dNe_s, dLen_l, dLen_t, dLen_s, dTupOf_l, dTupOf_t, nLstOf_l, nLstOf_t, dAbs_i, itemsD_l, itemsD_t, iSeq_ap, iSeqL_ap', seqL_l, iRng1_ap, iRng2_ap, iDown_ap, iEnum_ap, iZip_ap, zip2_l, isi_ap, isTy_int_non, isTy_int_bl, isTy_int_int, isTy_int_str, isTy_int_lst, isTy_int_tup, isTy_int_dct, isTy_bool_non, isTy_bool_bl, isTy_bool_int, isTy_bool_str, isTy_bool_lst, isTy_bool_tup, isTy_bool_dct, isTy_str_non, isTy_str_bl, isTy_str_int, isTy_str_str, isTy_str_lst, isTy_str_tup, isTy_str_dct, isTy_tuple_non, isTy_tuple_bl, isTy_tuple_int, isTy_tuple_str, isTy_tuple_lst, isTy_tuple_tup, isTy_tuple_dct, isTy_list_non, isTy_list_bl, isTy_list_int, isTy_list_str, isTy_list_lst, isTy_list_tup, isTy_list_dct, isTy_dict_non, isTy_dict_bl, isTy_dict_int, isTy_dict_str, isTy_dict_lst, isTy_dict_tup, isTy_dict_dct, dIx_l, dIx_t, nLc_ap, gN_ap, goOn_nx, goOn_rt, goOn_rtO, sSeq_ap, sNext_ap, sSet_ap, sOwn_ap, sTgt_ap, sRet_ap, retO_own, sRetO_ap, sIf_ap, sDrop_ap, sFor_ap, sApp_ap, sParN_ap, sParNK_ap, sVia_ap, eCall_ap, eCallV_ap, val_d, val_o, fin_rt, fin_rtO, fin_nx, DL.start, List.map_cons, List.map_nil, List.length_cons, List.length_nil, List.replicate, List.cons_append, List.nil_append, List.getElem?_cons_zero, List.getElem?_cons_succ, List.set_cons_zero, List.set_cons_succ, wipeG, Nat.reduceSub, Nat.reduceAdd, Nat.reduceLT, Nat.reduceLeDiff, if_true, if_false, Bool.not_true, Bool.not_false, Option.bind_some, Option.map_some]; exact nx _ (by omega)
    · rintro g ⟨own, s6, s7, rfl, o1, o2, o3⟩
      have ho : own.length ≤ 3 := by omega
      have h1 : cells[4 * j + 3]? = some cells[4 * j + 3] := List.getElem?_eq_getElem (by omega)
      have a1 : atD (cells.map .int) (4 * (j : Int) + 3) = some (.int cells[4 * j + 3]) := atD_of _ _ _ (by omega) (by rw [show (4 * (j : Int) + 3).toNat = 4 * j + 3 by omega]; simp [h1])
      have nx : ∀ (r : List Int) (t6 t7 t9 t10 : Slot), Cl m r → r.length ≤ 3 → Ob ((sIf (tAnd (tV (e2 dNe (eApp dLen (aC (eV 8) aN)) (eC (.int 1)))) (tV (e2 dNotIn (eV 8) (eV 2)))) (sApp 2 (eN 8)) sNext)
            [.dat (.lst (cells.map .int)), .dat (.int b), .own (rows.map tI), .dat (.int j), .dat (.int m), .own (own.map .int), t6, t7, .dat (tI r), t9, t10])
            fun o => ∃ g2, o = Out.nx g2 ∧ ∃ (rows : List (List Int)) (s3 s4 s5 s6 s7 s8 s9 s10 : Slot), g2 = [.dat (.lst (cells.map .int)), .dat (.int b), .own (rows.map tI), s3, s4, s5, s6, s7, s8, s9, s10] ∧ Valid b rows ∧ rows.length ≤ (pre ++ [j]).length := by
        intro r t6 t7 t9 t10 hcl hrl
        have n1 : dLen [tI r] = some (.int r.length) := by simp [tI, dLen]
        simp -implicitDefEqProofs only [ob_some, ob_bind, ob_map, eC_ap, eN_ap, eV_ap, slotN_dat, slotV_dat, slotV_own, slotV_odc, e1_ap, e2_ap, n2_ap, nLen_ap, aN_ap, aC_ap, eApp_ap, eTup_ap, nLst_ap, mkTup_0, mkTup_1, mkTup_2, mkTup_3, mkTup_4, mkLst_0, eL_ap, tV_ap, asBl_bl, tU_ap, ifB_t, ifB_f, tAnd_ap, tOr_ap, tNot_ap, tYes_ap, eIf_ap, ifD_bl, eAnd_ap, eOr_ap, notD_bl, eNot_ap, eChain_ap, dAdd_i, dSub_i, dNeg_i, dLt_i, dLe_i, dGt_i, dGe_i, dIsN2_n, dNotB_b, dEq_i, dNe_i, dEq_b, dNe_b, dEq_s, dNe_s, dLen_l, dLen_t, dLen_s, dTupOf_l, dTupOf_t, nLstOf_l, nLstOf_t, dAbs_i, itemsD_l, itemsD_t, iSeq_ap, iSeqL_ap', seqL_l, iRng1_ap, iRng2_ap, iDown_ap, iEnum_ap, iZip_ap, zip2_l, isi_ap, isTy_int_non, isTy_int_bl, isTy_int_int, isTy_int_str, isTy_int_lst, isTy_int_tup, isTy_int_dct, isTy_bool_non, isTy_bool_bl, isTy_bool_int, isTy_bool_str, isTy_bool_lst, isTy_bool_tup, isTy_bool_dct, isTy_str_non, isTy_str_bl, isTy_str_int, isTy_str_str, isTy_str_lst, isTy_str_tup, isTy_str_dct, isTy_tuple_non, isTy_tuple_bl, isTy_tuple_int, isTy_tuple_str, isTy_tuple_lst, isTy_tuple_tup, isTy_tuple_dct, isTy_list_non, isTy_list_bl, isTy_list_int, isTy_list_str, isTy_list_lst, isTy_list_tup, isTy_list_dct, isTy_dict_non, isTy_dict_bl, isTy_dict_int, isTy_dict_str, isTy_dict_lst, isTy_dict_tup, isTy_dict_dct, dIx_l, dIx_t, nLc_ap, gN_ap, goOn_nx, goOn_rt, goOn_rtO, sSeq_ap, sNext_ap, sSet_ap, sOwn_ap, sTgt_ap, sRet_ap, retO_own, sRetO_ap, sIf_ap, sDrop_ap, sFor_ap, sApp_ap, sParN_ap, sParNK_ap, sVia_ap, eCall_ap, eCallV_ap, val_d, val_o, fin_rt, fin_rtO, fin_nx, DL.start, List.map_cons, List.map_nil, List.length_cons, List.length_nil, List.replicate, List.cons_append, List.nil_append, List.getElem?_cons_zero, List.getElem?_cons_succ, List.set_cons_zero, List.set_cons_succ, wipeG, Nat.reduceSub, Nat.reduceAdd, Nat.reduceLT, Nat.reduceLeDiff, if_true, if_false, Bool.not_true, Bool.not_false, Option.bind_some, Option.map_some, n1]
        cases hz : ((r.length : Int) == 1) with
        | true =>
          simp -implicitDefEqProofs only [ob_some, ob_bind, ob_map, eC_ap, eN_ap, eV_ap, slotN_dat, slotV_dat, slotV_own, slotV_odc, e1_ap, e2_ap, n2_ap, nLen_ap, aN_ap, aC_ap, eApp_ap, eTup_ap, nLst_ap, mkTup_0, mkTup_1, mkTup_2, mkTup_3, mkTup_4, mkLst_0, eL_ap, tV_ap, asBl_bl, tU_ap, ifB_t, ifB_f, tAnd_ap, tOr_ap, tNot_ap, tYes_ap, eIf_ap, ifD_bl, eAnd_ap, eOr_ap, notD_bl, eNot_ap, eChain_ap, dAdd_i, dSub_i, dNeg_i, dLt_i, dLe_i, dGt_i, dGe_i, dIsN2_n, dNotB_b, dEq_i, dNe_i, dEq_b, dNe_b, dEq_s, dNe_s, dLen_l, dLen_t, dLen_s, dTupOf_l, dTupOf_t, nLstOf_l, nLstOf_t, dAbs_i, itemsD_l, itemsD_t, iSeq_ap, iSeqL_ap', seqL_l, iRng1_ap, iRng2_ap, iDown_ap, iEnum_ap, iZip_ap, zip2_l, isi_ap, isTy_int_non, isTy_int_bl, isTy_int_int, isTy_int_str, isTy_int_lst, isTy_int_tup, isTy_int_dct, isTy_bool_non, isTy_bool_bl, isTy_bool_int, isTy_bool_str, isTy_bool_lst, isTy_bool_tup, isTy_bool_dct, isTy_str_non, isTy_str_bl, isTy_str_int, isTy_str_str, isTy_str_lst, isTy_str_tup, isTy_str_dct, isTy_tuple_non, isTy_tuple_bl, isTy_tuple_int, isTy_tuple_str, isTy_tuple_lst, isTy_tuple_tup, isTy_tuple_dct, isTy_list_non, isTy_list_bl, isTy_list_int, isTy_list_str, isTy_list_lst, isTy_list_tup, isTy_list_dct, isTy_dict_non, isTy_dict_bl, isTy_dict_int, isTy_dict_str, isTy_dict_lst, isTy_dict_tup, isTy_dict_dct, dIx_l, dIx_t, nLc_ap, gN_ap, goOn_nx, goOn_rt, goOn_rtO, sSeq_ap, sNext_ap, sSet_ap, sOwn_ap, sTgt_ap, sRet_ap, retO_own, sRetO_ap, sIf_ap, sDrop_ap, sFor_ap, sApp_ap, sParN_ap, sParNK_ap, sVia_ap, eCall_ap, eCallV_ap, val_d, val_o, fin_rt, fin_rtO, fin_nx, DL.start, List.map_cons, List.map_nil, List.length_cons, List.length_nil, List.replicate, List.cons_append, List.nil_append, List.getElem?_cons_zero, List.getElem?_cons_succ, List.set_cons_zero, List.set_cons_succ, wipeG, Nat.reduceSub, Nat.reduceAdd, Nat.reduceLT, Nat.reduceLeDiff, if_true, if_false, Bool.not_true, Bool.not_false, Option.bind_some, Option.map_some]
          exact ⟨_, rfl, rows, _, _, _, _, _, _, _, _, rfl, v, by simp; omega⟩
        | false =>
          have hz2 : r.length ≠ 1 := by simp at hz; omega
          simp -implicitDefEqProofs only [ob_some, ob_bind, ob_map, eC_ap, eN_ap, eV_ap, slotN_dat, slotV_dat, slotV_own, slotV_odc, e1_ap, e2_ap, n2_ap, nLen_ap, aN_ap, aC_ap, eApp_ap, eTup_ap, nLst_ap, mkTup_0, mkTup_1, mkTup_2, mkTup_3, mkTup_4, mkLst_0, eL_ap, tV_ap, asBl_bl, tU_ap, ifB_t, ifB_f, tAnd_ap, tOr_ap, tNot_ap, tYes_ap, eIf_ap, ifD_bl, eAnd_ap, eOr_ap, notD_bl, eNot_ap, eChain_ap, dAdd_i, dSub_i, dNeg_i, dLt_i, dLe_i, dGt_i, dGe_i, dIsN2_n, dNotB_b, dEq_i, dNe_i, dEq_b, dNe_b, dEq_s, dNe_s, dLen_l, dLen_t, dLen_s, dTupOf_l, dTupOf_t, nLstOf_l, nLstOf_t, dAbs_i, itemsD_l, itemsD_t, iSeq_ap, iSeqL_ap', seqL_l, iRng1_ap, iRng2_ap, iDown_ap, iEnum_ap, iZip_ap, zip2_l, isi_ap, isTy_int_non, isTy_int_bl, isTy_int_int, isTy_int_str, isTy_int_lst, isTy_int_tup, isTy_int_dct, isTy_bool_non, isTy_bool_bl, isTy_bool_int, isTy_bool_str, isTy_bool_lst, isTy_bool_tup, isTy_bool_dct, isTy_str_non, isTy_str_bl, isTy_str_int, isTy_str_str, isTy_str_lst, isTy_str_tup, isTy_str_dct, isTy_tuple_non, isTy_tuple_bl, isTy_tuple_int, isTy_tuple_str, isTy_tuple_lst, isTy_tuple_tup, isTy_tuple_dct, isTy_list_non, isTy_list_bl, isTy_list_int, isTy_list_str, isTy_list_lst, isTy_list_tup, isTy_list_dct, isTy_dict_non, isTy_dict_bl, isTy_dict_int, isTy_dict_str, isTy_dict_lst, isTy_dict_tup, isTy_dict_dct, dIx_l, dIx_t, nLc_ap, gN_ap, goOn_nx, goOn_rt, goOn_rtO, sSeq_ap, sNext_ap, sSet_ap, sOwn_ap, sTgt_ap, sRet_ap, retO_own, sRetO_ap, sIf_ap, sDrop_ap, sFor_ap, sApp_ap, sParN_ap, sParNK_ap, sVia_ap, eCall_ap, eCallV_ap, val_d, val_o, fin_rt, fin_rtO, fin_nx, DL.start, List.map_cons, List.map_nil, List.length_cons, List.length_nil, List.replicate, List.cons_append, List.nil_append, List.getElem?_cons_zero, List.getElem?_cons_succ, List.set_cons_zero, List.set_cons_succ, wipeG, Nat.reduceSub, Nat.reduceAdd, Nat.reduceLT, Nat.reduceLeDiff, if_true, if_false, Bool.not_true, Bool.not_false, Option.bind_some, Option.map_some, notin_tI]
          by_cases hin : r ∈ rows
          · simp -implicitDefEqProofs only [ob_some, ob_bind, ob_map, eC_ap, eN_ap, eV_ap, slotN_dat, slotV_dat, slotV_own, slotV_odc, e1_ap, e2_ap, n2_ap, nLen_ap, aN_ap, aC_ap, eApp_ap, eTup_ap, nLst_ap, mkTup_0, mkTup_1, mkTup_2, mkTup_3, mkTup_4, mkLst_0, eL_ap, tV_ap, asBl_bl, tU_ap, ifB_t, ifB_f, tAnd_ap, tOr_ap, tNot_ap, tYes_ap, eIf_ap, ifD_bl, eAnd_ap, eOr_ap, notD_bl, eNot_ap, eChain_ap, dAdd_i, dSub_i, dNeg_i, dLt_i, dLe_i, dGt_i, dGe_i, dIsN2_n, dNotB_b, dEq_i, dNe_i, dEq_b, dNe_b, dEq_s, dNe_s, dLen_l, dLen_t, dLen_s, dTupOf_l, dTupOf_t, nLstOf_l, nLstOf_t, dAbs_i, itemsD_l, itemsD_t, iSeq_ap, iSeqL_ap', seqL_l, iRng1_ap, iRng2_ap, iDown_ap, iEnum_ap, iZip_ap, zip2_l, isi_ap, isTy_int_non, isTy_int_bl, isTy_int_int, isTy_int_str, isTy_int_lst, isTy_int_tup, isTy_int_dct, isTy_bool_non, isTy_bool_bl, isTy_bool_int, isTy_bool_str, isTy_bool_lst, isTy_bool_tup, isTy_bool_dct, isTy_str_non, isTy_str_bl, isTy_str_int, isTy_str_str, isTy_str_lst, isTy_str_tup, isTy_str_dct, isTy_tuple_non, isTy_tuple_bl, isTy_tuple_int, isTy_tuple_str, isTy_tuple_lst, isTy_tuple_tup, isTy_tuple_dct, isTy_list_non, isTy_list_bl, isTy_list_int, isTy_list_str, isTy_list_lst, isTy_list_tup, isTy_list_dct, isTy_dict_non, isTy_dict_bl, isTy_dict_int, isTy_dict_str, isTy_dict_lst, isTy_dict_tup, isTy_dict_dct, dIx_l, dIx_t, nLc_ap, gN_ap, goOn_nx, goOn_rt, goOn_rtO, sSeq_ap, sNext_ap, sSet_ap, sOwn_ap, sTgt_ap, sRet_ap, retO_own, sRetO_ap, sIf_ap, sDrop_ap, sFor_ap, sApp_ap, sParN_ap, sParNK_ap, sVia_ap, eCall_ap, eCallV_ap, val_d, val_o, fin_rt, fin_rtO, fin_nx, DL.start, List.map_cons, List.map_nil, List.length_cons, List.length_nil, List.replicate, List.cons_append, List.nil_append, List.getElem?_cons_zero, List.getElem?_cons_succ, List.set_cons_zero, List.set_cons_succ, wipeG, Nat.reduceSub, Nat.reduceAdd, Nat.reduceLT, Nat.reduceLeDiff, if_true, if_false, Bool.not_true, Bool.not_false, Option.bind_some, Option.map_some, decide_eq_true hin]
            exact ⟨_, rfl, rows, _, _, _, _, _, _, _, _, rfl, v, by simp; omega⟩
          · simp -implicitDefEqProofs only [ob_some, ob_bind, ob_map, eC_ap, eN_ap, eV_ap, slotN_dat, slotV_dat, slotV_own, slotV_odc, e1_ap, e2_ap, n2_ap, nLen_ap, aN_ap, aC_ap, eApp_ap, eTup_ap, nLst_ap, mkTup_0, mkTup_1, mkTup_2, mkTup_3, mkTup_4, mkLst_0, eL_ap, tV_ap, asBl_bl, tU_ap, ifB_t, ifB_f, tAnd_ap, tOr_ap, tNot_ap, tYes_ap, eIf_ap, ifD_bl, eAnd_ap, eOr_ap, notD_bl, eNot_ap, eChain_ap, dAdd_i, dSub_i, dNeg_i, dLt_i, dLe_i, dGt_i, dGe_i, dIsN2_n, dNotB_b, dEq_i, dNe_i, dEq_b, dNe_b, dEq_s, dNe_s, dLen_l, dLen_t, dLen_s, dTupOf_l, dTupOf_t, nLstOf_l, nLstOf_t, dAbs_i, itemsD_l, itemsD_t, iSeq_ap, iSeqL_ap', seqL_l, iRng1_ap, iRng2_ap, iDown_ap, iEnum_ap, iZip_ap, zip2_l, isi_ap, isTy_int_non, isTy_int_bl, isTy_int_int, isTy_int_str, isTy_int_lst, isTy_int_tup, isTy_int_dct, isTy_bool_non, isTy_bool_bl, isTy_bool_int, isTy_bool_str, isTy_bool_lst, isTy_bool_tup, isTy_bool_dct, isTy_str_non, isTy_str_bl, isTy_str_int, isTy_str_str, isTy_str_lst, isTy_str_tup, isTy_str_dct, isTy_tuple_non, isTy_tuple_bl, isTy_tuple_int, isTy_tuple_str, isTy_tuple_lst, isTy_tuple_tup, isTy_tuple_dct, isTy_list_non, isTy_list_bl, isTy_list_int, isTy_list_str, isTy_list_lst, isTy_list_tup, isTy_list_dct, isTy_dict_non, isTy_dict_bl, isTy_dict_int, isTy_dict_str, isTy_dict_lst, isTy_dict_tup, isTy_dict_dct, dIx_l, dIx_t, nLc_ap, gN_ap, goOn_nx, goOn_rt, goOn_rtO, sSeq_ap, sNext_ap, sSet_ap, sOwn_ap, sTgt_ap, sRet_ap, retO_own, sRetO_ap, sIf_ap, sDrop_ap, sFor_ap, sApp_ap, sParN_ap, sParNK_ap, sVia_ap, eCall_ap, eCallV_ap, val_d, val_o, fin_rt, fin_rtO, fin_nx, DL.start, List.map_cons, List.map_nil, List.length_cons, List.length_nil, List.replicate, List.cons_append, List.nil_append, List.getElem?_cons_zero, List.getElem?_cons_succ, List.set_cons_zero, List.set_cons_succ, wipeG, Nat.reduceSub, Nat.reduceAdd, Nat.reduceLT, Nat.reduceLeDiff, if_true, if_false, Bool.not_true, Bool.not_false, Option.bind_some, Option.map_some, decide_eq_false hin, appTo_own _ _ _ (rows.map tI) (by simp only [List.length_map, lim]; omega)]
            exact ⟨_, rfl, rows ++ [r], _, _, _, _, _, _, _, _, by simp; exact ⟨rfl, rfl, rfl, rfl, rfl, rfl, rfl, rfl⟩, valid_more v r (by rw [← hm]; exact hcl) hz2 hin hrl (by omega), by simp; omega⟩
      simp -implicitDefEqProofs only [ob_some, ob_bind, ob_map, eC_ap, eN_ap, eV_ap, slotN_dat, slotV_dat, slotV_own, slotV_odc, e1_ap, e2_ap, n2_ap, nLen_ap, aN_ap, aC_ap, eApp_ap, eTup_ap, nLst_ap, mkTup_0, mkTup_1, mkTup_2, mkTup_3, mkTup_4, mkLst_0, eL_ap, tV_ap, asBl_bl, tU_ap, ifB_t, ifB_f, tAnd_ap, tOr_ap, tNot_ap, tYes_ap, eIf_ap, ifD_bl, eAnd_ap, eOr_ap, notD_bl, eNot_ap, eChain_ap, dAdd_i, dSub_i, dNeg_i, dLt_i, dLe_i, dGt_i, dGe_i, dIsN2_n, dNotB_b, dEq_i, dNe_i, dEq_b, dNe_b, dEq_s, dNe_s, dLen_l, dLen_t, dLen_s, dTupOf_l, dTupOf_t, nLstOf_l, nLstOf_t, dAbs_i, itemsD_l, itemsD_t, iSeq_ap, iSeqL_ap', seqL_l, iRng1_ap, iRng2_ap, iDown_ap, iEnum_ap, iZip_ap, zip2_l, isi_ap, isTy_int_non, isTy_int_bl, isTy_int_int, isTy_int_str, isTy_int_lst, isTy_int_tup, isTy_int_dct, isTy_bool_non, isTy_bool_bl, isTy_bool_int, isTy_bool_str, isTy_bool_lst, isTy_bool_tup, isTy_bool_dct, isTy_str_non, isTy_str_bl, isTy_str_int, isTy_str_str, isTy_str_lst, isTy_str_tup, isTy_str_dct, isTy_tuple_non, isTy_tuple_bl, isTy_tuple_int, isTy_tuple_str, isTy_tuple_lst, isTy_tuple_tup, isTy_tuple_dct, isTy_list_non, isTy_list_bl, isTy_list_int, isTy_list_str, isTy_list_lst, isTy_list_tup, isTy_list_dct, isTy_dict_non, isTy_dict_bl, isTy_dict_int, isTy_dict_str, isTy_dict_lst, isTy_dict_tup, isTy_dict_dct, dIx_l, dIx_t, nLc_ap, gN_ap, goOn_nx, goOn_rt, goOn_rtO, sSeq_ap, sNext_ap, sSet_ap, sOwn_ap, sTgt_ap, sRet_ap, retO_own, sRetO_ap, sIf_ap, sDrop_ap, sFor_ap, sApp_ap, sParN_ap, sParNK_ap, sVia_ap, eCall_ap, eCallV_ap, val_d, val_o, fin_rt, fin_rtO, fin_nx, DL.start, List.map_cons, List.map_nil, List.length_cons, List.length_nil, List.replicate, List.cons_append, List.nil_append, List.getElem?_cons_zero, List.getElem?_cons_succ, List.set_cons_zero, List.set_cons_succ, wipeG, Nat.reduceSub, Nat.reduceAdd, Nat.reduceLT, Nat.reduceLeDiff, if_true, if_false, Bool.not_true, Bool.not_false, Option.bind_some, Option.map_some, dMul_i2 4 _ (show small64 4 = true from rfl), a1]
      by_cases hgt : 0 < cells[4 * j + 3]
      · simp -implicitDefEqProofs only [ob_some, ob_bind, ob_map, eC_ap, eN_ap, eV_ap, slotN_dat, slotV_dat, slotV_own, slotV_odc, e1_ap, e2_ap, n2_ap, nLen_ap, aN_ap, aC_ap, eApp_ap, eTup_ap, nLst_ap, mkTup_0, mkTup_1, mkTup_2, mkTup_3, mkTup_4, mkLst_0, eL_ap, tV_ap, asBl_bl, tU_ap, ifB_t, ifB_f, tAnd_ap, tOr_ap, tNot_ap, tYes_ap, eIf_ap, ifD_bl, eAnd_ap, eOr_ap, notD_bl, eNot_ap, eChain_ap, dAdd_i, dSub_i, dNeg_i, dLt_i, dLe_i, dGt_i, dGe_i, dIsN2_n, dNotB_b, dEq_i, dNe_i, dEq_b, dNe_b, dEq_s, dNe_s, dLen_l, dLen_t, dLen_s, dTupOf_l, dTupOf_t, nLstOf_l, nLstOf_t, dAbs_i, itemsD_l, itemsD_t, iSeq_ap, iSeqL_ap', seqL_l, iRng1_ap, iRng2_ap, iDown_ap, iEnum_ap, iZip_ap, zip2_l, isi_ap, isTy_int_non, isTy_int_bl, isTy_int_int, isTy_int_str, isTy_int_lst, isTy_int_tup, isTy_int_dct, isTy_bool_non, isTy_bool_bl, isTy_bool_int, isTy_bool_str, isTy_bool_lst, isTy_bool_tup, isTy_bool_dct, isTy_str_non, isTy_str_bl, isTy_str_int, isTy_str_str, isTy_str_lst, isTy_str_tup, isTy_str_dct, isTy_tuple_non, isTy_tuple_bl, isTy_tuple_int, isTy_tuple_str, isTy_tuple_lst, isTy_tuple_tup, isTy_tuple_dct, isTy_list_non, isTy_list_bl, isTy_list_int, isTy_list_str, isTy_list_lst, isTy_list_tup, isTy_list_dct, isTy_dict_non, isTy_dict_bl, isTy_dict_int, isTy_dict_str, isTy_dict_lst, isTy_dict_tup, isTy_dict_dct, dIx_l, dIx_t, nLc_ap, gN_ap, goOn_nx, goOn_rt, goOn_rtO, sSeq_ap, sNext_ap, sSet_ap, sOwn_ap, sTgt_ap, sRet_ap, retO_own, sRetO_ap, sIf_ap, sDrop_ap, sFor_ap, sApp_ap, sParN_ap, sParNK_ap, sVia_ap, eCall_ap, eCallV_ap, val_d, val_o, fin_rt, fin_rtO, fin_nx, DL.start, List.map_cons, List.map_nil, List.length_cons, List.length_nil, List.replicate, List.cons_append, List.nil_append, List.getElem?_cons_zero, List.getElem?_cons_succ, List.set_cons_zero, List.set_cons_succ, wipeG, Nat.reduceSub, Nat.reduceAdd, Nat.reduceLT, Nat.reduceLeDiff, if_true, if_false, Bool.not_true, Bool.not_false, Option.bind_some, Option.map_some, decide_eq_true hgt]
        refine ob_lcm (l := own) .int (fun l => .tup [.int (l.natAbs : Int), .int l]) (fun l _ => ?_) (by simp only [lim]; omega) ?_
        · simp -implicitDefEqProofs only [ob_some, ob_bind, ob_map, eC_ap, eN_ap, eV_ap, slotN_dat, slotV_dat, slotV_own, slotV_odc, e1_ap, e2_ap, n2_ap, nLen_ap, aN_ap, aC_ap, eApp_ap, eTup_ap, nLst_ap, mkTup_0, mkTup_1, mkTup_2, mkTup_3, mkTup_4, mkLst_0, eL_ap, tV_ap, asBl_bl, tU_ap, ifB_t, ifB_f, tAnd_ap, tOr_ap, tNot_ap, tYes_ap, eIf_ap, ifD_bl, eAnd_ap, eOr_ap, notD_bl, eNot_ap, eChain_ap, dAdd_i, dSub_i, dNeg_i, dLt_i, dLe_i, dGt_i, dGe_i, dIsN2_n, dNotB_b, dEq_i, dNe_i, dEq_b, dNe_b, dEq_s, dNe_s, dLen_l, dLen_t, dLen_s, dTupOf_l, dTupOf_t, nLstOf_l, nLstOf_t, dAbs_i, itemsD_l, itemsD_t, iSeq_ap, iSeqL_ap', seqL_l, iRng1_ap, iRng2_ap, iDown_ap, iEnum_ap, iZip_ap, zip2_l, isi_ap, isTy_int_non, isTy_int_bl, isTy_int_int, isTy_int_str, isTy_int_lst, isTy_int_tup, isTy_int_dct, isTy_bool_non, isTy_bool_bl, isTy_bool_int, isTy_bool_str, isTy_bool_lst, isTy_bool_tup, isTy_bool_dct, isTy_str_non, isTy_str_bl, isTy_str_int, isTy_str_str, isTy_str_lst, isTy_str_tup, isTy_str_dct, isTy_tuple_non, isTy_tuple_bl, isTy_tuple_int, isTy_tuple_str, isTy_tuple_lst, isTy_tuple_tup, isTy_tuple_dct, isTy_list_non, isTy_list_bl, isTy_list_int, isTy_list_str, isTy_list_lst, isTy_list_tup, isTy_list_dct, isTy_dict_non, isTy_dict_bl, isTy_dict_int, isTy_dict_str, isTy_dict_lst, isTy_dict_tup, isTy_dict_dct, dIx_l, dIx_t, nLc_ap, gN_ap, goOn_nx, goOn_rt, goOn_rtO, sSeq_ap, sNext_ap, sSet_ap, sOwn_ap, sTgt_ap, sRet_ap, retO_own, sRetO_ap, sIf_ap, sDrop_ap, sFor_ap, sApp_ap, sParN_ap, sParNK_ap, sVia_ap, eCall_ap, eCallV_ap, val_d, val_o, fin_rt, fin_rtO, fin_nx, DL.start, List.map_cons, List.map_nil, List.length_cons, List.length_nil, List.replicate, List.cons_append, List.nil_append, List.getElem?_cons_zero, List.getElem?_cons_succ, List.set_cons_zero, List.set_cons_succ, wipeG, Nat.reduceSub, Nat.reduceAdd, Nat.reduceLT, Nat.reduceLeDiff, if_true, if_false, Bool.not_true, Bool.not_false, Option.bind_some, Option.map_some, true_and]
        · simp -implicitDefEqProofs only [ob_some, ob_bind, ob_map, eC_ap, eN_ap, eV_ap, slotN_dat, slotV_dat, slotV_own, slotV_odc, e1_ap, e2_ap, n2_ap, nLen_ap, aN_ap, aC_ap, eApp_ap, eTup_ap, nLst_ap, mkTup_0, mkTup_1, mkTup_2, mkTup_3, mkTup_4, mkLst_0, eL_ap, tV_ap, asBl_bl, tU_ap, ifB_t, ifB_f, tAnd_ap, tOr_ap, tNot_ap, tYes_ap, eIf_ap, ifD_bl, eAnd_ap, eOr_ap, notD_bl, eNot_ap, eChain_ap, dAdd_i, dSub_i, dNeg_i, dLt_i, dLe_i, dGt_i, dGe_i, dIsN2_n, dNotB_b, dEq_i, dNe_i, dEq_b, dNe_b, dEq_s, dNe_s, dLen_l, dLen_t, dLen_s, dTupOf_l, dTupOf_t, nLstOf_l, nLstOf_t, dAbs_i, itemsD_l, itemsD_t, iSeq_ap, iSeqL_ap', seqL_l, iRng1_ap, iRng2_ap, iDown_ap, iEnum_ap, iZip_ap, zip2_l, isi_ap, isTy_int_non, isTy_int_bl, isTy_int_int, isTy_int_str, isTy_int_lst, isTy_int_tup, isTy_int_dct, isTy_bool_non, isTy_bool_bl, isTy_bool_int, isTy_bool_str, isTy_bool_lst, isTy_bool_tup, isTy_bool_dct, isTy_str_non, isTy_str_bl, isTy_str_int, isTy_str_str, isTy_str_lst, isTy_str_tup, isTy_str_dct, isTy_tuple_non, isTy_tuple_bl, isTy_tuple_int, isTy_tuple_str, isTy_tuple_lst, isTy_tuple_tup, isTy_tuple_dct, isTy_list_non, isTy_list_bl, isTy_list_int, isTy_list_str, isTy_list_lst, isTy_list_tup, isTy_list_dct, isTy_dict_non, isTy_dict_bl, isTy_dict_int, isTy_dict_str, isTy_dict_lst, isTy_dict_tup, isTy_dict_dct, dIx_l, dIx_t, nLc_ap, gN_ap, goOn_nx, goOn_rt, goOn_rtO, sSeq_ap, sNext_ap, sSet_ap, sOwn_ap, sTgt_ap, sRet_ap, retO_own, sRetO_ap, sIf_ap, sDrop_ap, sFor_ap, sApp_ap, sParN_ap, sParNK_ap, sVia_ap, eCall_ap, eCallV_ap, val_d, val_o, fin_rt, fin_rtO, fin_nx, DL.start, List.map_cons, List.map_nil, List.length_cons, List.length_nil, List.replicate, List.cons_append, List.nil_append, List.getElem?_cons_zero, List.getElem?_cons_succ, List.set_cons_zero, List.set_cons_succ, wipeG, Nat.reduceSub, Nat.reduceAdd, Nat.reduceLT, Nat.reduceLeDiff, if_true, if_false, Bool.not_true, Bool.not_false, Option.bind_some, Option.map_some, sortP_l]
          refine ob_lcm pairD (fun p => .int p.2) (fun p _ => ?_) (by simp only [lim, sortP, len_sortBy, List.length_map]; omega) ?_
          · have : atD [D.int p.1, .int p.2] 1 = some (.int p.2) := rfl
            simp -implicitDefEqProofs only [ob_some, ob_bind, ob_map, eC_ap, eN_ap, eV_ap, slotN_dat, slotV_dat, slotV_own, slotV_odc, e1_ap, e2_ap, n2_ap, nLen_ap, aN_ap, aC_ap, eApp_ap, eTup_ap, nLst_ap, mkTup_0, mkTup_1, mkTup_2, mkTup_3, mkTup_4, mkLst_0, eL_ap, tV_ap, asBl_bl, tU_ap, ifB_t, ifB_f, tAnd_ap, tOr_ap, tNot_ap, tYes_ap, eIf_ap, ifD_bl, eAnd_ap, eOr_ap, notD_bl, eNot_ap, eChain_ap, dAdd_i, dSub_i, dNeg_i, dLt_i, dLe_i, dGt_i, dGe_i, dIsN2_n, dNotB_b, dEq_i, dNe_i, dEq_b, dNe_b, dEq_s, dNe_s, dLen_l, dLen_t, dLen_s, dTupOf_l, dTupOf_t, nLstOf_l, nLstOf_t, dAbs_i, itemsD_l, itemsD_t, iSeq_ap, iSeqL_ap', seqL_l, iRng1_ap, iRng2_ap, iDown_ap, iEnum_ap, iZip_ap, zip2_l, isi_ap, isTy_int_non, isTy_int_bl, isTy_int_int, isTy_int_str, isTy_int_lst, isTy_int_tup, isTy_int_dct, isTy_bool_non, isTy_bool_bl, isTy_bool_int, isTy_bool_str, isTy_bool_lst, isTy_bool_tup, isTy_bool_dct, isTy_str_non, isTy_str_bl, isTy_str_int, isTy_str_str, isTy_str_lst, isTy_str_tup, isTy_str_dct, isTy_tuple_non, isTy_tuple_bl, isTy_tuple_int, isTy_tuple_str, isTy_tuple_lst, isTy_tuple_tup, isTy_tuple_dct, isTy_list_non, isTy_list_bl, isTy_list_int, isTy_list_str, isTy_list_lst, isTy_list_tup, isTy_list_dct, isTy_dict_non, isTy_dict_bl, isTy_dict_int, isTy_dict_str, isTy_dict_lst, isTy_dict_tup, isTy_dict_dct, dIx_l, dIx_t, nLc_ap, gN_ap, goOn_nx, goOn_rt, goOn_rtO, sSeq_ap, sNext_ap, sSet_ap, sOwn_ap, sTgt_ap, sRet_ap, retO_own, sRetO_ap, sIf_ap, sDrop_ap, sFor_ap, sApp_ap, sParN_ap, sParNK_ap, sVia_ap, eCall_ap, eCallV_ap, val_d, val_o, fin_rt, fin_rtO, fin_nx, DL.start, List.map_cons, List.map_nil, List.length_cons, List.length_nil, List.replicate, List.cons_append, List.nil_append, List.getElem?_cons_zero, List.getElem?_cons_succ, List.set_cons_zero, List.set_cons_succ, wipeG, Nat.reduceSub, Nat.reduceAdd, Nat.reduceLT, Nat.reduceLeDiff, if_true, if_false, Bool.not_true, Bool.not_false, Option.bind_some, Option.map_some, pairD, this, true_and]
          · have e1 : ((sortP (own.map fun l => ((l.natAbs : Int), l))).map fun p => D.int p.2) = (rowOf own).map .int := by simp [rowOf]
            rw [e1]
            have := nx (rowOf own) s6 s7 s9 s10 ⟨fun l hl => o1 l ((rowOf_mem own l).mp hl), rowOf_asc own o2⟩ (by rw [rowOf_len]; omega)
            simp -implicitDefEqProofs only [ob_some, ob_bind, ob_map, eC_ap, eN_ap, eV_ap, slotN_dat, slotV_dat, slotV_own, slotV_odc, e1_ap, e2_ap, n2_ap, nLen_ap, aN_ap, aC_ap, eApp_ap, eTup_ap, nLst_ap, mkTup_0, mkTup_1, mkTup_2, mkTup_3, mkTup_4, mkLst_0, eL_ap, tV_ap, asBl_bl, tU_ap, ifB_t, ifB_f, tAnd_ap, tOr_ap, tNot_ap, tYes_ap, eIf_ap, ifD_bl, eAnd_ap, eOr_ap, notD_bl, eNot_ap, eChain_ap, dAdd_i, dSub_i, dNeg_i, dLt_i, dLe_i, dGt_i, dGe_i, dIsN2_n, dNotB_b, dEq_i, dNe_i, dEq_b, dNe_b, dEq_s, dNe_s, dLen_l, dLen_t, dLen_s, dTupOf_l, dTupOf_t, nLstOf_l, nLstOf_t, dAbs_i, itemsD_l, itemsD_t, iSeq_ap, iSeqL_ap', seqL_l, iRng1_ap, iRng2_ap, iDown_ap, iEnum_ap, iZip_ap, zip2_l, isi_ap, isTy_int_non, isTy_int_bl, isTy_int_int, isTy_int_str, isTy_int_lst, isTy_int_tup, isTy_int_dct, isTy_bool_non, isTy_bool_bl, isTy_bool_int, isTy_bool_str, isTy_bool_lst, isTy_bool_tup, isTy_bool_dct, isTy_str_non, isTy_str_bl, isTy_str_int, isTy_str_str, isTy_str_lst, isTy_str_tup, isTy_str_dct, isTy_tuple_non, isTy_tuple_bl, isTy_tuple_int, isTy_tuple_str, isTy_tuple_lst, isTy_tuple_tup, isTy_tuple_dct, isTy_list_non, isTy_list_bl, isTy_list_int, isTy_list_str, isTy_list_lst, isTy_list_tup, isTy_list_dct, isTy_dict_non, isTy_dict_bl, isTy_dict_int, isTy_dict_str, isTy_dict_lst, isTy_dict_tup, isTy_dict_dct, dIx_l, dIx_t, nLc_ap, gN_ap, goOn_nx, goOn_rt, goOn_rtO, sSeq_ap, sNext_ap, sSet_ap, sOwn_ap, sTgt_ap, sRet_ap, retO_own, sRetO_ap, sIf_ap, sDrop_ap, sFor_ap, sApp_ap, sParN_ap, sParNK_ap, sVia_ap, eCall_ap, eCallV_ap, val_d, val_o, fin_rt, fin_rtO, fin_nx, DL.start, List.map_cons, List.map_nil, List.length_cons, List.length_nil, List.replicate, List.cons_append, List.nil_append, List.getElem?_cons_zero, List.getElem?_cons_succ, List.set_cons_zero, List.set_cons_succ, wipeG, Nat.reduceSub, Nat.reduceAdd, Nat.reduceLT, Nat.reduceLeDiff, if_true, if_false, Bool.not_true, Bool.not_false, Option.bind_some, Option.map_some, tI] at this
            exact this
      · simp -implicitDefEqProofs only [ob_some, ob_bind, ob_map, eC_ap, eN_ap, eV_ap, slotN_dat, slotV_dat, slotV_own, slotV_odc, e1_ap, e2_ap, n2_ap, nLen_ap, aN_ap, aC_ap, eApp_ap, eTup_ap, nLst_ap, mkTup_0, mkTup_1, mkTup_2, mkTup_3, mkTup_4, mkLst_0, eL_ap, tV_ap, asBl_bl, tU_ap, ifB_t, ifB_f, tAnd_ap, tOr_ap, tNot_ap, tYes_ap, eIf_ap, ifD_bl, eAnd_ap, eOr_ap, notD_bl, eNot_ap, eChain_ap, dAdd_i, dSub_i, dNeg_i, dLt_i, dLe_i, dGt_i, dGe_i, dIsN2_n, dNotB_b, dEq_i, dNe_i, dEq_b, dNe_b, dEq_s, dNe_s, dLen_l, dLen_t, dLen_s, dTupOf_l, dTupOf_t, nLstOf_l, nLstOf_t, dAbs_i, itemsD_l, itemsD_t, iSeq_ap, iSeqL_ap', seqL_l, iRng1_ap, iRng2_ap, iDown_ap, iEnum_ap, iZip_ap, zip2_l, isi_ap, isTy_int_non, isTy_int_bl, isTy_int_int, isTy_int_str, isTy_int_lst, isTy_int_tup, isTy_int_dct, isTy_bool_non, isTy_bool_bl, isTy_bool_int, isTy_bool_str, isTy_bool_lst, isTy_bool_tup, isTy_bool_dct, isTy_str_non, isTy_str_bl, isTy_str_int, isTy_str_str, isTy_str_lst, isTy_str_tup, isTy_str_dct, isTy_tuple_non, isTy_tuple_bl, isTy_tuple_int, isTy_tuple_str, isTy_tuple_lst, isTy_tuple_tup, isTy_tuple_dct, isTy_list_non, isTy_list_bl, isTy_list_int, isTy_list_str, isTy_list_lst, isTy_list_tup, isTy_list_dct, isTy_dict_non, isTy_dict_bl, isTy_dict_int, isTy_dict_str, isTy_dict_lst, isTy_dict_tup, isTy_dict_dct, dIx_l, dIx_t, nLc_ap, gN_ap, goOn_nx, goOn_rt, goOn_rtO, sSeq_ap, sNext_ap, sSet_ap, sOwn_ap, sTgt_ap, sRet_ap, retO_own, sRetO_ap, sIf_ap, sDrop_ap, sFor_ap, sApp_ap, sParN_ap, sParNK_ap, sVia_ap, eCall_ap, eCallV_ap, val_d, val_o, fin_rt, fin_rtO, fin_nx, DL.start, List.map_cons, List.map_nil, List.length_cons, List.length_nil, List.replicate, List.cons_append, List.nil_append, List.getElem?_cons_zero, List.getElem?_cons_succ, List.set_cons_zero, List.set_cons_succ, wipeG, Nat.reduceSub, Nat.reduceAdd, Nat.reduceLT, Nat.reduceLeDiff, if_true, if_false, Bool.not_true, Bool.not_false, Option.bind_some, Option.map_some, decide_eq_false hgt]
        have := nx [] s6 s7 s9 s10 ⟨by simp, List.Pairwise.nil⟩ (by simp)
        simp -implicitDefEqProofs only [ob_some, ob_bind, ob_map, eC_ap, eN_ap, eV_ap, slotN_dat, slotV_dat, slotV_own, slotV_odc, e1_ap, e2_ap, n2_ap, nLen_ap, aN_ap, aC_ap, eApp_ap, eTup_ap, nLst_ap, mkTup_0, mkTup_1, mkTup_2, mkTup_3, mkTup_4, mkLst_0, eL_ap, tV_ap, asBl_bl, tU_ap, ifB_t, ifB_f, tAnd_ap, tOr_ap, tNot_ap, tYes_ap, eIf_ap, ifD_bl, eAnd_ap, eOr_ap, notD_bl, eNot_ap, eChain_ap, dAdd_i, dSub_i, dNeg_i, dLt_i, dLe_i, dGt_i, dGe_i, dIsN2_n, dNotB_b, dEq_i, dNe_i, dEq_b, dNe_b, dEq_s, dNe_s, dLen_l, dLen_t, dLen_s, dTupOf_l, dTupOf_t, nLstOf_l, nLstOf_t, dAbs_i, itemsD_l, itemsD_t, iSeq_ap, iSeqL_ap', seqL_l, iRng1_ap, iRng2_ap, iDown_ap, iEnum_ap, iZip_ap, zip2_l, isi_ap, isTy_int_non, isTy_int_bl, isTy_int_int, isTy_int_str, isTy_int_lst, isTy_int_tup, isTy_int_dct, isTy_bool_non, isTy_bool_bl, isTy_bool_int, isTy_bool_str, isTy_bool_lst, isTy_bool_tup, isTy_bool_dct, isTy_str_non, isTy_str_bl, isTy_str_int, isTy_str_str, isTy_str_lst, isTy_str_tup, isTy_str_dct, isTy_tuple_non, isTy_tuple_bl, isTy_tuple_int, isTy_tuple_str, isTy_tuple_lst, isTy_tuple_tup, isTy_tuple_dct, isTy_list_non, isTy_list_bl, isTy_list_int, isTy_list_str, isTy_list_lst, isTy_list_tup, isTy_list_dct, isTy_dict_non, isTy_dict_bl, isTy_dict_int, isTy_dict_str, isTy_dict_lst, isTy_dict_tup, isTy_dict_dct, dIx_l, dIx_t, nLc_ap, gN_ap, goOn_nx, goOn_rt, goOn_rtO, sSeq_ap, sNext_ap, sSet_ap, sOwn_ap, sTgt_ap, sRet_ap, retO_own, sRetO_ap, sIf_ap, sDrop_ap, sFor_ap, sApp_ap, sParN_ap, sParNK_ap, sVia_ap, eCall_ap, eCallV_ap, val_d, val_o, fin_rt, fin_rtO, fin_nx, DL.start, List.map_cons, List.map_nil, List.length_cons, List.length_nil, List.replicate, List.cons_append, List.nil_append, List.getElem?_cons_zero, List.getElem?_cons_succ, List.set_cons_zero, List.set_cons_succ, wipeG, Nat.reduceSub, Nat.reduceAdd, Nat.reduceLT, Nat.reduceLeDiff, if_true, if_false, Bool.not_true, Bool.not_false, Option.bind_some, Option.map_some, tI] at this
        exact this
  · rintro g ⟨rows, s3, s4, s5, s6, s7, s8, s9, s10, rfl, v, hr⟩
    simp -implicitDefEqProofs only [ob_some, ob_bind, ob_map, eC_ap, eN_ap, eV_ap, slotN_dat, slotV_dat, slotV_own, slotV_odc, e1_ap, e2_ap, n2_ap, nLen_ap, aN_ap, aC_ap, eApp_ap, eTup_ap, nLst_ap, mkTup_0, mkTup_1, mkTup_2, mkTup_3, mkTup_4, mkLst_0, eL_ap, tV_ap, asBl_bl, tU_ap, ifB_t, ifB_f, tAnd_ap, tOr_ap, tNot_ap, tYes_ap, eIf_ap, ifD_bl, eAnd_ap, eOr_ap, notD_bl, eNot_ap, eChain_ap, dAdd_i, dSub_i, dNeg_i, dLt_i, dLe_i, dGt_i, dGe_i, dIsN2_n, dNotB_b, dEq_i, dNe_i, dEq_b, dNe_b, dEq_s, dNe_s, dLen_l, dLen_t, dLen_s, dTupOf_l, dTupOf_t, nLstOf_l, nLstOf_t, dAbs_i, itemsD_l, itemsD_t, iSeq_ap, iSeqL_ap', seqL_l, iRng1_ap, iRng2_ap, iDown_ap, iEnum_ap, iZip_ap, zip2_l, isi_ap, isTy_int_non, isTy_int_bl, isTy_int_int, isTy_int_str, isTy_int_lst, isTy_int_tup, isTy_int_dct, isTy_bool_non, isTy_bool_bl, isTy_bool_int, isTy_bool_str, isTy_bool_lst, isTy_bool_tup, isTy_bool_dct, isTy_str_non, isTy_str_bl, isTy_str_int, isTy_str_str, isTy_str_lst, isTy_str_tup, isTy_str_dct, isTy_tuple_non, isTy_tuple_bl, isTy_tuple_int, isTy_tuple_str, isTy_tuple_lst, isTy_tuple_tup, isTy_tuple_dct, isTy_list_non, isTy_list_bl, isTy_list_int, isTy_list_str, isTy_list_lst, isTy_list_tup, isTy_list_dct, isTy_dict_non, isTy_dict_bl, isTy_dict_int, isTy_dict_str, isTy_dict_lst, isTy_dict_tup, isTy_dict_dct, dIx_l, dIx_t, nLc_ap, gN_ap, goOn_nx, goOn_rt, goOn_rtO, sSeq_ap, sNext_ap, sSet_ap, sOwn_ap, sTgt_ap, sRet_ap, retO_own, sRetO_ap, sIf_ap, sDrop_ap, sFor_ap, sApp_ap, sParN_ap, sParNK_ap, sVia_ap, eCall_ap, eCallV_ap, val_d, val_o, fin_rt, fin_rtO, fin_nx, DL.start, List.map_cons, List.map_nil, List.length_cons, List.length_nil, List.replicate, List.cons_append, List.nil_append, List.getElem?_cons_zero, List.getElem?_cons_succ, List.set_cons_zero, List.set_cons_succ, wipeG, Nat.reduceSub, Nat.reduceAdd, Nat.reduceLT, Nat.reduceLeDiff, if_true, if_false, Bool.not_true, Bool.not_false, Option.bind_some, Option.map_some]
    have h8 : (List.range (8 : Int).toNat).length = 8 := rfl
    exact ⟨_, rfl, v, by omega⟩
end Gk00
end
/-! T13 -/
section
set_option linter.all false
namespace Gk00
open PySem DL DM

theorem bits_below_eq {b : Nat} {rows : List (List Int)} (v : Valid b rows) (hb : b ≤ 4) (ls : List Int) (hl : ∀ l ∈ ls, 1 ≤ l.natAbs ∧ l.natAbs ≤ b + rows.length) (hn : ls.length ≤ 10)
    (W : List Nat) (hW : ∀ x, x ∈ W ↔ Rch b rows (ls.map Int.natAbs) x) :
    f_bits_below [gD b rows, tI ls] = some (.d (tI (((nd (b + rows.length) W).filter fun x => decide (x ≤ (b : Int))).map fun x => x - 1))) := by
  apply of_fn rfl
  unfold s_bits_below
  have hr := v.rs
  have hnl : (nd (b + rows.length) W).length ≤ b + rows.length := by
    unfold nd; rw [List.length_map]; exact Nat.le_trans (List.length_filter_le _ _) (by simp)
  have i1 : dIx (gD b rows) (.int 1) = some (.int b) := rfl
  have q := needed_eq v hb ls hl hn W hW
  simp only [tI] at q
  simp -implicitDefEqProofs only [ob_some, ob_bind, ob_map, eC_ap, eN_ap, eV_ap, slotN_dat, slotV_dat, slotV_own, slotV_odc, e1_ap, e2_ap, n2_ap, nLen_ap, aN_ap, aC_ap, eApp_ap, eTup_ap, nLst_ap, mkTup_0, mkTup_1, mkTup_2, mkTup_3, mkTup_4, mkLst_0, eL_ap, tV_ap, asBl_bl, tU_ap, ifB_t, ifB_f, tAnd_ap, tOr_ap, tNot_ap, tYes_ap, eIf_ap, ifD_bl, eAnd_ap, eOr_ap, notD_bl, eNot_ap, eChain_ap, dAdd_i, dSub_i, dNeg_i, dLt_i, dLe_i, dGt_i, dGe_i, dIsN2_n, dNotB_b, dEq_i, dNe_i, dEq_b, dNe_b, dEq_s, dNe_s, dLen_l, dLen_t, dLen_s, dTupOf_l, dTupOf_t, nLstOf_l, nLstOf_t, dAbs_i, itemsD_l, itemsD_t, iSeq_ap, iSeqL_ap', seqL_l, iRng1_ap, iRng2_ap, iDown_ap, iEnum_ap, iZip_ap, zip2_l, isi_ap, isTy_int_non, isTy_int_bl, isTy_int_int, isTy_int_str, isTy_int_lst, isTy_int_tup, isTy_int_dct, isTy_bool_non, isTy_bool_bl, isTy_bool_int, isTy_bool_str, isTy_bool_lst, isTy_bool_tup, isTy_bool_dct, isTy_str_non, isTy_str_bl, isTy_str_int, isTy_str_str, isTy_str_lst, isTy_str_tup, isTy_str_dct, isTy_tuple_non, isTy_tuple_bl, isTy_tuple_int, isTy_tuple_str, isTy_tuple_lst, isTy_tuple_tup, isTy_tuple_dct, isTy_list_non, isTy_list_bl, isTy_list_int, isTy_list_str, isTy_list_lst, isTy_list_tup, isTy_list_dct, isTy_dict_non, isTy_dict_bl, isTy_dict_int, isTy_dict_str, isTy_dict_lst, isTy_dict_tup, isTy_dict_dct, dIx_l, dIx_t, nLc_ap, gN_ap, goOn_nx, goOn_rt, goOn_rtO, sSeq_ap, sNext_ap, sSet_ap, sOwn_ap, sTgt_ap, sRet_ap, retO_own, sRetO_ap, sIf_ap, sDrop_ap, sFor_ap, sApp_ap, sParN_ap, sParNK_ap, sVia_ap, eCall_ap, eCallV_ap, val_d, val_o, fin_rt, fin_rtO, fin_nx, DL.start, List.map_cons, List.map_nil, List.length_cons, List.length_nil, List.replicate, List.cons_append, List.nil_append, List.getElem?_cons_zero, List.getElem?_cons_succ, List.set_cons_zero, List.set_cons_succ, wipeG, Nat.reduceSub, Nat.reduceAdd, Nat.reduceLT, Nat.reduceLeDiff, if_true, if_false, Bool.not_true, Bool.not_false, Option.bind_some, Option.map_some, q, tI]
  refine ob_lc (l := nd (b + rows.length) W) .int (fun x => decide (x ≤ (b : Int))) (fun x => .int (x - 1)) (fun x _ => ?_) (by simp only [lim]; omega) ?_
  · simp -implicitDefEqProofs only [ob_some, ob_bind, ob_map, eC_ap, eN_ap, eV_ap, slotN_dat, slotV_dat, slotV_own, slotV_odc, e1_ap, e2_ap, n2_ap, nLen_ap, aN_ap, aC_ap, eApp_ap, eTup_ap, nLst_ap, mkTup_0, mkTup_1, mkTup_2, mkTup_3, mkTup_4, mkLst_0, eL_ap, tV_ap, asBl_bl, tU_ap, ifB_t, ifB_f, tAnd_ap, tOr_ap, tNot_ap, tYes_ap, eIf_ap, ifD_bl, eAnd_ap, eOr_ap, notD_bl, eNot_ap, eChain_ap, dAdd_i, dSub_i, dNeg_i, dLt_i, dLe_i, dGt_i, dGe_i, dIsN2_n, dNotB_b, dEq_i, dNe_i, dEq_b, dNe_b, dEq_s, dNe_s, dLen_l, dLen_t, dLen_s, dTupOf_l, dTupOf_t, nLstOf_l, nLstOf_t, dAbs_i, itemsD_l, itemsD_t, iSeq_ap, iSeqL_ap', seqL_l, iRng1_ap, iRng2_ap, iDown_ap, iEnum_ap, iZip_ap, zip2_l, isi_ap, isTy_int_non, isTy_int_bl, isTy_int_int, isTy_int_str, isTy_int_lst, isTy_int_tup, isTy_int_dct, isTy_bool_non, isTy_bool_bl, isTy_bool_int, isTy_bool_str, isTy_bool_lst, isTy_bool_tup, isTy_bool_dct, isTy_str_non, isTy_str_bl, isTy_str_int, isTy_str_str, isTy_str_lst, isTy_str_tup, isTy_str_dct, isTy_tuple_non, isTy_tuple_bl, isTy_tuple_int, isTy_tuple_str, isTy_tuple_lst, isTy_tuple_tup, isTy_tuple_dct, isTy_list_non, isTy_list_bl, isTy_list_int, isTy_list_str, isTy_list_lst, isTy_list_tup, isTy_list_dct, isTy_dict_non, isTy_dict_bl, isTy_dict_int, isTy_dict_str, isTy_dict_lst, isTy_dict_tup, isTy_dict_dct, dIx_l, dIx_t, nLc_ap, gN_ap, goOn_nx, goOn_rt, goOn_rtO, sSeq_ap, sNext_ap, sSet_ap, sOwn_ap, sTgt_ap, sRet_ap, retO_own, sRetO_ap, sIf_ap, sDrop_ap, sFor_ap, sApp_ap, sParN_ap, sParNK_ap, sVia_ap, eCall_ap, eCallV_ap, val_d, val_o, fin_rt, fin_rtO, fin_nx, DL.start, List.map_cons, List.map_nil, List.length_cons, List.length_nil, List.replicate, List.cons_append, List.nil_append, List.getElem?_cons_zero, List.getElem?_cons_succ, List.set_cons_zero, List.set_cons_succ, wipeG, Nat.reduceSub, Nat.reduceAdd, Nat.reduceLT, Nat.reduceLeDiff, if_true, if_false, Bool.not_true, Bool.not_false, Option.bind_some, Option.map_some, i1, true_and, implies_true]
  · simp
def frz (i : Nat) (g : G) : Option Slot → G
  | some (.own ds) => g.set i (.dat (.lst ds))
  | some (.odc kvs) => g.set i (.dat (.dct kvs))
  | _ => g
theorem freeze_ap (i : Nat) (g : G) : freeze i g = frz i g g[i]? := by unfold freeze frz; rfl
theorem frz_own (i : Nat) (g : G) (ds : List D) : frz i g (some (.own ds)) = g.set i (.dat (.lst ds)) := rfl
def ofO : Rt → Option (List D)
  | .o es => some es
  | _ => none
theorem nCall_ap' (f : Fn) (a : M (List D)) (g : G) : nCall f a g = (a g).bind fun ds => (f ds).bind ofO := by
  unfold nCall; congr 1
theorem ofO_o (es : List D) : ofO (.o es) = some es := rfl
theorem rep8 : nRep (.lst [.int 120, .int 120, .int 120, .int 9]) (.int 8) = some ((List.replicate 8 [(120 : Int), 120, 120, 9]).flatten.map .int) := rfl
theorem rep4 : nRep (.lst [.int 3]) (.int 4) = some ([(3 : Int), 3, 3, 3].map .int) := rfl
def wrongs (b : Int) (R : List (List Int)) : List D := [.tup [.str "gates", .int (b - 1), .tup (R.map tI)], .tup [.str "gates", .int b, .lst (R.map tI)], .tup [.str "gate", .int b, .tup (R.map tI)], .tup [.str "gates", .int b], .non,
  .tup [.str "gates", .bl true, .tup []], .tup [.str "gates", .int b, .tup (R.map tI), .int 1]]
theorem wrongs_no (b : Int) (R : List (List Int)) (d : Int) (h : 0 ≤ d ∧ d < 7) : ∃ w, atD (wrongs b R) d = some w ∧ (0 < d → f_is_gates [w] = some (.d (.bl false))) := by
  have : d = 0 ∨ d = 1 ∨ d = 2 ∨ d = 3 ∨ d = 4 ∨ d = 5 ∨ d = 6 := by omega
  rcases this with rfl | rfl | rfl | rfl | rfl | rfl | rfl
  · exact ⟨_, rfl, fun h => absurd h (by decide)⟩
  · exact ⟨_, rfl, fun _ => wrong1 _ _⟩
  · exact ⟨_, rfl, fun _ => wrong2 _ _⟩
  · exact ⟨_, rfl, fun _ => wrong3 _⟩
  · exact ⟨_, rfl, fun _ => wrong4⟩
  · exact ⟨_, rfl, fun _ => wrong5 _⟩
  · exact ⟨_, rfl, fun _ => wrong6 _ _ _⟩
theorem bents_at (m : Int) (r : D) (d : Int) (h : 0 ≤ d ∧ d < 14) : ∃ w, (bents m r)[d.toNat]? = some w ∧ w ∈ bents m r := by
  have hl : d.toNat < (bents m r).length := by
    have : (bents m r).length = 14 := rfl
    omega
  exact ⟨_, List.getElem?_eq_getElem hl, List.getElem_mem hl⟩
def tri (q : Int) : Option Bool := if q = 0 then none else if q = 1 then some false else some true
theorem tri_at (q : Int) (h : 0 ≤ q ∧ q < 3) : atD [D.non, .bl false, .bl true] q = some (oB (tri q)) := by
  have : q = 0 ∨ q = 1 ∨ q = 2 := by omega
  rcases this with rfl | rfl | rfl <;> rfl
theorem draw0 (ns : List Int) : ∃ d0 d1 d2 d3 d4 d5 : Int, f__law_draw [.scr ns, .int 0, .lst [.int 3, .int 14, .int 60, .int 60, .int 60, .int 7]] = some (.o ([d0, d1, d2, d3, d4, d5].map .int)) ∧
    (0 ≤ d0 ∧ d0 < 3) ∧ (0 ≤ d1 ∧ d1 < 14) ∧ (0 ≤ d2 ∧ d2 < 60) ∧ (0 ≤ d3 ∧ d3 < 60) ∧ (0 ≤ d4 ∧ d4 < 60) ∧ (0 ≤ d5 ∧ d5 < 7) := by
  obtain ⟨ds, h1, h2⟩ := law_draw_eq ns 0 [3, 14, 60, 60, 60, 7] (by intro s hs; simp at hs; omega) (by simp)
  have hl := fit_len _ _ h2
  match ds, hl, h1, h2 with
  | [d0, d1, d2, d3, d4, d5], _, h1, h2 => exact ⟨d0, d1, d2, d3, d4, d5, h1, h2.1, h2.2.1, h2.2.2.1, h2.2.2.2.1, h2.2.2.2.2.1, h2.2.2.2.2.2.1⟩
theorem draw1 (ns : List Int) : ∃ d0 d1 d2 d3 : Int, f__law_draw [.scr ns, .int 1, .lst ([(3 : Int), 3, 3, 3].map .int)] = some (.o ([d0, d1, d2, d3].map .int)) ∧
    (0 ≤ d0 ∧ d0 < 3) ∧ (0 ≤ d1 ∧ d1 < 3) ∧ (0 ≤ d2 ∧ d2 < 3) ∧ (0 ≤ d3 ∧ d3 < 3) := by
  obtain ⟨ds, h1, h2⟩ := law_draw_eq ns 1 [3, 3, 3, 3] (by intro s hs; simp at hs; omega) (by simp)
  have hl := fit_len _ _ h2
  match ds, hl, h1, h2 with
  | [d0, d1, d2, d3], _, h1, h2 => exact ⟨d0, d1, d2, d3, h1, h2.1, h2.2.1, h2.2.2.1, h2.2.2.2.1⟩
theorem draw2 (ns : List Int) : ∃ cells : List Int, f__law_draw [.scr ns, .int 2, .lst ((List.replicate 8 [(120 : Int), 120, 120, 9]).flatten.map .int)] = some (.o (cells.map .int)) ∧ cells.length = 32 := by
  obtain ⟨ds, h1, h2⟩ := law_draw_eq ns 2 (List.replicate 8 [(120 : Int), 120, 120, 9]).flatten (by intro s hs; simp at hs; omega) (by simp)
  exact ⟨ds, h1, fit_len _ _ h2⟩
theorem zip_map {α : Type} (l : List α) (f g : α → D) : zipD (l.map f) (l.map g) = l.map fun x => .tup [f x, g x] := by
  induction l with
  | nil => rfl
  | cons x l ih => simp [zipD, ih]
end Gk00
end
/-! T14 -/
section
set_option linter.all false
namespace Gk00
open PySem DL DM
set_option maxHeartbeats 2000000 in
theorem law_true (ns : List Int) (hn : ns.length ≤ 63) : f_law [.scr ns] = some (.d (.bl true)) := by
  apply of_fn rfl
  unfold s_law
  obtain ⟨d0, d1, d2, d3, d4, d5, hd, b0, b1, b2, b3, b4, b5⟩ := draw0 ns
  obtain ⟨e0, e1, e2, e3, he, c0, c1, c2, c3⟩ := draw1 ns
  obtain ⟨cells, hc, hcl⟩ := draw2 ns
  obtain ⟨b, hb⟩ : ∃ b : Nat, (b : Int) = 2 + d0 := ⟨(2 + d0).toNat, by omega⟩
  have hb4 : b ≤ 4 := by omega
  have hb3 : b = 2 ∨ b = 3 ∨ b = 4 := by omega
  obtain ⟨rows0, hr0, v0, l0⟩ := law_rows_eq cells hcl b (by omega) hb4
  have f1 : dAdd (.lst ([d0, d1, d2, d3, d4, d5].map .int)) (.lst ([e0, e1, e2, e3].map .int)) = some (.lst ([d0, d1, d2, d3, d4, d5, e0, e1, e2, e3].map .int)) := rfl
  have nt := notin_tI [1, 2] rows0
  simp -implicitDefEqProofs only [ob_some, ob_bind, ob_map, eC_ap, eN_ap, eV_ap, slotN_dat, slotV_dat, slotV_own, slotV_odc, e1_ap, e2_ap, n2_ap, nLen_ap, aN_ap, aC_ap, eApp_ap, eTup_ap, nLst_ap, mkTup_0, mkTup_1, mkTup_2, mkTup_3, mkTup_4, mkLst_0, eL_ap, tV_ap, asBl_bl, tU_ap, ifB_t, ifB_f, tAnd_ap, tOr_ap, tNot_ap, tYes_ap, eIf_ap, ifD_bl, eAnd_ap, eOr_ap, notD_bl, eNot_ap, eChain_ap, dAdd_i, dSub_i, dNeg_i, dLt_i, dLe_i, dGt_i, dGe_i, dIsN2_n, dNotB_b, dEq_i, dNe_i, dEq_b, dNe_b, dEq_s, dNe_s, dLen_l, dLen_t, dLen_s, dTupOf_l, dTupOf_t, nLstOf_l, nLstOf_t, dAbs_i, itemsD_l, itemsD_t, iSeq_ap, iSeqL_ap', seqL_l, iRng1_ap, iRng2_ap, iDown_ap, iEnum_ap, iZip_ap, zip2_l, isi_ap, isTy_int_non, isTy_int_bl, isTy_int_int, isTy_int_str, isTy_int_lst, isTy_int_tup, isTy_int_dct, isTy_bool_non, isTy_bool_bl, isTy_bool_int, isTy_bool_str, isTy_bool_lst, isTy_bool_tup, isTy_bool_dct, isTy_str_non, isTy_str_bl, isTy_str_int, isTy_str_str, isTy_str_lst, isTy_str_tup, isTy_str_dct, isTy_tuple_non, isTy_tuple_bl, isTy_tuple_int, isTy_tuple_str, isTy_tuple_lst, isTy_tuple_tup, isTy_tuple_dct, isTy_list_non, isTy_list_bl, isTy_list_int, isTy_list_str, isTy_list_lst, isTy_list_tup, isTy_list_dct, isTy_dict_non, isTy_dict_bl, isTy_dict_int, isTy_dict_str, isTy_dict_lst, isTy_dict_tup, isTy_dict_dct, dIx_l, dIx_t, nLc_ap, gN_ap, goOn_nx, goOn_rt, goOn_rtO, sSeq_ap, sNext_ap, sSet_ap, sOwn_ap, sTgt_ap, sRet_ap, retO_own, sRetO_ap, sIf_ap, sDrop_ap, sFor_ap, sApp_ap, sParN_ap, sParNK_ap, sVia_ap, eCall_ap, eCallV_ap, val_d, val_o, fin_rt, fin_rtO, fin_nx, DL.start, List.map_cons, List.map_nil, List.length_cons, List.length_nil, List.replicate, List.cons_append, List.nil_append, List.getElem?_cons_zero, List.getElem?_cons_succ, List.set_cons_zero, List.set_cons_succ, wipeG, Nat.reduceSub, Nat.reduceAdd, Nat.reduceLT, Nat.reduceLeDiff, if_true, if_false, Bool.not_true, Bool.not_false, Option.bind_some, Option.map_some, tI] at nt
  generalize hds : [d0, d1, d2, d3, d4, d5, e0, e1, e2, e3] = ds at f1
  have g0 : atD (ds.map .int) 0 = some (.int d0) := by rw [← hds]; rfl
  have g1 : atD (ds.map .int) 1 = some (.int d1) := by rw [← hds]; rfl
  have g2 : atD (ds.map .int) 2 = some (.int d2) := by rw [← hds]; rfl
  have g3 : atD (ds.map .int) 3 = some (.int d3) := by rw [← hds]; rfl
  have g4 : atD (ds.map .int) 4 = some (.int d4) := by rw [← hds]; rfl
  have g5 : atD (ds.map .int) 5 = some (.int d5) := by rw [← hds]; rfl
  simp only [List.map_cons, List.map_nil] at f1 hd he
  simp only [List.replicate] at hc
  simp -implicitDefEqProofs only [ob_some, ob_bind, ob_map, eC_ap, eN_ap, eV_ap, slotN_dat, slotV_dat, slotV_own, slotV_odc, e1_ap, e2_ap, n2_ap, nLen_ap, aN_ap, aC_ap, eApp_ap, eTup_ap, nLst_ap, mkTup_0, mkTup_1, mkTup_2, mkTup_3, mkTup_4, mkLst_0, eL_ap, tV_ap, asBl_bl, tU_ap, ifB_t, ifB_f, tAnd_ap, tOr_ap, tNot_ap, tYes_ap, eIf_ap, ifD_bl, eAnd_ap, eOr_ap, notD_bl, eNot_ap, eChain_ap, dAdd_i, dSub_i, dNeg_i, dLt_i, dLe_i, dGt_i, dGe_i, dIsN2_n, dNotB_b, dEq_i, dNe_i, dEq_b, dNe_b, dEq_s, dNe_s, dLen_l, dLen_t, dLen_s, dTupOf_l, dTupOf_t, nLstOf_l, nLstOf_t, dAbs_i, itemsD_l, itemsD_t, iSeq_ap, iSeqL_ap', seqL_l, iRng1_ap, iRng2_ap, iDown_ap, iEnum_ap, iZip_ap, zip2_l, isi_ap, isTy_int_non, isTy_int_bl, isTy_int_int, isTy_int_str, isTy_int_lst, isTy_int_tup, isTy_int_dct, isTy_bool_non, isTy_bool_bl, isTy_bool_int, isTy_bool_str, isTy_bool_lst, isTy_bool_tup, isTy_bool_dct, isTy_str_non, isTy_str_bl, isTy_str_int, isTy_str_str, isTy_str_lst, isTy_str_tup, isTy_str_dct, isTy_tuple_non, isTy_tuple_bl, isTy_tuple_int, isTy_tuple_str, isTy_tuple_lst, isTy_tuple_tup, isTy_tuple_dct, isTy_list_non, isTy_list_bl, isTy_list_int, isTy_list_str, isTy_list_lst, isTy_list_tup, isTy_list_dct, isTy_dict_non, isTy_dict_bl, isTy_dict_int, isTy_dict_str, isTy_dict_lst, isTy_dict_tup, isTy_dict_dct, dIx_l, dIx_t, nLc_ap, gN_ap, goOn_nx, goOn_rt, goOn_rtO, sSeq_ap, sNext_ap, sSet_ap, sOwn_ap, sTgt_ap, sRet_ap, retO_own, sRetO_ap, sIf_ap, sDrop_ap, sFor_ap, sApp_ap, sParN_ap, sParNK_ap, sVia_ap, eCall_ap, eCallV_ap, val_d, val_o, fin_rt, fin_rtO, fin_nx, DL.start, List.map_cons, List.map_nil, List.length_cons, List.length_nil, List.replicate, List.cons_append, List.nil_append, List.getElem?_cons_zero, List.getElem?_cons_succ, List.set_cons_zero, List.set_cons_succ, wipeG, Nat.reduceSub, Nat.reduceAdd, Nat.reduceLT, Nat.reduceLeDiff, if_true, if_false, Bool.not_true, Bool.not_false, Option.bind_some, Option.map_some, mkLst_c, hd, f1, rep4, he, g0, ← hb, rep8, hc, nCall_ap', ofO_o, hr0, nt]
  refine ob_mono (P := fun o => ∃ R : List (List Int), o = .nx [.dat (.scr ns), .dat (.lst (ds.map .int)), .dat (.int b), .own (R.map tI), .un, .un, .un, .un, .un, .un, .un, .un, .un, .un, .un, .un, .un, .un] ∧ Valid b R ∧ 0 < R.length) ?_ ?_
  · by_cases hin : [1, 2] ∈ rows0
    · simp -implicitDefEqProofs only [ob_some, ob_bind, ob_map, eC_ap, eN_ap, eV_ap, slotN_dat, slotV_dat, slotV_own, slotV_odc, e1_ap, e2_ap, n2_ap, nLen_ap, aN_ap, aC_ap, eApp_ap, eTup_ap, nLst_ap, mkTup_0, mkTup_1, mkTup_2, mkTup_3, mkTup_4, mkLst_0, eL_ap, tV_ap, asBl_bl, tU_ap, ifB_t, ifB_f, tAnd_ap, tOr_ap, tNot_ap, tYes_ap, eIf_ap, ifD_bl, eAnd_ap, eOr_ap, notD_bl, eNot_ap, eChain_ap, dAdd_i, dSub_i, dNeg_i, dLt_i, dLe_i, dGt_i, dGe_i, dIsN2_n, dNotB_b, dEq_i, dNe_i, dEq_b, dNe_b, dEq_s, dNe_s, dLen_l, dLen_t, dLen_s, dTupOf_l, dTupOf_t, nLstOf_l, nLstOf_t, dAbs_i, itemsD_l, itemsD_t, iSeq_ap, iSeqL_ap', seqL_l, iRng1_ap, iRng2_ap, iDown_ap, iEnum_ap, iZip_ap, zip2_l, isi_ap, isTy_int_non, isTy_int_bl, isTy_int_int, isTy_int_str, isTy_int_lst, isTy_int_tup, isTy_int_dct, isTy_bool_non, isTy_bool_bl, isTy_bool_int, isTy_bool_str, isTy_bool_lst, isTy_bool_tup, isTy_bool_dct, isTy_str_non, isTy_str_bl, isTy_str_int, isTy_str_str, isTy_str_lst, isTy_str_tup, isTy_str_dct, isTy_tuple_non, isTy_tuple_bl, isTy_tuple_int, isTy_tuple_str, isTy_tuple_lst, isTy_tuple_tup, isTy_tuple_dct, isTy_list_non, isTy_list_bl, isTy_list_int, isTy_list_str, isTy_list_lst, isTy_list_tup, isTy_list_dct, isTy_dict_non, isTy_dict_bl, isTy_dict_int, isTy_dict_str, isTy_dict_lst, isTy_dict_tup, isTy_dict_dct, dIx_l, dIx_t, nLc_ap, gN_ap, goOn_nx, goOn_rt, goOn_rtO, sSeq_ap, sNext_ap, sSet_ap, sOwn_ap, sTgt_ap, sRet_ap, retO_own, sRetO_ap, sIf_ap, sDrop_ap, sFor_ap, sApp_ap, sParN_ap, sParNK_ap, sVia_ap, eCall_ap, eCallV_ap, val_d, val_o, fin_rt, fin_rtO, fin_nx, DL.start, List.map_cons, List.map_nil, List.length_cons, List.length_nil, List.replicate, List.cons_append, List.nil_append, List.getElem?_cons_zero, List.getElem?_cons_succ, List.set_cons_zero, List.set_cons_succ, wipeG, Nat.reduceSub, Nat.reduceAdd, Nat.reduceLT, Nat.reduceLeDiff, if_true, if_false, Bool.not_true, Bool.not_false, Option.bind_some, Option.map_some, decide_eq_true hin]
      exact ⟨rows0, rfl, v0, List.length_pos_of_mem hin⟩
    · simp -implicitDefEqProofs only [ob_some, ob_bind, ob_map, eC_ap, eN_ap, eV_ap, slotN_dat, slotV_dat, slotV_own, slotV_odc, e1_ap, e2_ap, n2_ap, nLen_ap, aN_ap, aC_ap, eApp_ap, eTup_ap, nLst_ap, mkTup_0, mkTup_1, mkTup_2, mkTup_3, mkTup_4, mkLst_0, eL_ap, tV_ap, asBl_bl, tU_ap, ifB_t, ifB_f, tAnd_ap, tOr_ap, tNot_ap, tYes_ap, eIf_ap, ifD_bl, eAnd_ap, eOr_ap, notD_bl, eNot_ap, eChain_ap, dAdd_i, dSub_i, dNeg_i, dLt_i, dLe_i, dGt_i, dGe_i, dIsN2_n, dNotB_b, dEq_i, dNe_i, dEq_b, dNe_b, dEq_s, dNe_s, dLen_l, dLen_t, dLen_s, dTupOf_l, dTupOf_t, nLstOf_l, nLstOf_t, dAbs_i, itemsD_l, itemsD_t, iSeq_ap, iSeqL_ap', seqL_l, iRng1_ap, iRng2_ap, iDown_ap, iEnum_ap, iZip_ap, zip2_l, isi_ap, isTy_int_non, isTy_int_bl, isTy_int_int, isTy_int_str, isTy_int_lst, isTy_int_tup, isTy_int_dct, isTy_bool_non, isTy_bool_bl, isTy_bool_int, isTy_bool_str, isTy_bool_lst, isTy_bool_tup, isTy_bool_dct, isTy_str_non, isTy_str_bl, isTy_str_int, isTy_str_str, isTy_str_lst, isTy_str_tup, isTy_str_dct, isTy_tuple_non, isTy_tuple_bl, isTy_tuple_int, isTy_tuple_str, isTy_tuple_lst, isTy_tuple_tup, isTy_tuple_dct, isTy_list_non, isTy_list_bl, isTy_list_int, isTy_list_str, isTy_list_lst, isTy_list_tup, isTy_list_dct, isTy_dict_non, isTy_dict_bl, isTy_dict_int, isTy_dict_str, isTy_dict_lst, isTy_dict_tup, isTy_dict_dct, dIx_l, dIx_t, nLc_ap, gN_ap, goOn_nx, goOn_rt, goOn_rtO, sSeq_ap, sNext_ap, sSet_ap, sOwn_ap, sTgt_ap, sRet_ap, retO_own, sRetO_ap, sIf_ap, sDrop_ap, sFor_ap, sApp_ap, sParN_ap, sParNK_ap, sVia_ap, eCall_ap, eCallV_ap, val_d, val_o, fin_rt, fin_rtO, fin_nx, DL.start, List.map_cons, List.map_nil, List.length_cons, List.length_nil, List.replicate, List.cons_append, List.nil_append, List.getElem?_cons_zero, List.getElem?_cons_succ, List.set_cons_zero, List.set_cons_succ, wipeG, Nat.reduceSub, Nat.reduceAdd, Nat.reduceLT, Nat.reduceLeDiff, if_true, if_false, Bool.not_true, Bool.not_false, Option.bind_some, Option.map_some, decide_eq_false hin, appTo_own _ _ _ (rows0.map tI) (by simp only [List.length_map, lim]; omega)]
      refine ⟨rows0 ++ [[1, 2]], by simp [tI], valid_more v0 [1, 2] ⟨?_, ?_⟩ (by simp) hin (by simp) l0, by simp⟩
      · intro l hl; simp at hl; rcases hl with rfl | rfl <;> simp <;> omega
      · simp
  rintro _ ⟨R, rfl, v, hR⟩
  have hRi : (0 : Int) < (R.length : Int) := by omega
  have hr9 := v.rs
  obtain ⟨m, hm⟩ : ∃ m : Nat, m = b + R.length := ⟨_, rfl⟩
  have hmi : (b : Int) + (R.length : Int) = (m : Int) := by omega
  have hmp : (0 : Int) < (m : Int) := by omega
  -- what the defs say of these gates
  have k1 := is_gates_valid v hb4
  have hpl := Int.emod_nonneg d2 (show (R.length : Int) ≠ 0 by omega)
  have hpl2 := Int.emod_lt_of_pos d2 hRi
  have hpr : R[(d2 % (R.length : Int)).toNat]? = some R[(d2 % (R.length : Int)).toNat] := List.getElem?_eq_getElem (by omega)
  obtain ⟨w, hw1, hw2⟩ := bents_at ((b : Int) + R.length) (tI R[(d2 % (R.length : Int)).toNat]) d1 b1
  have k2 := law_bent_eq b R d1 (d2 % (R.length : Int)) w hr9 hpl b1.1 _ hpr hw1
  have k3 := bent_no v hb4 _ (List.getElem_mem _) w hw2
  obtain ⟨w2, hw3, hw4⟩ := wrongs_no b R d5 b5
  simp only [wrongs] at hw3
  have k4 := variables_in_eq v hb4
  have k5 := codes_eq b hb3
  have k6 := law_codes_eq b hb3
  obtain ⟨cl1, cl2⟩ := cds_len b hb3
  have k7 := strictly_l (cds b) tB (fun c hc' => .tup _ _ (by intro d hd; rw [List.mem_map] at hd; obtain ⟨x, _, rfl⟩ := hd; exact .bl _ _) (by
    have := cl2 c hc'; simp only [List.length_map, lim]; omega)) (by simp only [lim]; omega)
  -- the literals
  have hl1 : (1 + d3 % (m : Int)).natAbs ≤ m ∧ 1 ≤ (1 + d3 % (m : Int)).natAbs := by
    have := Int.emod_nonneg d3 (show (m : Int) ≠ 0 by omega)
    have := Int.emod_lt_of_pos d3 hmp; omega
  have hl2 : (-(1 + d4 % (m : Int))).natAbs ≤ m ∧ 1 ≤ (-(1 + d4 % (m : Int))).natAbs := by
    have := Int.emod_nonneg d4 (show (m : Int) ≠ 0 by omega)
    have := Int.emod_lt_of_pos d4 hmp; omega
  obtain ⟨ls, hls⟩ : ∃ ls : List Int, ls = [1 + d3 % (m : Int), -(1 + d4 % (m : Int))] := ⟨_, rfl⟩
  have hlb : ∀ l ∈ ls, 1 ≤ l.natAbs ∧ l.natAbs ≤ b + R.length := by
    intro l hl; rw [hls] at hl; simp only [List.mem_cons, List.not_mem_nil, or_false] at hl
    rcases hl with rfl | rfl <;> omega
  have hln : ls.length ≤ 10 := by rw [hls]; simp
  have hlt : D.tup [.int (1 + d3 % (m : Int)), .int (-(1 + d4 % (m : Int)))] = tI ls := by rw [hls]; rfl
  obtain ⟨W, hW, k8⟩ := law_needed_eq v hb4 ls hlb hln
  have k9 := needed_eq v hb4 ls hlb hln W hW
  have k10 := bits_below_eq v hb4 ls hlb hln W hW
  have k11 := levels_eq v hb4
  have k12 := uses_eq v hb4
  have sI : ∀ l : List Int, l.length ≤ 1000 → f__law_strictly 6 [tI l, tI l] = some (.d (.bl true)) := fun l hl => strictly_t l .int (fun _ _ => .int _ _) (by simp only [lim]; omega)
  simp only [gD, hmi, ← hm] at k4 k9 k10 k11 k12 k8 k2
  simp -implicitDefEqProofs only [ob_some, ob_bind, ob_map, eC_ap, eN_ap, eV_ap, slotN_dat, slotV_dat, slotV_own, slotV_odc, e1_ap, e2_ap, n2_ap, nLen_ap, aN_ap, aC_ap, eApp_ap, eTup_ap, nLst_ap, mkTup_0, mkTup_1, mkTup_2, mkTup_3, mkTup_4, mkLst_0, eL_ap, tV_ap, asBl_bl, tU_ap, ifB_t, ifB_f, tAnd_ap, tOr_ap, tNot_ap, tYes_ap, eIf_ap, ifD_bl, eAnd_ap, eOr_ap, notD_bl, eNot_ap, eChain_ap, dAdd_i, dSub_i, dNeg_i, dLt_i, dLe_i, dGt_i, dGe_i, dIsN2_n, dNotB_b, dEq_i, dNe_i, dEq_b, dNe_b, dEq_s, dNe_s, dLen_l, dLen_t, dLen_s, dTupOf_l, dTupOf_t, nLstOf_l, nLstOf_t, dAbs_i, itemsD_l, itemsD_t, iSeq_ap, iSeqL_ap', seqL_l, iRng1_ap, iRng2_ap, iDown_ap, iEnum_ap, iZip_ap, zip2_l, isi_ap, isTy_int_non, isTy_int_bl, isTy_int_int, isTy_int_str, isTy_int_lst, isTy_int_tup, isTy_int_dct, isTy_bool_non, isTy_bool_bl, isTy_bool_int, isTy_bool_str, isTy_bool_lst, isTy_bool_tup, isTy_bool_dct, isTy_str_non, isTy_str_bl, isTy_str_int, isTy_str_str, isTy_str_lst, isTy_str_tup, isTy_str_dct, isTy_tuple_non, isTy_tuple_bl, isTy_tuple_int, isTy_tuple_str, isTy_tuple_lst, isTy_tuple_tup, isTy_tuple_dct, isTy_list_non, isTy_list_bl, isTy_list_int, isTy_list_str, isTy_list_lst, isTy_list_tup, isTy_list_dct, isTy_dict_non, isTy_dict_bl, isTy_dict_int, isTy_dict_str, isTy_dict_lst, isTy_dict_tup, isTy_dict_dct, dIx_l, dIx_t, nLc_ap, gN_ap, goOn_nx, goOn_rt, goOn_rtO, sSeq_ap, sNext_ap, sSet_ap, sOwn_ap, sTgt_ap, sRet_ap, retO_own, sRetO_ap, sIf_ap, sDrop_ap, sFor_ap, sApp_ap, sParN_ap, sParNK_ap, sVia_ap, eCall_ap, eCallV_ap, val_d, val_o, fin_rt, fin_rtO, fin_nx, DL.start, List.map_cons, List.map_nil, List.length_cons, List.length_nil, List.replicate, List.cons_append, List.nil_append, List.getElem?_cons_zero, List.getElem?_cons_succ, List.set_cons_zero, List.set_cons_succ, wipeG, Nat.reduceSub, Nat.reduceAdd, Nat.reduceLT, Nat.reduceLeDiff, if_true, if_false, Bool.not_true, Bool.not_false, Option.bind_some, Option.map_some, List.length_map, hmi, gT_2, and_self, freeze_ap, frz_own, k1, g1, g2, dMod_i _ _ hRi, k2, k3, mkLst_c, g5, hw3, decide_true, decide_false]
  refine ob_mono (P := fun x => x = false) ?_ ?_
  · by_cases h5 : 0 < d5
    · simp -implicitDefEqProofs only [ob_some, ob_bind, ob_map, eC_ap, eN_ap, eV_ap, slotN_dat, slotV_dat, slotV_own, slotV_odc, e1_ap, e2_ap, n2_ap, nLen_ap, aN_ap, aC_ap, eApp_ap, eTup_ap, nLst_ap, mkTup_0, mkTup_1, mkTup_2, mkTup_3, mkTup_4, mkLst_0, eL_ap, tV_ap, asBl_bl, tU_ap, ifB_t, ifB_f, tAnd_ap, tOr_ap, tNot_ap, tYes_ap, eIf_ap, ifD_bl, eAnd_ap, eOr_ap, notD_bl, eNot_ap, eChain_ap, dAdd_i, dSub_i, dNeg_i, dLt_i, dLe_i, dGt_i, dGe_i, dIsN2_n, dNotB_b, dEq_i, dNe_i, dEq_b, dNe_b, dEq_s, dNe_s, dLen_l, dLen_t, dLen_s, dTupOf_l, dTupOf_t, nLstOf_l, nLstOf_t, dAbs_i, itemsD_l, itemsD_t, iSeq_ap, iSeqL_ap', seqL_l, iRng1_ap, iRng2_ap, iDown_ap, iEnum_ap, iZip_ap, zip2_l, isi_ap, isTy_int_non, isTy_int_bl, isTy_int_int, isTy_int_str, isTy_int_lst, isTy_int_tup, isTy_int_dct, isTy_bool_non, isTy_bool_bl, isTy_bool_int, isTy_bool_str, isTy_bool_lst, isTy_bool_tup, isTy_bool_dct, isTy_str_non, isTy_str_bl, isTy_str_int, isTy_str_str, isTy_str_lst, isTy_str_tup, isTy_str_dct, isTy_tuple_non, isTy_tuple_bl, isTy_tuple_int, isTy_tuple_str, isTy_tuple_lst, isTy_tuple_tup, isTy_tuple_dct, isTy_list_non, isTy_list_bl, isTy_list_int, isTy_list_str, isTy_list_lst, isTy_list_tup, isTy_list_dct, isTy_dict_non, isTy_dict_bl, isTy_dict_int, isTy_dict_str, isTy_dict_lst, isTy_dict_tup, isTy_dict_dct, dIx_l, dIx_t, nLc_ap, gN_ap, goOn_nx, goOn_rt, goOn_rtO, sSeq_ap, sNext_ap, sSet_ap, sOwn_ap, sTgt_ap, sRet_ap, retO_own, sRetO_ap, sIf_ap, sDrop_ap, sFor_ap, sApp_ap, sParN_ap, sParNK_ap, sVia_ap, eCall_ap, eCallV_ap, val_d, val_o, fin_rt, fin_rtO, fin_nx, DL.start, List.map_cons, List.map_nil, List.length_cons, List.length_nil, List.replicate, List.cons_append, List.nil_append, List.getElem?_cons_zero, List.getElem?_cons_succ, List.set_cons_zero, List.set_cons_succ, wipeG, Nat.reduceSub, Nat.reduceAdd, Nat.reduceLT, Nat.reduceLeDiff, if_true, if_false, Bool.not_true, Bool.not_false, Option.bind_some, Option.map_some, decide_eq_true h5, hw4 h5, decide_true]
    · simp -implicitDefEqProofs only [ob_some, ob_bind, ob_map, eC_ap, eN_ap, eV_ap, slotN_dat, slotV_dat, slotV_own, slotV_odc, e1_ap, e2_ap, n2_ap, nLen_ap, aN_ap, aC_ap, eApp_ap, eTup_ap, nLst_ap, mkTup_0, mkTup_1, mkTup_2, mkTup_3, mkTup_4, mkLst_0, eL_ap, tV_ap, asBl_bl, tU_ap, ifB_t, ifB_f, tAnd_ap, tOr_ap, tNot_ap, tYes_ap, eIf_ap, ifD_bl, eAnd_ap, eOr_ap, notD_bl, eNot_ap, eChain_ap, dAdd_i, dSub_i, dNeg_i, dLt_i, dLe_i, dGt_i, dGe_i, dIsN2_n, dNotB_b, dEq_i, dNe_i, dEq_b, dNe_b, dEq_s, dNe_s, dLen_l, dLen_t, dLen_s, dTupOf_l, dTupOf_t, nLstOf_l, nLstOf_t, dAbs_i, itemsD_l, itemsD_t, iSeq_ap, iSeqL_ap', seqL_l, iRng1_ap, iRng2_ap, iDown_ap, iEnum_ap, iZip_ap, zip2_l, isi_ap, isTy_int_non, isTy_int_bl, isTy_int_int, isTy_int_str, isTy_int_lst, isTy_int_tup, isTy_int_dct, isTy_bool_non, isTy_bool_bl, isTy_bool_int, isTy_bool_str, isTy_bool_lst, isTy_bool_tup, isTy_bool_dct, isTy_str_non, isTy_str_bl, isTy_str_int, isTy_str_str, isTy_str_lst, isTy_str_tup, isTy_str_dct, isTy_tuple_non, isTy_tuple_bl, isTy_tuple_int, isTy_tuple_str, isTy_tuple_lst, isTy_tuple_tup, isTy_tuple_dct, isTy_list_non, isTy_list_bl, isTy_list_int, isTy_list_str, isTy_list_lst, isTy_list_tup, isTy_list_dct, isTy_dict_non, isTy_dict_bl, isTy_dict_int, isTy_dict_str, isTy_dict_lst, isTy_dict_tup, isTy_dict_dct, dIx_l, dIx_t, nLc_ap, gN_ap, goOn_nx, goOn_rt, goOn_rtO, sSeq_ap, sNext_ap, sSet_ap, sOwn_ap, sTgt_ap, sRet_ap, retO_own, sRetO_ap, sIf_ap, sDrop_ap, sFor_ap, sApp_ap, sParN_ap, sParNK_ap, sVia_ap, eCall_ap, eCallV_ap, val_d, val_o, fin_rt, fin_rtO, fin_nx, DL.start, List.map_cons, List.map_nil, List.length_cons, List.length_nil, List.replicate, List.cons_append, List.nil_append, List.getElem?_cons_zero, List.getElem?_cons_succ, List.set_cons_zero, List.set_cons_succ, wipeG, Nat.reduceSub, Nat.reduceAdd, Nat.reduceLT, Nat.reduceLeDiff, if_true, if_false, Bool.not_true, Bool.not_false, Option.bind_some, Option.map_some, decide_eq_false h5]
  rintro _ rfl
  have itI : ∀ r : List Int, itemsD (tI r) = some (r.map .int) := fun _ => rfl
  have hnl : (nd m W).length ≤ 13 := by
    unfold nd; rw [List.length_map]; exact Nat.le_trans (List.length_filter_le _ _) (by simp; omega)
  have s1 := sI (nd m W) (by omega)
  have hfl : ((nd m W).filter fun x => decide (x ≤ (b : Int))).length ≤ 13 := Nat.le_trans (List.length_filter_le _ _) hnl
  have s2 := sI (((nd m W).filter fun x => decide (x ≤ (b : Int))).map fun x => x - 1) (by rw [List.length_map]; omega)
  simp -implicitDefEqProofs only [ob_some, ob_bind, ob_map, eC_ap, eN_ap, eV_ap, slotN_dat, slotV_dat, slotV_own, slotV_odc, e1_ap, e2_ap, n2_ap, nLen_ap, aN_ap, aC_ap, eApp_ap, eTup_ap, nLst_ap, mkTup_0, mkTup_1, mkTup_2, mkTup_3, mkTup_4, mkLst_0, eL_ap, tV_ap, asBl_bl, tU_ap, ifB_t, ifB_f, tAnd_ap, tOr_ap, tNot_ap, tYes_ap, eIf_ap, ifD_bl, eAnd_ap, eOr_ap, notD_bl, eNot_ap, eChain_ap, dAdd_i, dSub_i, dNeg_i, dLt_i, dLe_i, dGt_i, dGe_i, dIsN2_n, dNotB_b, dEq_i, dNe_i, dEq_b, dNe_b, dEq_s, dNe_s, dLen_l, dLen_t, dLen_s, dTupOf_l, dTupOf_t, nLstOf_l, nLstOf_t, dAbs_i, itemsD_l, itemsD_t, iSeq_ap, iSeqL_ap', seqL_l, iRng1_ap, iRng2_ap, iDown_ap, iEnum_ap, iZip_ap, zip2_l, isi_ap, isTy_int_non, isTy_int_bl, isTy_int_int, isTy_int_str, isTy_int_lst, isTy_int_tup, isTy_int_dct, isTy_bool_non, isTy_bool_bl, isTy_bool_int, isTy_bool_str, isTy_bool_lst, isTy_bool_tup, isTy_bool_dct, isTy_str_non, isTy_str_bl, isTy_str_int, isTy_str_str, isTy_str_lst, isTy_str_tup, isTy_str_dct, isTy_tuple_non, isTy_tuple_bl, isTy_tuple_int, isTy_tuple_str, isTy_tuple_lst, isTy_tuple_tup, isTy_tuple_dct, isTy_list_non, isTy_list_bl, isTy_list_int, isTy_list_str, isTy_list_lst, isTy_list_tup, isTy_list_dct, isTy_dict_non, isTy_dict_bl, isTy_dict_int, isTy_dict_str, isTy_dict_lst, isTy_dict_tup, isTy_dict_dct, dIx_l, dIx_t, nLc_ap, gN_ap, goOn_nx, goOn_rt, goOn_rtO, sSeq_ap, sNext_ap, sSet_ap, sOwn_ap, sTgt_ap, sRet_ap, retO_own, sRetO_ap, sIf_ap, sDrop_ap, sFor_ap, sApp_ap, sParN_ap, sParNK_ap, sVia_ap, eCall_ap, eCallV_ap, val_d, val_o, fin_rt, fin_rtO, fin_nx, DL.start, List.map_cons, List.map_nil, List.length_cons, List.length_nil, List.replicate, List.cons_append, List.nil_append, List.getElem?_cons_zero, List.getElem?_cons_succ, List.set_cons_zero, List.set_cons_succ, wipeG, Nat.reduceSub, Nat.reduceAdd, Nat.reduceLT, Nat.reduceLeDiff, if_true, if_false, Bool.not_true, Bool.not_false, Option.bind_some, Option.map_some, k4, strictly_i, k5, k6, k7, g3, g4, dMod_i _ _ hmp, mkLst_c, hlt, k8, k9, s1, itI]
  refine ob_lc (l := nd m W) .int (fun x => decide (x ≤ (b : Int))) (fun x => .int (x - 1)) (fun x _ => ?_) (by simp only [lim]; omega) ?_
  · simp -implicitDefEqProofs only [ob_some, ob_bind, ob_map, eC_ap, eN_ap, eV_ap, slotN_dat, slotV_dat, slotV_own, slotV_odc, e1_ap, e2_ap, n2_ap, nLen_ap, aN_ap, aC_ap, eApp_ap, eTup_ap, nLst_ap, mkTup_0, mkTup_1, mkTup_2, mkTup_3, mkTup_4, mkLst_0, eL_ap, tV_ap, asBl_bl, tU_ap, ifB_t, ifB_f, tAnd_ap, tOr_ap, tNot_ap, tYes_ap, eIf_ap, ifD_bl, eAnd_ap, eOr_ap, notD_bl, eNot_ap, eChain_ap, dAdd_i, dSub_i, dNeg_i, dLt_i, dLe_i, dGt_i, dGe_i, dIsN2_n, dNotB_b, dEq_i, dNe_i, dEq_b, dNe_b, dEq_s, dNe_s, dLen_l, dLen_t, dLen_s, dTupOf_l, dTupOf_t, nLstOf_l, nLstOf_t, dAbs_i, itemsD_l, itemsD_t, iSeq_ap, iSeqL_ap', seqL_l, iRng1_ap, iRng2_ap, iDown_ap, iEnum_ap, iZip_ap, zip2_l, isi_ap, isTy_int_non, isTy_int_bl, isTy_int_int, isTy_int_str, isTy_int_lst, isTy_int_tup, isTy_int_dct, isTy_bool_non, isTy_bool_bl, isTy_bool_int, isTy_bool_str, isTy_bool_lst, isTy_bool_tup, isTy_bool_dct, isTy_str_non, isTy_str_bl, isTy_str_int, isTy_str_str, isTy_str_lst, isTy_str_tup, isTy_str_dct, isTy_tuple_non, isTy_tuple_bl, isTy_tuple_int, isTy_tuple_str, isTy_tuple_lst, isTy_tuple_tup, isTy_tuple_dct, isTy_list_non, isTy_list_bl, isTy_list_int, isTy_list_str, isTy_list_lst, isTy_list_tup, isTy_list_dct, isTy_dict_non, isTy_dict_bl, isTy_dict_int, isTy_dict_str, isTy_dict_lst, isTy_dict_tup, isTy_dict_dct, dIx_l, dIx_t, nLc_ap, gN_ap, goOn_nx, goOn_rt, goOn_rtO, sSeq_ap, sNext_ap, sSet_ap, sOwn_ap, sTgt_ap, sRet_ap, retO_own, sRetO_ap, sIf_ap, sDrop_ap, sFor_ap, sApp_ap, sParN_ap, sParNK_ap, sVia_ap, eCall_ap, eCallV_ap, val_d, val_o, fin_rt, fin_rtO, fin_nx, DL.start, List.map_cons, List.map_nil, List.length_cons, List.length_nil, List.replicate, List.cons_append, List.nil_append, List.getElem?_cons_zero, List.getElem?_cons_succ, List.set_cons_zero, List.set_cons_succ, wipeG, Nat.reduceSub, Nat.reduceAdd, Nat.reduceLT, Nat.reduceLeDiff, if_true, if_false, Bool.not_true, Bool.not_false, Option.bind_some, Option.map_some, true_and, implies_true]
  have e10 : D.tup (((nd m W).filter fun x => decide (x ≤ (b : Int))).map fun x => .int (x - 1)) = tI (((nd m W).filter fun x => decide (x ≤ (b : Int))).map fun x => x - 1) := by simp [tI]
  simp -implicitDefEqProofs only [ob_some, ob_bind, ob_map, eC_ap, eN_ap, eV_ap, slotN_dat, slotV_dat, slotV_own, slotV_odc, e1_ap, e2_ap, n2_ap, nLen_ap, aN_ap, aC_ap, eApp_ap, eTup_ap, nLst_ap, mkTup_0, mkTup_1, mkTup_2, mkTup_3, mkTup_4, mkLst_0, eL_ap, tV_ap, asBl_bl, tU_ap, ifB_t, ifB_f, tAnd_ap, tOr_ap, tNot_ap, tYes_ap, eIf_ap, ifD_bl, eAnd_ap, eOr_ap, notD_bl, eNot_ap, eChain_ap, dAdd_i, dSub_i, dNeg_i, dLt_i, dLe_i, dGt_i, dGe_i, dIsN2_n, dNotB_b, dEq_i, dNe_i, dEq_b, dNe_b, dEq_s, dNe_s, dLen_l, dLen_t, dLen_s, dTupOf_l, dTupOf_t, nLstOf_l, nLstOf_t, dAbs_i, itemsD_l, itemsD_t, iSeq_ap, iSeqL_ap', seqL_l, iRng1_ap, iRng2_ap, iDown_ap, iEnum_ap, iZip_ap, zip2_l, isi_ap, isTy_int_non, isTy_int_bl, isTy_int_int, isTy_int_str, isTy_int_lst, isTy_int_tup, isTy_int_dct, isTy_bool_non, isTy_bool_bl, isTy_bool_int, isTy_bool_str, isTy_bool_lst, isTy_bool_tup, isTy_bool_dct, isTy_str_non, isTy_str_bl, isTy_str_int, isTy_str_str, isTy_str_lst, isTy_str_tup, isTy_str_dct, isTy_tuple_non, isTy_tuple_bl, isTy_tuple_int, isTy_tuple_str, isTy_tuple_lst, isTy_tuple_tup, isTy_tuple_dct, isTy_list_non, isTy_list_bl, isTy_list_int, isTy_list_str, isTy_list_lst, isTy_list_tup, isTy_list_dct, isTy_dict_non, isTy_dict_bl, isTy_dict_int, isTy_dict_str, isTy_dict_lst, isTy_dict_tup, isTy_dict_dct, dIx_l, dIx_t, nLc_ap, gN_ap, goOn_nx, goOn_rt, goOn_rtO, sSeq_ap, sNext_ap, sSet_ap, sOwn_ap, sTgt_ap, sRet_ap, retO_own, sRetO_ap, sIf_ap, sDrop_ap, sFor_ap, sApp_ap, sParN_ap, sParNK_ap, sVia_ap, eCall_ap, eCallV_ap, val_d, val_o, fin_rt, fin_rtO, fin_nx, DL.start, List.map_cons, List.map_nil, List.length_cons, List.length_nil, List.replicate, List.cons_append, List.nil_append, List.getElem?_cons_zero, List.getElem?_cons_succ, List.set_cons_zero, List.set_cons_succ, wipeG, Nat.reduceSub, Nat.reduceAdd, Nat.reduceLT, Nat.reduceLeDiff, if_true, if_false, Bool.not_true, Bool.not_false, Option.bind_some, Option.map_some, e10, k10, s2, mkLst_c, rep_0 b (by omega)]
  refine ob_for tI (fun pre g => ∃ s10 s14 : Slot, g = [.dat (.scr ns), .dat (.lst (ds.map .int)), .dat (.int b), .dat (.lst (R.map tI)), .dat (.tup [.str "gates", .int b, .tup (R.map tI)]), .dat (.int m), .dat (.lst (wrongs b R)),
    .dat (tI ls), .dat (tI (nd m W)), .own ((lev b pre).map .int), s10, .un, .un, .un, s14, .un, .un, .un]) ⟨_, _, rfl⟩ ?_ ?_
  · rintro pre x post g e ⟨s10, s14, rfl⟩
    obtain ⟨v1, v2, v3⟩ := valid_at v e
    have hl := lev_len b pre
    simp -implicitDefEqProofs only [ob_some, ob_bind, ob_map, eC_ap, eN_ap, eV_ap, slotN_dat, slotV_dat, slotV_own, slotV_odc, e1_ap, e2_ap, n2_ap, nLen_ap, aN_ap, aC_ap, eApp_ap, eTup_ap, nLst_ap, mkTup_0, mkTup_1, mkTup_2, mkTup_3, mkTup_4, mkLst_0, eL_ap, tV_ap, asBl_bl, tU_ap, ifB_t, ifB_f, tAnd_ap, tOr_ap, tNot_ap, tYes_ap, eIf_ap, ifD_bl, eAnd_ap, eOr_ap, notD_bl, eNot_ap, eChain_ap, dAdd_i, dSub_i, dNeg_i, dLt_i, dLe_i, dGt_i, dGe_i, dIsN2_n, dNotB_b, dEq_i, dNe_i, dEq_b, dNe_b, dEq_s, dNe_s, dLen_l, dLen_t, dLen_s, dTupOf_l, dTupOf_t, nLstOf_l, nLstOf_t, dAbs_i, itemsD_l, itemsD_t, iSeq_ap, iSeqL_ap', seqL_l, iRng1_ap, iRng2_ap, iDown_ap, iEnum_ap, iZip_ap, zip2_l, isi_ap, isTy_int_non, isTy_int_bl, isTy_int_int, isTy_int_str, isTy_int_lst, isTy_int_tup, isTy_int_dct, isTy_bool_non, isTy_bool_bl, isTy_bool_int, isTy_bool_str, isTy_bool_lst, isTy_bool_tup, isTy_bool_dct, isTy_str_non, isTy_str_bl, isTy_str_int, isTy_str_str, isTy_str_lst, isTy_str_tup, isTy_str_dct, isTy_tuple_non, isTy_tuple_bl, isTy_tuple_int, isTy_tuple_str, isTy_tuple_lst, isTy_tuple_tup, isTy_tuple_dct, isTy_list_non, isTy_list_bl, isTy_list_int, isTy_list_str, isTy_list_lst, isTy_list_tup, isTy_list_dct, isTy_dict_non, isTy_dict_bl, isTy_dict_int, isTy_dict_str, isTy_dict_lst, isTy_dict_tup, isTy_dict_dct, dIx_l, dIx_t, nLc_ap, gN_ap, goOn_nx, goOn_rt, goOn_rtO, sSeq_ap, sNext_ap, sSet_ap, sOwn_ap, sTgt_ap, sRet_ap, retO_own, sRetO_ap, sIf_ap, sDrop_ap, sFor_ap, sApp_ap, sParN_ap, sParNK_ap, sVia_ap, eCall_ap, eCallV_ap, val_d, val_o, fin_rt, fin_rtO, fin_nx, DL.start, List.map_cons, List.map_nil, List.length_cons, List.length_nil, List.replicate, List.cons_append, List.nil_append, List.getElem?_cons_zero, List.getElem?_cons_succ, List.set_cons_zero, List.set_cons_succ, wipeG, Nat.reduceSub, Nat.reduceAdd, Nat.reduceLT, Nat.reduceLeDiff, if_true, if_false, Bool.not_true, Bool.not_false, Option.bind_some, Option.map_some, mkLst_c, itI]
    refine ob_lcm (l := x) .int (fun l => .int (gt (lev b pre) l)) (fun l hl2 => ?_) (by simp only [lim]; omega) ?_
    · have := v1 l hl2
      simp -implicitDefEqProofs only [ob_some, ob_bind, ob_map, eC_ap, eN_ap, eV_ap, slotN_dat, slotV_dat, slotV_own, slotV_odc, e1_ap, e2_ap, n2_ap, nLen_ap, aN_ap, aC_ap, eApp_ap, eTup_ap, nLst_ap, mkTup_0, mkTup_1, mkTup_2, mkTup_3, mkTup_4, mkLst_0, eL_ap, tV_ap, asBl_bl, tU_ap, ifB_t, ifB_f, tAnd_ap, tOr_ap, tNot_ap, tYes_ap, eIf_ap, ifD_bl, eAnd_ap, eOr_ap, notD_bl, eNot_ap, eChain_ap, dAdd_i, dSub_i, dNeg_i, dLt_i, dLe_i, dGt_i, dGe_i, dIsN2_n, dNotB_b, dEq_i, dNe_i, dEq_b, dNe_b, dEq_s, dNe_s, dLen_l, dLen_t, dLen_s, dTupOf_l, dTupOf_t, nLstOf_l, nLstOf_t, dAbs_i, itemsD_l, itemsD_t, iSeq_ap, iSeqL_ap', seqL_l, iRng1_ap, iRng2_ap, iDown_ap, iEnum_ap, iZip_ap, zip2_l, isi_ap, isTy_int_non, isTy_int_bl, isTy_int_int, isTy_int_str, isTy_int_lst, isTy_int_tup, isTy_int_dct, isTy_bool_non, isTy_bool_bl, isTy_bool_int, isTy_bool_str, isTy_bool_lst, isTy_bool_tup, isTy_bool_dct, isTy_str_non, isTy_str_bl, isTy_str_int, isTy_str_str, isTy_str_lst, isTy_str_tup, isTy_str_dct, isTy_tuple_non, isTy_tuple_bl, isTy_tuple_int, isTy_tuple_str, isTy_tuple_lst, isTy_tuple_tup, isTy_tuple_dct, isTy_list_non, isTy_list_bl, isTy_list_int, isTy_list_str, isTy_list_lst, isTy_list_tup, isTy_list_dct, isTy_dict_non, isTy_dict_bl, isTy_dict_int, isTy_dict_str, isTy_dict_lst, isTy_dict_tup, isTy_dict_dct, dIx_l, dIx_t, nLc_ap, gN_ap, goOn_nx, goOn_rt, goOn_rtO, sSeq_ap, sNext_ap, sSet_ap, sOwn_ap, sTgt_ap, sRet_ap, retO_own, sRetO_ap, sIf_ap, sDrop_ap, sFor_ap, sApp_ap, sParN_ap, sParNK_ap, sVia_ap, eCall_ap, eCallV_ap, val_d, val_o, fin_rt, fin_rtO, fin_nx, DL.start, List.map_cons, List.map_nil, List.length_cons, List.length_nil, List.replicate, List.cons_append, List.nil_append, List.getElem?_cons_zero, List.getElem?_cons_succ, List.set_cons_zero, List.set_cons_succ, wipeG, Nat.reduceSub, Nat.reduceAdd, Nat.reduceLT, Nat.reduceLeDiff, if_true, if_false, Bool.not_true, Bool.not_false, Option.bind_some, Option.map_some, atD_gt D.int (lev b pre) l this.1 (by omega), true_and]
    · have e1 : dAdd (.lst [.int 0]) (.lst (x.map fun l => .int (gt (lev b pre) l))) = some (.lst ((0 :: (x.map fun l => gt (lev b pre) l)).map .int)) := by
        simp only [dAdd, List.length_map, List.length_cons, List.length_nil]
        rw [if_pos (by simp only [lim]; omega)]; simp
      have e2 := dMax_i (0 :: (x.map fun l => gt (lev b pre) l)) (by simp)
      rw [← maxI_0] at e2
      rw [e1]
      simp only [ob_some, e2]
      simp -implicitDefEqProofs only [ob_some, ob_bind, ob_map, eC_ap, eN_ap, eV_ap, slotN_dat, slotV_dat, slotV_own, slotV_odc, e1_ap, e2_ap, n2_ap, nLen_ap, aN_ap, aC_ap, eApp_ap, eTup_ap, nLst_ap, mkTup_0, mkTup_1, mkTup_2, mkTup_3, mkTup_4, mkLst_0, eL_ap, tV_ap, asBl_bl, tU_ap, ifB_t, ifB_f, tAnd_ap, tOr_ap, tNot_ap, tYes_ap, eIf_ap, ifD_bl, eAnd_ap, eOr_ap, notD_bl, eNot_ap, eChain_ap, dAdd_i, dSub_i, dNeg_i, dLt_i, dLe_i, dGt_i, dGe_i, dIsN2_n, dNotB_b, dEq_i, dNe_i, dEq_b, dNe_b, dEq_s, dNe_s, dLen_l, dLen_t, dLen_s, dTupOf_l, dTupOf_t, nLstOf_l, nLstOf_t, dAbs_i, itemsD_l, itemsD_t, iSeq_ap, iSeqL_ap', seqL_l, iRng1_ap, iRng2_ap, iDown_ap, iEnum_ap, iZip_ap, zip2_l, isi_ap, isTy_int_non, isTy_int_bl, isTy_int_int, isTy_int_str, isTy_int_lst, isTy_int_tup, isTy_int_dct, isTy_bool_non, isTy_bool_bl, isTy_bool_int, isTy_bool_str, isTy_bool_lst, isTy_bool_tup, isTy_bool_dct, isTy_str_non, isTy_str_bl, isTy_str_int, isTy_str_str, isTy_str_lst, isTy_str_tup, isTy_str_dct, isTy_tuple_non, isTy_tuple_bl, isTy_tuple_int, isTy_tuple_str, isTy_tuple_lst, isTy_tuple_tup, isTy_tuple_dct, isTy_list_non, isTy_list_bl, isTy_list_int, isTy_list_str, isTy_list_lst, isTy_list_tup, isTy_list_dct, isTy_dict_non, isTy_dict_bl, isTy_dict_int, isTy_dict_str, isTy_dict_lst, isTy_dict_tup, isTy_dict_dct, dIx_l, dIx_t, nLc_ap, gN_ap, goOn_nx, goOn_rt, goOn_rtO, sSeq_ap, sNext_ap, sSet_ap, sOwn_ap, sTgt_ap, sRet_ap, retO_own, sRetO_ap, sIf_ap, sDrop_ap, sFor_ap, sApp_ap, sParN_ap, sParNK_ap, sVia_ap, eCall_ap, eCallV_ap, val_d, val_o, fin_rt, fin_rtO, fin_nx, DL.start, List.map_cons, List.map_nil, List.length_cons, List.length_nil, List.replicate, List.cons_append, List.nil_append, List.getElem?_cons_zero, List.getElem?_cons_succ, List.set_cons_zero, List.set_cons_succ, wipeG, Nat.reduceSub, Nat.reduceAdd, Nat.reduceLT, Nat.reduceLeDiff, if_true, if_false, Bool.not_true, Bool.not_false, Option.bind_some, Option.map_some, appTo_own _ _ _ ((lev b pre).map .int) (by simp only [List.length_map, lim]; omega)]
      exact ⟨_, rfl, _, _, by rw [lev_app]; simp; exact ⟨rfl, rfl⟩⟩
  rintro g ⟨s10, s14, rfl⟩
  have hcl := fun r hr => (List.getElem?_of_mem (a := r) (l := R) hr)
  have hpw : ∀ r ∈ R, r.Pairwise (fun a b => a.natAbs < b.natAbs) := by
    intro r hr
    obtain ⟨k, hk⟩ := List.getElem?_of_mem hr
    exact (v.cl k r hk).1.2
  simp -implicitDefEqProofs only [ob_some, ob_bind, ob_map, eC_ap, eN_ap, eV_ap, slotN_dat, slotV_dat, slotV_own, slotV_odc, e1_ap, e2_ap, n2_ap, nLen_ap, aN_ap, aC_ap, eApp_ap, eTup_ap, nLst_ap, mkTup_0, mkTup_1, mkTup_2, mkTup_3, mkTup_4, mkLst_0, eL_ap, tV_ap, asBl_bl, tU_ap, ifB_t, ifB_f, tAnd_ap, tOr_ap, tNot_ap, tYes_ap, eIf_ap, ifD_bl, eAnd_ap, eOr_ap, notD_bl, eNot_ap, eChain_ap, dAdd_i, dSub_i, dNeg_i, dLt_i, dLe_i, dGt_i, dGe_i, dIsN2_n, dNotB_b, dEq_i, dNe_i, dEq_b, dNe_b, dEq_s, dNe_s, dLen_l, dLen_t, dLen_s, dTupOf_l, dTupOf_t, nLstOf_l, nLstOf_t, dAbs_i, itemsD_l, itemsD_t, iSeq_ap, iSeqL_ap', seqL_l, iRng1_ap, iRng2_ap, iDown_ap, iEnum_ap, iZip_ap, zip2_l, isi_ap, isTy_int_non, isTy_int_bl, isTy_int_int, isTy_int_str, isTy_int_lst, isTy_int_tup, isTy_int_dct, isTy_bool_non, isTy_bool_bl, isTy_bool_int, isTy_bool_str, isTy_bool_lst, isTy_bool_tup, isTy_bool_dct, isTy_str_non, isTy_str_bl, isTy_str_int, isTy_str_str, isTy_str_lst, isTy_str_tup, isTy_str_dct, isTy_tuple_non, isTy_tuple_bl, isTy_tuple_int, isTy_tuple_str, isTy_tuple_lst, isTy_tuple_tup, isTy_tuple_dct, isTy_list_non, isTy_list_bl, isTy_list_int, isTy_list_str, isTy_list_lst, isTy_list_tup, isTy_list_dct, isTy_dict_non, isTy_dict_bl, isTy_dict_int, isTy_dict_str, isTy_dict_lst, isTy_dict_tup, isTy_dict_dct, dIx_l, dIx_t, nLc_ap, gN_ap, goOn_nx, goOn_rt, goOn_rtO, sSeq_ap, sNext_ap, sSet_ap, sOwn_ap, sTgt_ap, sRet_ap, retO_own, sRetO_ap, sIf_ap, sDrop_ap, sFor_ap, sApp_ap, sParN_ap, sParNK_ap, sVia_ap, eCall_ap, eCallV_ap, val_d, val_o, fin_rt, fin_rtO, fin_nx, DL.start, List.map_cons, List.map_nil, List.length_cons, List.length_nil, List.replicate, List.cons_append, List.nil_append, List.getElem?_cons_zero, List.getElem?_cons_succ, List.set_cons_zero, List.set_cons_succ, wipeG, Nat.reduceSub, Nat.reduceAdd, Nat.reduceLT, Nat.reduceLeDiff, if_true, if_false, Bool.not_true, Bool.not_false, Option.bind_some, Option.map_some, rng2_i 1 ((m : Int) + 1) (by omega) (by omega)]
  have e6 : ((m : Int) + 1 - 1).toNat = m := by omega
  rw [e6]
  refine ob_lcm (l := List.range m) (fun k : Nat => D.int (1 + (k : Nat))) (fun k => D.int (occ R.flatten (k + 1))) (fun k _ => ?_) (by simp [lim]; omega) ?_
  · simp -implicitDefEqProofs only [ob_some, ob_bind, ob_map, eC_ap, eN_ap, eV_ap, slotN_dat, slotV_dat, slotV_own, slotV_odc, e1_ap, e2_ap, n2_ap, nLen_ap, aN_ap, aC_ap, eApp_ap, eTup_ap, nLst_ap, mkTup_0, mkTup_1, mkTup_2, mkTup_3, mkTup_4, mkLst_0, eL_ap, tV_ap, asBl_bl, tU_ap, ifB_t, ifB_f, tAnd_ap, tOr_ap, tNot_ap, tYes_ap, eIf_ap, ifD_bl, eAnd_ap, eOr_ap, notD_bl, eNot_ap, eChain_ap, dAdd_i, dSub_i, dNeg_i, dLt_i, dLe_i, dGt_i, dGe_i, dIsN2_n, dNotB_b, dEq_i, dNe_i, dEq_b, dNe_b, dEq_s, dNe_s, dLen_l, dLen_t, dLen_s, dTupOf_l, dTupOf_t, nLstOf_l, nLstOf_t, dAbs_i, itemsD_l, itemsD_t, iSeq_ap, iSeqL_ap', seqL_l, iRng1_ap, iRng2_ap, iDown_ap, iEnum_ap, iZip_ap, zip2_l, isi_ap, isTy_int_non, isTy_int_bl, isTy_int_int, isTy_int_str, isTy_int_lst, isTy_int_tup, isTy_int_dct, isTy_bool_non, isTy_bool_bl, isTy_bool_int, isTy_bool_str, isTy_bool_lst, isTy_bool_tup, isTy_bool_dct, isTy_str_non, isTy_str_bl, isTy_str_int, isTy_str_str, isTy_str_lst, isTy_str_tup, isTy_str_dct, isTy_tuple_non, isTy_tuple_bl, isTy_tuple_int, isTy_tuple_str, isTy_tuple_lst, isTy_tuple_tup, isTy_tuple_dct, isTy_list_non, isTy_list_bl, isTy_list_int, isTy_list_str, isTy_list_lst, isTy_list_tup, isTy_list_dct, isTy_dict_non, isTy_dict_bl, isTy_dict_int, isTy_dict_str, isTy_dict_lst, isTy_dict_tup, isTy_dict_dct, dIx_l, dIx_t, nLc_ap, gN_ap, goOn_nx, goOn_rt, goOn_rtO, sSeq_ap, sNext_ap, sSet_ap, sOwn_ap, sTgt_ap, sRet_ap, retO_own, sRetO_ap, sIf_ap, sDrop_ap, sFor_ap, sApp_ap, sParN_ap, sParNK_ap, sVia_ap, eCall_ap, eCallV_ap, val_d, val_o, fin_rt, fin_rtO, fin_nx, DL.start, List.map_cons, List.map_nil, List.length_cons, List.length_nil, List.replicate, List.cons_append, List.nil_append, List.getElem?_cons_zero, List.getElem?_cons_succ, List.set_cons_zero, List.set_cons_succ, wipeG, Nat.reduceSub, Nat.reduceAdd, Nat.reduceLT, Nat.reduceLeDiff, if_true, if_false, Bool.not_true, Bool.not_false, Option.bind_some, Option.map_some, true_and]
    refine ob_lc (l := R) tI (fun r => r.any (· == ((k + 1 : Nat) : Int)) || r.any (· == -((k + 1 : Nat) : Int))) tI (fun r _ => ?_) (by simp only [lim]; omega) ?_
    · have e7 : (1 : Int) + k = ((k + 1 : Nat) : Int) := by omega
      simp -implicitDefEqProofs only [ob_some, ob_bind, ob_map, eC_ap, eN_ap, eV_ap, slotN_dat, slotV_dat, slotV_own, slotV_odc, e1_ap, e2_ap, n2_ap, nLen_ap, aN_ap, aC_ap, eApp_ap, eTup_ap, nLst_ap, mkTup_0, mkTup_1, mkTup_2, mkTup_3, mkTup_4, mkLst_0, eL_ap, tV_ap, asBl_bl, tU_ap, ifB_t, ifB_f, tAnd_ap, tOr_ap, tNot_ap, tYes_ap, eIf_ap, ifD_bl, eAnd_ap, eOr_ap, notD_bl, eNot_ap, eChain_ap, dAdd_i, dSub_i, dNeg_i, dLt_i, dLe_i, dGt_i, dGe_i, dIsN2_n, dNotB_b, dEq_i, dNe_i, dEq_b, dNe_b, dEq_s, dNe_s, dLen_l, dLen_t, dLen_s, dTupOf_l, dTupOf_t, nLstOf_l, nLstOf_t, dAbs_i, itemsD_l, itemsD_t, iSeq_ap, iSeqL_ap', seqL_l, iRng1_ap, iRng2_ap, iDown_ap, iEnum_ap, iZip_ap, zip2_l, isi_ap, isTy_int_non, isTy_int_bl, isTy_int_int, isTy_int_str, isTy_int_lst, isTy_int_tup, isTy_int_dct, isTy_bool_non, isTy_bool_bl, isTy_bool_int, isTy_bool_str, isTy_bool_lst, isTy_bool_tup, isTy_bool_dct, isTy_str_non, isTy_str_bl, isTy_str_int, isTy_str_str, isTy_str_lst, isTy_str_tup, isTy_str_dct, isTy_tuple_non, isTy_tuple_bl, isTy_tuple_int, isTy_tuple_str, isTy_tuple_lst, isTy_tuple_tup, isTy_tuple_dct, isTy_list_non, isTy_list_bl, isTy_list_int, isTy_list_str, isTy_list_lst, isTy_list_tup, isTy_list_dct, isTy_dict_non, isTy_dict_bl, isTy_dict_int, isTy_dict_str, isTy_dict_lst, isTy_dict_tup, isTy_dict_dct, dIx_l, dIx_t, nLc_ap, gN_ap, goOn_nx, goOn_rt, goOn_rtO, sSeq_ap, sNext_ap, sSet_ap, sOwn_ap, sTgt_ap, sRet_ap, retO_own, sRetO_ap, sIf_ap, sDrop_ap, sFor_ap, sApp_ap, sParN_ap, sParNK_ap, sVia_ap, eCall_ap, eCallV_ap, val_d, val_o, fin_rt, fin_rtO, fin_nx, DL.start, List.map_cons, List.map_nil, List.length_cons, List.length_nil, List.replicate, List.cons_append, List.nil_append, List.getElem?_cons_zero, List.getElem?_cons_succ, List.set_cons_zero, List.set_cons_succ, wipeG, Nat.reduceSub, Nat.reduceAdd, Nat.reduceLT, Nat.reduceLeDiff, if_true, if_false, Bool.not_true, Bool.not_false, Option.bind_some, Option.map_some, e7, in_tI]
      cases h1 : r.any (· == ((k + 1 : Nat) : Int)) with
      | true => simp -implicitDefEqProofs only [ob_some, ob_bind, ob_map, eC_ap, eN_ap, eV_ap, slotN_dat, slotV_dat, slotV_own, slotV_odc, e1_ap, e2_ap, n2_ap, nLen_ap, aN_ap, aC_ap, eApp_ap, eTup_ap, nLst_ap, mkTup_0, mkTup_1, mkTup_2, mkTup_3, mkTup_4, mkLst_0, eL_ap, tV_ap, asBl_bl, tU_ap, ifB_t, ifB_f, tAnd_ap, tOr_ap, tNot_ap, tYes_ap, eIf_ap, ifD_bl, eAnd_ap, eOr_ap, notD_bl, eNot_ap, eChain_ap, dAdd_i, dSub_i, dNeg_i, dLt_i, dLe_i, dGt_i, dGe_i, dIsN2_n, dNotB_b, dEq_i, dNe_i, dEq_b, dNe_b, dEq_s, dNe_s, dLen_l, dLen_t, dLen_s, dTupOf_l, dTupOf_t, nLstOf_l, nLstOf_t, dAbs_i, itemsD_l, itemsD_t, iSeq_ap, iSeqL_ap', seqL_l, iRng1_ap, iRng2_ap, iDown_ap, iEnum_ap, iZip_ap, zip2_l, isi_ap, isTy_int_non, isTy_int_bl, isTy_int_int, isTy_int_str, isTy_int_lst, isTy_int_tup, isTy_int_dct, isTy_bool_non, isTy_bool_bl, isTy_bool_int, isTy_bool_str, isTy_bool_lst, isTy_bool_tup, isTy_bool_dct, isTy_str_non, isTy_str_bl, isTy_str_int, isTy_str_str, isTy_str_lst, isTy_str_tup, isTy_str_dct, isTy_tuple_non, isTy_tuple_bl, isTy_tuple_int, isTy_tuple_str, isTy_tuple_lst, isTy_tuple_tup, isTy_tuple_dct, isTy_list_non, isTy_list_bl, isTy_list_int, isTy_list_str, isTy_list_lst, isTy_list_tup, isTy_list_dct, isTy_dict_non, isTy_dict_bl, isTy_dict_int, isTy_dict_str, isTy_dict_lst, isTy_dict_tup, isTy_dict_dct, dIx_l, dIx_t, nLc_ap, gN_ap, goOn_nx, goOn_rt, goOn_rtO, sSeq_ap, sNext_ap, sSet_ap, sOwn_ap, sTgt_ap, sRet_ap, retO_own, sRetO_ap, sIf_ap, sDrop_ap, sFor_ap, sApp_ap, sParN_ap, sParNK_ap, sVia_ap, eCall_ap, eCallV_ap, val_d, val_o, fin_rt, fin_rtO, fin_nx, DL.start, List.map_cons, List.map_nil, List.length_cons, List.length_nil, List.replicate, List.cons_append, List.nil_append, List.getElem?_cons_zero, List.getElem?_cons_succ, List.set_cons_zero, List.set_cons_succ, wipeG, Nat.reduceSub, Nat.reduceAdd, Nat.reduceLT, Nat.reduceLeDiff, if_true, if_false, Bool.not_true, Bool.not_false, Option.bind_some, Option.map_some, Bool.true_or, true_and, implies_true]
      | false => simp -implicitDefEqProofs only [ob_some, ob_bind, ob_map, eC_ap, eN_ap, eV_ap, slotN_dat, slotV_dat, slotV_own, slotV_odc, e1_ap, e2_ap, n2_ap, nLen_ap, aN_ap, aC_ap, eApp_ap, eTup_ap, nLst_ap, mkTup_0, mkTup_1, mkTup_2, mkTup_3, mkTup_4, mkLst_0, eL_ap, tV_ap, asBl_bl, tU_ap, ifB_t, ifB_f, tAnd_ap, tOr_ap, tNot_ap, tYes_ap, eIf_ap, ifD_bl, eAnd_ap, eOr_ap, notD_bl, eNot_ap, eChain_ap, dAdd_i, dSub_i, dNeg_i, dLt_i, dLe_i, dGt_i, dGe_i, dIsN2_n, dNotB_b, dEq_i, dNe_i, dEq_b, dNe_b, dEq_s, dNe_s, dLen_l, dLen_t, dLen_s, dTupOf_l, dTupOf_t, nLstOf_l, nLstOf_t, dAbs_i, itemsD_l, itemsD_t, iSeq_ap, iSeqL_ap', seqL_l, iRng1_ap, iRng2_ap, iDown_ap, iEnum_ap, iZip_ap, zip2_l, isi_ap, isTy_int_non, isTy_int_bl, isTy_int_int, isTy_int_str, isTy_int_lst, isTy_int_tup, isTy_int_dct, isTy_bool_non, isTy_bool_bl, isTy_bool_int, isTy_bool_str, isTy_bool_lst, isTy_bool_tup, isTy_bool_dct, isTy_str_non, isTy_str_bl, isTy_str_int, isTy_str_str, isTy_str_lst, isTy_str_tup, isTy_str_dct, isTy_tuple_non, isTy_tuple_bl, isTy_tuple_int, isTy_tuple_str, isTy_tuple_lst, isTy_tuple_tup, isTy_tuple_dct, isTy_list_non, isTy_list_bl, isTy_list_int, isTy_list_str, isTy_list_lst, isTy_list_tup, isTy_list_dct, isTy_dict_non, isTy_dict_bl, isTy_dict_int, isTy_dict_str, isTy_dict_lst, isTy_dict_tup, isTy_dict_dct, dIx_l, dIx_t, nLc_ap, gN_ap, goOn_nx, goOn_rt, goOn_rtO, sSeq_ap, sNext_ap, sSet_ap, sOwn_ap, sTgt_ap, sRet_ap, retO_own, sRetO_ap, sIf_ap, sDrop_ap, sFor_ap, sApp_ap, sParN_ap, sParNK_ap, sVia_ap, eCall_ap, eCallV_ap, val_d, val_o, fin_rt, fin_rtO, fin_nx, DL.start, List.map_cons, List.map_nil, List.length_cons, List.length_nil, List.replicate, List.cons_append, List.nil_append, List.getElem?_cons_zero, List.getElem?_cons_succ, List.set_cons_zero, List.set_cons_succ, wipeG, Nat.reduceSub, Nat.reduceAdd, Nat.reduceLT, Nat.reduceLeDiff, if_true, if_false, Bool.not_true, Bool.not_false, Option.bind_some, Option.map_some, Bool.false_or, true_and, implies_true]
    · simp -implicitDefEqProofs only [ob_some, ob_bind, ob_map, eC_ap, eN_ap, eV_ap, slotN_dat, slotV_dat, slotV_own, slotV_odc, e1_ap, e2_ap, n2_ap, nLen_ap, aN_ap, aC_ap, eApp_ap, eTup_ap, nLst_ap, mkTup_0, mkTup_1, mkTup_2, mkTup_3, mkTup_4, mkLst_0, eL_ap, tV_ap, asBl_bl, tU_ap, ifB_t, ifB_f, tAnd_ap, tOr_ap, tNot_ap, tYes_ap, eIf_ap, ifD_bl, eAnd_ap, eOr_ap, notD_bl, eNot_ap, eChain_ap, dAdd_i, dSub_i, dNeg_i, dLt_i, dLe_i, dGt_i, dGe_i, dIsN2_n, dNotB_b, dEq_i, dNe_i, dEq_b, dNe_b, dEq_s, dNe_s, dLen_l, dLen_t, dLen_s, dTupOf_l, dTupOf_t, nLstOf_l, nLstOf_t, dAbs_i, itemsD_l, itemsD_t, iSeq_ap, iSeqL_ap', seqL_l, iRng1_ap, iRng2_ap, iDown_ap, iEnum_ap, iZip_ap, zip2_l, isi_ap, isTy_int_non, isTy_int_bl, isTy_int_int, isTy_int_str, isTy_int_lst, isTy_int_tup, isTy_int_dct, isTy_bool_non, isTy_bool_bl, isTy_bool_int, isTy_bool_str, isTy_bool_lst, isTy_bool_tup, isTy_bool_dct, isTy_str_non, isTy_str_bl, isTy_str_int, isTy_str_str, isTy_str_lst, isTy_str_tup, isTy_str_dct, isTy_tuple_non, isTy_tuple_bl, isTy_tuple_int, isTy_tuple_str, isTy_tuple_lst, isTy_tuple_tup, isTy_tuple_dct, isTy_list_non, isTy_list_bl, isTy_list_int, isTy_list_str, isTy_list_lst, isTy_list_tup, isTy_list_dct, isTy_dict_non, isTy_dict_bl, isTy_dict_int, isTy_dict_str, isTy_dict_lst, isTy_dict_tup, isTy_dict_dct, dIx_l, dIx_t, nLc_ap, gN_ap, goOn_nx, goOn_rt, goOn_rtO, sSeq_ap, sNext_ap, sSet_ap, sOwn_ap, sTgt_ap, sRet_ap, retO_own, sRetO_ap, sIf_ap, sDrop_ap, sFor_ap, sApp_ap, sParN_ap, sParNK_ap, sVia_ap, eCall_ap, eCallV_ap, val_d, val_o, fin_rt, fin_rtO, fin_nx, DL.start, List.map_cons, List.map_nil, List.length_cons, List.length_nil, List.replicate, List.cons_append, List.nil_append, List.getElem?_cons_zero, List.getElem?_cons_succ, List.set_cons_zero, List.set_cons_succ, wipeG, Nat.reduceSub, Nat.reduceAdd, Nat.reduceLT, Nat.reduceLeDiff, if_true, if_false, Bool.not_true, Bool.not_false, Option.bind_some, Option.map_some, List.length_map]
      rw [occ_rows R hpw (k + 1) (by omega)]
  have e11 : D.tup ((List.range m).map fun k => D.int (occ R.flatten (k + 1))) = .tup (cnt m R.flatten) := rfl
  have e12 : D.tup ((lev b R).map .int) = tI (lev b R) := rfl
  have s3 := sI (lev b R) (by rw [lev_len]; omega)
  have s4 : f__law_strictly 6 [.tup (cnt m R.flatten), .tup (cnt m R.flatten)] = some (.d (.bl true)) := strictly_t (List.range m) (fun j => D.int (occ R.flatten (j + 1))) (fun _ _ => .int _ _) (by simp [lim]; omega)
  simp -implicitDefEqProofs only [ob_some, ob_bind, ob_map, eC_ap, eN_ap, eV_ap, slotN_dat, slotV_dat, slotV_own, slotV_odc, e1_ap, e2_ap, n2_ap, nLen_ap, aN_ap, aC_ap, eApp_ap, eTup_ap, nLst_ap, mkTup_0, mkTup_1, mkTup_2, mkTup_3, mkTup_4, mkLst_0, eL_ap, tV_ap, asBl_bl, tU_ap, ifB_t, ifB_f, tAnd_ap, tOr_ap, tNot_ap, tYes_ap, eIf_ap, ifD_bl, eAnd_ap, eOr_ap, notD_bl, eNot_ap, eChain_ap, dAdd_i, dSub_i, dNeg_i, dLt_i, dLe_i, dGt_i, dGe_i, dIsN2_n, dNotB_b, dEq_i, dNe_i, dEq_b, dNe_b, dEq_s, dNe_s, dLen_l, dLen_t, dLen_s, dTupOf_l, dTupOf_t, nLstOf_l, nLstOf_t, dAbs_i, itemsD_l, itemsD_t, iSeq_ap, iSeqL_ap', seqL_l, iRng1_ap, iRng2_ap, iDown_ap, iEnum_ap, iZip_ap, zip2_l, isi_ap, isTy_int_non, isTy_int_bl, isTy_int_int, isTy_int_str, isTy_int_lst, isTy_int_tup, isTy_int_dct, isTy_bool_non, isTy_bool_bl, isTy_bool_int, isTy_bool_str, isTy_bool_lst, isTy_bool_tup, isTy_bool_dct, isTy_str_non, isTy_str_bl, isTy_str_int, isTy_str_str, isTy_str_lst, isTy_str_tup, isTy_str_dct, isTy_tuple_non, isTy_tuple_bl, isTy_tuple_int, isTy_tuple_str, isTy_tuple_lst, isTy_tuple_tup, isTy_tuple_dct, isTy_list_non, isTy_list_bl, isTy_list_int, isTy_list_str, isTy_list_lst, isTy_list_tup, isTy_list_dct, isTy_dict_non, isTy_dict_bl, isTy_dict_int, isTy_dict_str, isTy_dict_lst, isTy_dict_tup, isTy_dict_dct, dIx_l, dIx_t, nLc_ap, gN_ap, goOn_nx, goOn_rt, goOn_rtO, sSeq_ap, sNext_ap, sSet_ap, sOwn_ap, sTgt_ap, sRet_ap, retO_own, sRetO_ap, sIf_ap, sDrop_ap, sFor_ap, sApp_ap, sParN_ap, sParNK_ap, sVia_ap, eCall_ap, eCallV_ap, val_d, val_o, fin_rt, fin_rtO, fin_nx, DL.start, List.map_cons, List.map_nil, List.length_cons, List.length_nil, List.replicate, List.cons_append, List.nil_append, List.getElem?_cons_zero, List.getElem?_cons_succ, List.set_cons_zero, List.set_cons_succ, wipeG, Nat.reduceSub, Nat.reduceAdd, Nat.reduceLT, Nat.reduceLeDiff, if_true, if_false, Bool.not_true, Bool.not_false, Option.bind_some, Option.map_some, e11, e12, k11, s3, k12, s4, oS_ap', oSi_i, eSl_ap, slD_l, cut_int ds 6 (6 + (b : Int)) (by omega) (by omega), mkLst_c]
  have e13 : (6 + (b : Int)).toNat - Int.toNat 6 = b := by omega
  rw [e13]
  have hdr : ds.drop (Int.toNat 6) = [e0, e1, e2, e3] := by rw [← hds]; rfl
  rw [hdr]
  obtain ⟨X, hX⟩ : ∃ X, X = List.take b [e0, e1, e2, e3] := ⟨_, rfl⟩
  rw [← hX]
  have hXl : X.length = b := by rw [hX, List.length_take]; simp; omega
  have hXb : ∀ q ∈ X, 0 ≤ q ∧ q < 3 := by
    intro q hq
    rw [hX] at hq
    have := List.mem_of_mem_take hq
    simp at this; omega
  refine ob_lcm (l := X) .int (fun q => oB (tri q)) (fun q hq => ?_) (by simp only [lim]; omega) ?_
  · simp -implicitDefEqProofs only [ob_some, ob_bind, ob_map, eC_ap, eN_ap, eV_ap, slotN_dat, slotV_dat, slotV_own, slotV_odc, e1_ap, e2_ap, n2_ap, nLen_ap, aN_ap, aC_ap, eApp_ap, eTup_ap, nLst_ap, mkTup_0, mkTup_1, mkTup_2, mkTup_3, mkTup_4, mkLst_0, eL_ap, tV_ap, asBl_bl, tU_ap, ifB_t, ifB_f, tAnd_ap, tOr_ap, tNot_ap, tYes_ap, eIf_ap, ifD_bl, eAnd_ap, eOr_ap, notD_bl, eNot_ap, eChain_ap, dAdd_i, dSub_i, dNeg_i, dLt_i, dLe_i, dGt_i, dGe_i, dIsN2_n, dNotB_b, dEq_i, dNe_i, dEq_b, dNe_b, dEq_s, dNe_s, dLen_l, dLen_t, dLen_s, dTupOf_l, dTupOf_t, nLstOf_l, nLstOf_t, dAbs_i, itemsD_l, itemsD_t, iSeq_ap, iSeqL_ap', seqL_l, iRng1_ap, iRng2_ap, iDown_ap, iEnum_ap, iZip_ap, zip2_l, isi_ap, isTy_int_non, isTy_int_bl, isTy_int_int, isTy_int_str, isTy_int_lst, isTy_int_tup, isTy_int_dct, isTy_bool_non, isTy_bool_bl, isTy_bool_int, isTy_bool_str, isTy_bool_lst, isTy_bool_tup, isTy_bool_dct, isTy_str_non, isTy_str_bl, isTy_str_int, isTy_str_str, isTy_str_lst, isTy_str_tup, isTy_str_dct, isTy_tuple_non, isTy_tuple_bl, isTy_tuple_int, isTy_tuple_str, isTy_tuple_lst, isTy_tuple_tup, isTy_tuple_dct, isTy_list_non, isTy_list_bl, isTy_list_int, isTy_list_str, isTy_list_lst, isTy_list_tup, isTy_list_dct, isTy_dict_non, isTy_dict_bl, isTy_dict_int, isTy_dict_str, isTy_dict_lst, isTy_dict_tup, isTy_dict_dct, dIx_l, dIx_t, nLc_ap, gN_ap, goOn_nx, goOn_rt, goOn_rtO, sSeq_ap, sNext_ap, sSet_ap, sOwn_ap, sTgt_ap, sRet_ap, retO_own, sRetO_ap, sIf_ap, sDrop_ap, sFor_ap, sApp_ap, sParN_ap, sParNK_ap, sVia_ap, eCall_ap, eCallV_ap, val_d, val_o, fin_rt, fin_rtO, fin_nx, DL.start, List.map_cons, List.map_nil, List.length_cons, List.length_nil, List.replicate, List.cons_append, List.nil_append, List.getElem?_cons_zero, List.getElem?_cons_succ, List.set_cons_zero, List.set_cons_succ, wipeG, Nat.reduceSub, Nat.reduceAdd, Nat.reduceLT, Nat.reduceLeDiff, if_true, if_false, Bool.not_true, Bool.not_false, Option.bind_some, Option.map_some, mkLst_c, tri_at q (hXb q hq), true_and]
  have e14 : X.map (fun q => oB (tri q)) = (X.map tri).map oB := by simp
  rw [e14]
  have hTl : (X.map tri).length = b := by rw [List.length_map]; exact hXl
  have k13 := law_values_eq v (X.map tri) hTl hb4
  have k14 := known_values_eq v hb4 (X.map tri) hTl
  simp only [gD] at k14
  have s5 := strictly_t (kval R (X.map tri)) oB (fun x _ => by cases x with | none => exact .non _ | some x => exact .bl _ _) (by rw [kval_len]; simp only [lim]; omega)
  simp -implicitDefEqProofs only [ob_some, ob_bind, ob_map, eC_ap, eN_ap, eV_ap, slotN_dat, slotV_dat, slotV_own, slotV_odc, e1_ap, e2_ap, n2_ap, nLen_ap, aN_ap, aC_ap, eApp_ap, eTup_ap, nLst_ap, mkTup_0, mkTup_1, mkTup_2, mkTup_3, mkTup_4, mkLst_0, eL_ap, tV_ap, asBl_bl, tU_ap, ifB_t, ifB_f, tAnd_ap, tOr_ap, tNot_ap, tYes_ap, eIf_ap, ifD_bl, eAnd_ap, eOr_ap, notD_bl, eNot_ap, eChain_ap, dAdd_i, dSub_i, dNeg_i, dLt_i, dLe_i, dGt_i, dGe_i, dIsN2_n, dNotB_b, dEq_i, dNe_i, dEq_b, dNe_b, dEq_s, dNe_s, dLen_l, dLen_t, dLen_s, dTupOf_l, dTupOf_t, nLstOf_l, nLstOf_t, dAbs_i, itemsD_l, itemsD_t, iSeq_ap, iSeqL_ap', seqL_l, iRng1_ap, iRng2_ap, iDown_ap, iEnum_ap, iZip_ap, zip2_l, isi_ap, isTy_int_non, isTy_int_bl, isTy_int_int, isTy_int_str, isTy_int_lst, isTy_int_tup, isTy_int_dct, isTy_bool_non, isTy_bool_bl, isTy_bool_int, isTy_bool_str, isTy_bool_lst, isTy_bool_tup, isTy_bool_dct, isTy_str_non, isTy_str_bl, isTy_str_int, isTy_str_str, isTy_str_lst, isTy_str_tup, isTy_str_dct, isTy_tuple_non, isTy_tuple_bl, isTy_tuple_int, isTy_tuple_str, isTy_tuple_lst, isTy_tuple_tup, isTy_tuple_dct, isTy_list_non, isTy_list_bl, isTy_list_int, isTy_list_str, isTy_list_lst, isTy_list_tup, isTy_list_dct, isTy_dict_non, isTy_dict_bl, isTy_dict_int, isTy_dict_str, isTy_dict_lst, isTy_dict_tup, isTy_dict_dct, dIx_l, dIx_t, nLc_ap, gN_ap, goOn_nx, goOn_rt, goOn_rtO, sSeq_ap, sNext_ap, sSet_ap, sOwn_ap, sTgt_ap, sRet_ap, retO_own, sRetO_ap, sIf_ap, sDrop_ap, sFor_ap, sApp_ap, sParN_ap, sParNK_ap, sVia_ap, eCall_ap, eCallV_ap, val_d, val_o, fin_rt, fin_rtO, fin_nx, DL.start, List.map_cons, List.map_nil, List.length_cons, List.length_nil, List.replicate, List.cons_append, List.nil_append, List.getElem?_cons_zero, List.getElem?_cons_succ, List.set_cons_zero, List.set_cons_succ, wipeG, Nat.reduceSub, Nat.reduceAdd, Nat.reduceLT, Nat.reduceLeDiff, if_true, if_false, Bool.not_true, Bool.not_false, Option.bind_some, Option.map_some, k13, k14, s5, k6]
  refine ob_lcm (l := cds b) tB (fun c => .lst ((val R c).map .bl)) (fun c hc' => ?_) (by simp only [lim]; omega) ?_
  · simp -implicitDefEqProofs only [ob_some, ob_bind, ob_map, eC_ap, eN_ap, eV_ap, slotN_dat, slotV_dat, slotV_own, slotV_odc, e1_ap, e2_ap, n2_ap, nLen_ap, aN_ap, aC_ap, eApp_ap, eTup_ap, nLst_ap, mkTup_0, mkTup_1, mkTup_2, mkTup_3, mkTup_4, mkLst_0, eL_ap, tV_ap, asBl_bl, tU_ap, ifB_t, ifB_f, tAnd_ap, tOr_ap, tNot_ap, tYes_ap, eIf_ap, ifD_bl, eAnd_ap, eOr_ap, notD_bl, eNot_ap, eChain_ap, dAdd_i, dSub_i, dNeg_i, dLt_i, dLe_i, dGt_i, dGe_i, dIsN2_n, dNotB_b, dEq_i, dNe_i, dEq_b, dNe_b, dEq_s, dNe_s, dLen_l, dLen_t, dLen_s, dTupOf_l, dTupOf_t, nLstOf_l, nLstOf_t, dAbs_i, itemsD_l, itemsD_t, iSeq_ap, iSeqL_ap', seqL_l, iRng1_ap, iRng2_ap, iDown_ap, iEnum_ap, iZip_ap, zip2_l, isi_ap, isTy_int_non, isTy_int_bl, isTy_int_int, isTy_int_str, isTy_int_lst, isTy_int_tup, isTy_int_dct, isTy_bool_non, isTy_bool_bl, isTy_bool_int, isTy_bool_str, isTy_bool_lst, isTy_bool_tup, isTy_bool_dct, isTy_str_non, isTy_str_bl, isTy_str_int, isTy_str_str, isTy_str_lst, isTy_str_tup, isTy_str_dct, isTy_tuple_non, isTy_tuple_bl, isTy_tuple_int, isTy_tuple_str, isTy_tuple_lst, isTy_tuple_tup, isTy_tuple_dct, isTy_list_non, isTy_list_bl, isTy_list_int, isTy_list_str, isTy_list_lst, isTy_list_tup, isTy_list_dct, isTy_dict_non, isTy_dict_bl, isTy_dict_int, isTy_dict_str, isTy_dict_lst, isTy_dict_tup, isTy_dict_dct, dIx_l, dIx_t, nLc_ap, gN_ap, goOn_nx, goOn_rt, goOn_rtO, sSeq_ap, sNext_ap, sSet_ap, sOwn_ap, sTgt_ap, sRet_ap, retO_own, sRetO_ap, sIf_ap, sDrop_ap, sFor_ap, sApp_ap, sParN_ap, sParNK_ap, sVia_ap, eCall_ap, eCallV_ap, val_d, val_o, fin_rt, fin_rtO, fin_nx, DL.start, List.map_cons, List.map_nil, List.length_cons, List.length_nil, List.replicate, List.cons_append, List.nil_append, List.getElem?_cons_zero, List.getElem?_cons_succ, List.set_cons_zero, List.set_cons_succ, wipeG, Nat.reduceSub, Nat.reduceAdd, Nat.reduceLT, Nat.reduceLeDiff, if_true, if_false, Bool.not_true, Bool.not_false, Option.bind_some, Option.map_some, law_values_b v hb4 c (cl2 c hc'), true_and]
  simp -implicitDefEqProofs only [ob_some, ob_bind, ob_map, eC_ap, eN_ap, eV_ap, slotN_dat, slotV_dat, slotV_own, slotV_odc, e1_ap, e2_ap, n2_ap, nLen_ap, aN_ap, aC_ap, eApp_ap, eTup_ap, nLst_ap, mkTup_0, mkTup_1, mkTup_2, mkTup_3, mkTup_4, mkLst_0, eL_ap, tV_ap, asBl_bl, tU_ap, ifB_t, ifB_f, tAnd_ap, tOr_ap, tNot_ap, tYes_ap, eIf_ap, ifD_bl, eAnd_ap, eOr_ap, notD_bl, eNot_ap, eChain_ap, dAdd_i, dSub_i, dNeg_i, dLt_i, dLe_i, dGt_i, dGe_i, dIsN2_n, dNotB_b, dEq_i, dNe_i, dEq_b, dNe_b, dEq_s, dNe_s, dLen_l, dLen_t, dLen_s, dTupOf_l, dTupOf_t, nLstOf_l, nLstOf_t, dAbs_i, itemsD_l, itemsD_t, iSeq_ap, iSeqL_ap', seqL_l, iRng1_ap, iRng2_ap, iDown_ap, iEnum_ap, iZip_ap, zip2_l, isi_ap, isTy_int_non, isTy_int_bl, isTy_int_int, isTy_int_str, isTy_int_lst, isTy_int_tup, isTy_int_dct, isTy_bool_non, isTy_bool_bl, isTy_bool_int, isTy_bool_str, isTy_bool_lst, isTy_bool_tup, isTy_bool_dct, isTy_str_non, isTy_str_bl, isTy_str_int, isTy_str_str, isTy_str_lst, isTy_str_tup, isTy_str_dct, isTy_tuple_non, isTy_tuple_bl, isTy_tuple_int, isTy_tuple_str, isTy_tuple_lst, isTy_tuple_tup, isTy_tuple_dct, isTy_list_non, isTy_list_bl, isTy_list_int, isTy_list_str, isTy_list_lst, isTy_list_tup, isTy_list_dct, isTy_dict_non, isTy_dict_bl, isTy_dict_int, isTy_dict_str, isTy_dict_lst, isTy_dict_tup, isTy_dict_dct, dIx_l, dIx_t, nLc_ap, gN_ap, goOn_nx, goOn_rt, goOn_rtO, sSeq_ap, sNext_ap, sSet_ap, sOwn_ap, sTgt_ap, sRet_ap, retO_own, sRetO_ap, sIf_ap, sDrop_ap, sFor_ap, sApp_ap, sParN_ap, sParNK_ap, sVia_ap, eCall_ap, eCallV_ap, val_d, val_o, fin_rt, fin_rtO, fin_nx, DL.start, List.map_cons, List.map_nil, List.length_cons, List.length_nil, List.replicate, List.cons_append, List.nil_append, List.getElem?_cons_zero, List.getElem?_cons_succ, List.set_cons_zero, List.set_cons_succ, wipeG, Nat.reduceSub, Nat.reduceAdd, Nat.reduceLT, Nat.reduceLeDiff, if_true, if_false, Bool.not_true, Bool.not_false, Option.bind_some, Option.map_some, itI]
  have hvl : ∀ c ∈ cds b, (val R c).length = m := by intro c hc'; rw [val_len, cl2 c hc', hm]
  refine ob_for .int (fun _ g => ∃ s10 s14 : Slot, g = [.dat (.scr ns), .dat (.lst (ds.map .int)), .dat (.int b), .dat (.lst (R.map tI)), .dat (.tup [.str "gates", .int b, .tup (R.map tI)]), .dat (.int m), .dat (.lst (wrongs b R)),
    .dat (tI ls), .dat (tI (nd m W)), .own ((lev b R).map .int), s10, .dat (.lst ((List.range m).map fun k => D.int (occ R.flatten (k + 1)))), .dat (.tup ((X.map tri).map oB)), .dat (.lst ((cds b).map fun c => .lst ((val R c).map .bl))), s14, .un, .un, .un]) ⟨_, _, rfl⟩ ?_ ?_
  · rintro pre l post g e ⟨s10, s14, rfl⟩
    have hb' := hlb l (by rw [e]; simp)
    have k15 := truths_of_eq v hb3 l hb'.1 hb'.2
    simp only [gD] at k15
    have s6 := strictly_t (cds b) (fun c => D.bl (gt (val R c) l == decide (0 < l))) (fun _ _ => .bl _ _) (by simp only [lim]; omega)
    simp -implicitDefEqProofs only [ob_some, ob_bind, ob_map, eC_ap, eN_ap, eV_ap, slotN_dat, slotV_dat, slotV_own, slotV_odc, e1_ap, e2_ap, n2_ap, nLen_ap, aN_ap, aC_ap, eApp_ap, eTup_ap, nLst_ap, mkTup_0, mkTup_1, mkTup_2, mkTup_3, mkTup_4, mkLst_0, eL_ap, tV_ap, asBl_bl, tU_ap, ifB_t, ifB_f, tAnd_ap, tOr_ap, tNot_ap, tYes_ap, eIf_ap, ifD_bl, eAnd_ap, eOr_ap, notD_bl, eNot_ap, eChain_ap, dAdd_i, dSub_i, dNeg_i, dLt_i, dLe_i, dGt_i, dGe_i, dIsN2_n, dNotB_b, dEq_i, dNe_i, dEq_b, dNe_b, dEq_s, dNe_s, dLen_l, dLen_t, dLen_s, dTupOf_l, dTupOf_t, nLstOf_l, nLstOf_t, dAbs_i, itemsD_l, itemsD_t, iSeq_ap, iSeqL_ap', seqL_l, iRng1_ap, iRng2_ap, iDown_ap, iEnum_ap, iZip_ap, zip2_l, isi_ap, isTy_int_non, isTy_int_bl, isTy_int_int, isTy_int_str, isTy_int_lst, isTy_int_tup, isTy_int_dct, isTy_bool_non, isTy_bool_bl, isTy_bool_int, isTy_bool_str, isTy_bool_lst, isTy_bool_tup, isTy_bool_dct, isTy_str_non, isTy_str_bl, isTy_str_int, isTy_str_str, isTy_str_lst, isTy_str_tup, isTy_str_dct, isTy_tuple_non, isTy_tuple_bl, isTy_tuple_int, isTy_tuple_str, isTy_tuple_lst, isTy_tuple_tup, isTy_tuple_dct, isTy_list_non, isTy_list_bl, isTy_list_int, isTy_list_str, isTy_list_lst, isTy_list_tup, isTy_list_dct, isTy_dict_non, isTy_dict_bl, isTy_dict_int, isTy_dict_str, isTy_dict_lst, isTy_dict_tup, isTy_dict_dct, dIx_l, dIx_t, nLc_ap, gN_ap, goOn_nx, goOn_rt, goOn_rtO, sSeq_ap, sNext_ap, sSet_ap, sOwn_ap, sTgt_ap, sRet_ap, retO_own, sRetO_ap, sIf_ap, sDrop_ap, sFor_ap, sApp_ap, sParN_ap, sParNK_ap, sVia_ap, eCall_ap, eCallV_ap, val_d, val_o, fin_rt, fin_rtO, fin_nx, DL.start, List.map_cons, List.map_nil, List.length_cons, List.length_nil, List.replicate, List.cons_append, List.nil_append, List.getElem?_cons_zero, List.getElem?_cons_succ, List.set_cons_zero, List.set_cons_succ, wipeG, Nat.reduceSub, Nat.reduceAdd, Nat.reduceLT, Nat.reduceLeDiff, if_true, if_false, Bool.not_true, Bool.not_false, Option.bind_some, Option.map_some]
    refine ob_lcm (l := cds b) (fun c => D.lst ((val R c).map .bl)) (fun c => .bl (gt (val R c) l == decide (0 < l))) (fun c hc' => ?_) (by simp only [lim]; omega) ?_
    · simp -implicitDefEqProofs only [ob_some, ob_bind, ob_map, eC_ap, eN_ap, eV_ap, slotN_dat, slotV_dat, slotV_own, slotV_odc, e1_ap, e2_ap, n2_ap, nLen_ap, aN_ap, aC_ap, eApp_ap, eTup_ap, nLst_ap, mkTup_0, mkTup_1, mkTup_2, mkTup_3, mkTup_4, mkLst_0, eL_ap, tV_ap, asBl_bl, tU_ap, ifB_t, ifB_f, tAnd_ap, tOr_ap, tNot_ap, tYes_ap, eIf_ap, ifD_bl, eAnd_ap, eOr_ap, notD_bl, eNot_ap, eChain_ap, dAdd_i, dSub_i, dNeg_i, dLt_i, dLe_i, dGt_i, dGe_i, dIsN2_n, dNotB_b, dEq_i, dNe_i, dEq_b, dNe_b, dEq_s, dNe_s, dLen_l, dLen_t, dLen_s, dTupOf_l, dTupOf_t, nLstOf_l, nLstOf_t, dAbs_i, itemsD_l, itemsD_t, iSeq_ap, iSeqL_ap', seqL_l, iRng1_ap, iRng2_ap, iDown_ap, iEnum_ap, iZip_ap, zip2_l, isi_ap, isTy_int_non, isTy_int_bl, isTy_int_int, isTy_int_str, isTy_int_lst, isTy_int_tup, isTy_int_dct, isTy_bool_non, isTy_bool_bl, isTy_bool_int, isTy_bool_str, isTy_bool_lst, isTy_bool_tup, isTy_bool_dct, isTy_str_non, isTy_str_bl, isTy_str_int, isTy_str_str, isTy_str_lst, isTy_str_tup, isTy_str_dct, isTy_tuple_non, isTy_tuple_bl, isTy_tuple_int, isTy_tuple_str, isTy_tuple_lst, isTy_tuple_tup, isTy_tuple_dct, isTy_list_non, isTy_list_bl, isTy_list_int, isTy_list_str, isTy_list_lst, isTy_list_tup, isTy_list_dct, isTy_dict_non, isTy_dict_bl, isTy_dict_int, isTy_dict_str, isTy_dict_lst, isTy_dict_tup, isTy_dict_dct, dIx_l, dIx_t, nLc_ap, gN_ap, goOn_nx, goOn_rt, goOn_rtO, sSeq_ap, sNext_ap, sSet_ap, sOwn_ap, sTgt_ap, sRet_ap, retO_own, sRetO_ap, sIf_ap, sDrop_ap, sFor_ap, sApp_ap, sParN_ap, sParNK_ap, sVia_ap, eCall_ap, eCallV_ap, val_d, val_o, fin_rt, fin_rtO, fin_nx, DL.start, List.map_cons, List.map_nil, List.length_cons, List.length_nil, List.replicate, List.cons_append, List.nil_append, List.getElem?_cons_zero, List.getElem?_cons_succ, List.set_cons_zero, List.set_cons_succ, wipeG, Nat.reduceSub, Nat.reduceAdd, Nat.reduceLT, Nat.reduceLeDiff, if_true, if_false, Bool.not_true, Bool.not_false, Option.bind_some, Option.map_some, atD_gt D.bl (val R c) l hb'.1 (by rw [hvl c hc']; omega), true_and]
    · simp -implicitDefEqProofs only [ob_some, ob_bind, ob_map, eC_ap, eN_ap, eV_ap, slotN_dat, slotV_dat, slotV_own, slotV_odc, e1_ap, e2_ap, n2_ap, nLen_ap, aN_ap, aC_ap, eApp_ap, eTup_ap, nLst_ap, mkTup_0, mkTup_1, mkTup_2, mkTup_3, mkTup_4, mkLst_0, eL_ap, tV_ap, asBl_bl, tU_ap, ifB_t, ifB_f, tAnd_ap, tOr_ap, tNot_ap, tYes_ap, eIf_ap, ifD_bl, eAnd_ap, eOr_ap, notD_bl, eNot_ap, eChain_ap, dAdd_i, dSub_i, dNeg_i, dLt_i, dLe_i, dGt_i, dGe_i, dIsN2_n, dNotB_b, dEq_i, dNe_i, dEq_b, dNe_b, dEq_s, dNe_s, dLen_l, dLen_t, dLen_s, dTupOf_l, dTupOf_t, nLstOf_l, nLstOf_t, dAbs_i, itemsD_l, itemsD_t, iSeq_ap, iSeqL_ap', seqL_l, iRng1_ap, iRng2_ap, iDown_ap, iEnum_ap, iZip_ap, zip2_l, isi_ap, isTy_int_non, isTy_int_bl, isTy_int_int, isTy_int_str, isTy_int_lst, isTy_int_tup, isTy_int_dct, isTy_bool_non, isTy_bool_bl, isTy_bool_int, isTy_bool_str, isTy_bool_lst, isTy_bool_tup, isTy_bool_dct, isTy_str_non, isTy_str_bl, isTy_str_int, isTy_str_str, isTy_str_lst, isTy_str_tup, isTy_str_dct, isTy_tuple_non, isTy_tuple_bl, isTy_tuple_int, isTy_tuple_str, isTy_tuple_lst, isTy_tuple_tup, isTy_tuple_dct, isTy_list_non, isTy_list_bl, isTy_list_int, isTy_list_str, isTy_list_lst, isTy_list_tup, isTy_list_dct, isTy_dict_non, isTy_dict_bl, isTy_dict_int, isTy_dict_str, isTy_dict_lst, isTy_dict_tup, isTy_dict_dct, dIx_l, dIx_t, nLc_ap, gN_ap, goOn_nx, goOn_rt, goOn_rtO, sSeq_ap, sNext_ap, sSet_ap, sOwn_ap, sTgt_ap, sRet_ap, retO_own, sRetO_ap, sIf_ap, sDrop_ap, sFor_ap, sApp_ap, sParN_ap, sParNK_ap, sVia_ap, eCall_ap, eCallV_ap, val_d, val_o, fin_rt, fin_rtO, fin_nx, DL.start, List.map_cons, List.map_nil, List.length_cons, List.length_nil, List.replicate, List.cons_append, List.nil_append, List.getElem?_cons_zero, List.getElem?_cons_succ, List.set_cons_zero, List.set_cons_succ, wipeG, Nat.reduceSub, Nat.reduceAdd, Nat.reduceLT, Nat.reduceLeDiff, if_true, if_false, Bool.not_true, Bool.not_false, Option.bind_some, Option.map_some, k15, s6]
      exact ⟨_, rfl, _, _, rfl⟩
  rintro g ⟨s10, s14, rfl⟩
  simp -implicitDefEqProofs only [ob_some, ob_bind, ob_map, eC_ap, eN_ap, eV_ap, slotN_dat, slotV_dat, slotV_own, slotV_odc, e1_ap, e2_ap, n2_ap, nLen_ap, aN_ap, aC_ap, eApp_ap, eTup_ap, nLst_ap, mkTup_0, mkTup_1, mkTup_2, mkTup_3, mkTup_4, mkLst_0, eL_ap, tV_ap, asBl_bl, tU_ap, ifB_t, ifB_f, tAnd_ap, tOr_ap, tNot_ap, tYes_ap, eIf_ap, ifD_bl, eAnd_ap, eOr_ap, notD_bl, eNot_ap, eChain_ap, dAdd_i, dSub_i, dNeg_i, dLt_i, dLe_i, dGt_i, dGe_i, dIsN2_n, dNotB_b, dEq_i, dNe_i, dEq_b, dNe_b, dEq_s, dNe_s, dLen_l, dLen_t, dLen_s, dTupOf_l, dTupOf_t, nLstOf_l, nLstOf_t, dAbs_i, itemsD_l, itemsD_t, iSeq_ap, iSeqL_ap', seqL_l, iRng1_ap, iRng2_ap, iDown_ap, iEnum_ap, iZip_ap, zip2_l, isi_ap, isTy_int_non, isTy_int_bl, isTy_int_int, isTy_int_str, isTy_int_lst, isTy_int_tup, isTy_int_dct, isTy_bool_non, isTy_bool_bl, isTy_bool_int, isTy_bool_str, isTy_bool_lst, isTy_bool_tup, isTy_bool_dct, isTy_str_non, isTy_str_bl, isTy_str_int, isTy_str_str, isTy_str_lst, isTy_str_tup, isTy_str_dct, isTy_tuple_non, isTy_tuple_bl, isTy_tuple_int, isTy_tuple_str, isTy_tuple_lst, isTy_tuple_tup, isTy_tuple_dct, isTy_list_non, isTy_list_bl, isTy_list_int, isTy_list_str, isTy_list_lst, isTy_list_tup, isTy_list_dct, isTy_dict_non, isTy_dict_bl, isTy_dict_int, isTy_dict_str, isTy_dict_lst, isTy_dict_tup, isTy_dict_dct, dIx_l, dIx_t, nLc_ap, gN_ap, goOn_nx, goOn_rt, goOn_rtO, sSeq_ap, sNext_ap, sSet_ap, sOwn_ap, sTgt_ap, sRet_ap, retO_own, sRetO_ap, sIf_ap, sDrop_ap, sFor_ap, sApp_ap, sParN_ap, sParNK_ap, sVia_ap, eCall_ap, eCallV_ap, val_d, val_o, fin_rt, fin_rtO, fin_nx, DL.start, List.map_cons, List.map_nil, List.length_cons, List.length_nil, List.replicate, List.cons_append, List.nil_append, List.getElem?_cons_zero, List.getElem?_cons_succ, List.set_cons_zero, List.set_cons_succ, wipeG, Nat.reduceSub, Nat.reduceAdd, Nat.reduceLT, Nat.reduceLeDiff, if_true, if_false, Bool.not_true, Bool.not_false, Option.bind_some, Option.map_some, k6, zip_map]
  refine ob_lc (l := cds b) (fun c => D.tup [tB c, .lst ((val R c).map .bl)]) (fun _ => false) (fun _ => .int 1) (fun c hc' => ?_) (by simp only [lim]; omega) ?_
  · have k16 := values_eq v hb4 c (cl2 c hc')
    simp only [gD, tB] at k16
    have s7 := strictly_t (val R c) D.bl (fun _ _ => .bl _ _) (by rw [hvl c hc']; simp only [lim]; omega)
    simp -implicitDefEqProofs only [ob_some, ob_bind, ob_map, eC_ap, eN_ap, eV_ap, slotN_dat, slotV_dat, slotV_own, slotV_odc, e1_ap, e2_ap, n2_ap, nLen_ap, aN_ap, aC_ap, eApp_ap, eTup_ap, nLst_ap, mkTup_0, mkTup_1, mkTup_2, mkTup_3, mkTup_4, mkLst_0, eL_ap, tV_ap, asBl_bl, tU_ap, ifB_t, ifB_f, tAnd_ap, tOr_ap, tNot_ap, tYes_ap, eIf_ap, ifD_bl, eAnd_ap, eOr_ap, notD_bl, eNot_ap, eChain_ap, dAdd_i, dSub_i, dNeg_i, dLt_i, dLe_i, dGt_i, dGe_i, dIsN2_n, dNotB_b, dEq_i, dNe_i, dEq_b, dNe_b, dEq_s, dNe_s, dLen_l, dLen_t, dLen_s, dTupOf_l, dTupOf_t, nLstOf_l, nLstOf_t, dAbs_i, itemsD_l, itemsD_t, iSeq_ap, iSeqL_ap', seqL_l, iRng1_ap, iRng2_ap, iDown_ap, iEnum_ap, iZip_ap, zip2_l, isi_ap, isTy_int_non, isTy_int_bl, isTy_int_int, isTy_int_str, isTy_int_lst, isTy_int_tup, isTy_int_dct, isTy_bool_non, isTy_bool_bl, isTy_bool_int, isTy_bool_str, isTy_bool_lst, isTy_bool_tup, isTy_bool_dct, isTy_str_non, isTy_str_bl, isTy_str_int, isTy_str_str, isTy_str_lst, isTy_str_tup, isTy_str_dct, isTy_tuple_non, isTy_tuple_bl, isTy_tuple_int, isTy_tuple_str, isTy_tuple_lst, isTy_tuple_tup, isTy_tuple_dct, isTy_list_non, isTy_list_bl, isTy_list_int, isTy_list_str, isTy_list_lst, isTy_list_tup, isTy_list_dct, isTy_dict_non, isTy_dict_bl, isTy_dict_int, isTy_dict_str, isTy_dict_lst, isTy_dict_tup, isTy_dict_dct, dIx_l, dIx_t, nLc_ap, gN_ap, goOn_nx, goOn_rt, goOn_rtO, sSeq_ap, sNext_ap, sSet_ap, sOwn_ap, sTgt_ap, sRet_ap, retO_own, sRetO_ap, sIf_ap, sDrop_ap, sFor_ap, sApp_ap, sParN_ap, sParNK_ap, sVia_ap, eCall_ap, eCallV_ap, val_d, val_o, fin_rt, fin_rtO, fin_nx, DL.start, List.map_cons, List.map_nil, List.length_cons, List.length_nil, List.replicate, List.cons_append, List.nil_append, List.getElem?_cons_zero, List.getElem?_cons_succ, List.set_cons_zero, List.set_cons_succ, wipeG, Nat.reduceSub, Nat.reduceAdd, Nat.reduceLT, Nat.reduceLeDiff, if_true, if_false, Bool.not_true, Bool.not_false, Option.bind_some, Option.map_some, gT_2, and_self, tB, k16, s7, Bool.false_eq_true, false_implies]
  · simp -implicitDefEqProofs only [ob_some, ob_bind, ob_map, eC_ap, eN_ap, eV_ap, slotN_dat, slotV_dat, slotV_own, slotV_odc, e1_ap, e2_ap, n2_ap, nLen_ap, aN_ap, aC_ap, eApp_ap, eTup_ap, nLst_ap, mkTup_0, mkTup_1, mkTup_2, mkTup_3, mkTup_4, mkLst_0, eL_ap, tV_ap, asBl_bl, tU_ap, ifB_t, ifB_f, tAnd_ap, tOr_ap, tNot_ap, tYes_ap, eIf_ap, ifD_bl, eAnd_ap, eOr_ap, notD_bl, eNot_ap, eChain_ap, dAdd_i, dSub_i, dNeg_i, dLt_i, dLe_i, dGt_i, dGe_i, dIsN2_n, dNotB_b, dEq_i, dNe_i, dEq_b, dNe_b, dEq_s, dNe_s, dLen_l, dLen_t, dLen_s, dTupOf_l, dTupOf_t, nLstOf_l, nLstOf_t, dAbs_i, itemsD_l, itemsD_t, iSeq_ap, iSeqL_ap', seqL_l, iRng1_ap, iRng2_ap, iDown_ap, iEnum_ap, iZip_ap, zip2_l, isi_ap, isTy_int_non, isTy_int_bl, isTy_int_int, isTy_int_str, isTy_int_lst, isTy_int_tup, isTy_int_dct, isTy_bool_non, isTy_bool_bl, isTy_bool_int, isTy_bool_str, isTy_bool_lst, isTy_bool_tup, isTy_bool_dct, isTy_str_non, isTy_str_bl, isTy_str_int, isTy_str_str, isTy_str_lst, isTy_str_tup, isTy_str_dct, isTy_tuple_non, isTy_tuple_bl, isTy_tuple_int, isTy_tuple_str, isTy_tuple_lst, isTy_tuple_tup, isTy_tuple_dct, isTy_list_non, isTy_list_bl, isTy_list_int, isTy_list_str, isTy_list_lst, isTy_list_tup, isTy_list_dct, isTy_dict_non, isTy_dict_bl, isTy_dict_int, isTy_dict_str, isTy_dict_lst, isTy_dict_tup, isTy_dict_dct, dIx_l, dIx_t, nLc_ap, gN_ap, goOn_nx, goOn_rt, goOn_rtO, sSeq_ap, sNext_ap, sSet_ap, sOwn_ap, sTgt_ap, sRet_ap, retO_own, sRetO_ap, sIf_ap, sDrop_ap, sFor_ap, sApp_ap, sParN_ap, sParNK_ap, sVia_ap, eCall_ap, eCallV_ap, val_d, val_o, fin_rt, fin_rtO, fin_nx, DL.start, List.map_cons, List.map_nil, List.length_cons, List.length_nil, List.replicate, List.cons_append, List.nil_append, List.getElem?_cons_zero, List.getElem?_cons_succ, List.set_cons_zero, List.set_cons_succ, wipeG, Nat.reduceSub, Nat.reduceAdd, Nat.reduceLT, Nat.reduceLeDiff, if_true, if_false, Bool.not_true, Bool.not_false, Option.bind_some, Option.map_some, List.length_map]
    simp
end Gk00
end
/-! Gk00Walk -/
section
set_option Elab.async false
set_option linter.all false
set_option maxRecDepth 100000
set_option maxHeartbeats 8000000
/-! each def of Gk00 does what its meaning says; printed by gen.py -/
namespace Gk00
open PySem PySem.Spec PyProof.Rows L2 DL
set_option maxRecDepth 100000
def topS (i : Nat) : Stmt := PySem.Challenge.pw_foundry_k00_gates_from_their_rows.main.body.getD i (.Pass ⟨0, 0, 0, 0⟩)
abbrev S_is_integer : Stmt := topS 6
theorem sc_is_integer : FnScope ["thing"] ["thing"] (defScope S_is_integer) := ⟨rfl, rfl, rfl, by decide +kernel, rfl, by decide +kernel, by decide +kernel⟩
abbrev S_is_clause : Stmt := topS 7
theorem sc_is_clause : FnScope ["thing", "most", "at", "one"] ["thing", "most"] (defScope S_is_clause) := ⟨rfl, rfl, rfl, by decide +kernel, rfl, by decide +kernel, by decide +kernel⟩
abbrev S_is_gates : Stmt := topS 8
theorem sc_is_gates : FnScope ["thing", "rows", "at", "row"] ["thing"] (defScope S_is_gates) := ⟨rfl, rfl, rfl, by decide +kernel, rfl, by decide +kernel, by decide +kernel⟩
abbrev S_check_gates : Stmt := topS 9
theorem sc_check_gates : FnScope ["gates"] ["gates"] (defScope S_check_gates) := ⟨rfl, rfl, rfl, by decide +kernel, rfl, by decide +kernel, by decide +kernel⟩
abbrev S_variables_in : Stmt := topS 10
theorem sc_variables_in : FnScope ["gates"] ["gates"] (defScope S_variables_in) := ⟨rfl, rfl, rfl, by decide +kernel, rfl, by decide +kernel, by decide +kernel⟩
abbrev S_is_code : Stmt := topS 11
theorem sc_is_code : FnScope ["thing", "bits", "one"] ["thing", "bits"] (defScope S_is_code) := ⟨rfl, rfl, rfl, by decide +kernel, rfl, by decide +kernel, by decide +kernel⟩
abbrev S_values : Stmt := topS 12
theorem sc_values : FnScope ["gates", "code", "found", "row", "literal"] ["gates", "code"] (defScope S_values) := ⟨rfl, rfl, rfl, by decide +kernel, rfl, by decide +kernel, by decide +kernel⟩
abbrev S_is_true : Stmt := topS 13
theorem sc_is_true : FnScope ["truths", "literal"] ["truths", "literal"] (defScope S_is_true) := ⟨rfl, rfl, rfl, by decide +kernel, rfl, by decide +kernel, by decide +kernel⟩
abbrev S_is_half : Stmt := topS 14
theorem sc_is_half : FnScope ["thing", "bits", "one"] ["thing", "bits"] (defScope S_is_half) := ⟨rfl, rfl, rfl, by decide +kernel, rfl, by decide +kernel, by decide +kernel⟩
abbrev S_known_literal : Stmt := topS 15
theorem sc_known_literal : FnScope ["found", "literal", "told"] ["found", "literal"] (defScope S_known_literal) := ⟨rfl, rfl, rfl, by decide +kernel, rfl, by decide +kernel, by decide +kernel⟩
abbrev S_known_values : Stmt := topS 16
theorem sc_known_values : FnScope ["gates", "half", "found", "row", "told", "literal"] ["gates", "half"] (defScope S_known_values) := ⟨rfl, rfl, rfl, by decide +kernel, rfl, by decide +kernel, by decide +kernel⟩
abbrev S_check_literals : Stmt := topS 17
theorem sc_check_literals : FnScope ["gates", "literals", "most", "one"] ["gates", "literals"] (defScope S_check_literals) := ⟨rfl, rfl, rfl, by decide +kernel, rfl, by decide +kernel, by decide +kernel⟩
abbrev S_needed : Stmt := topS 18
theorem sc_needed : FnScope ["gates", "literals", "todo", "found", "here", "literal"] ["gates", "literals"] (defScope S_needed) := ⟨rfl, rfl, rfl, by decide +kernel, rfl, by decide +kernel, by decide +kernel⟩
abbrev S_bits_below : Stmt := topS 19
theorem sc_bits_below : FnScope ["gates", "literals", "variable"] ["gates", "literals"] (defScope S_bits_below) := ⟨rfl, rfl, rfl, by decide +kernel, rfl, by decide +kernel, by decide +kernel⟩
abbrev S_levels : Stmt := topS 20
theorem sc_levels : FnScope ["gates", "found", "row", "literal"] ["gates"] (defScope S_levels) := ⟨rfl, rfl, rfl, by decide +kernel, rfl, by decide +kernel, by decide +kernel⟩
abbrev S_uses : Stmt := topS 21
theorem sc_uses : FnScope ["gates", "found", "row", "literal"] ["gates"] (defScope S_uses) := ⟨rfl, rfl, rfl, by decide +kernel, rfl, by decide +kernel, by decide +kernel⟩
abbrev S_codes : Stmt := topS 22
theorem sc_codes : FnScope ["bits", "found", "turn", "code", "truth"] ["bits"] (defScope S_codes) := ⟨rfl, rfl, rfl, by decide +kernel, rfl, by decide +kernel, by decide +kernel⟩
abbrev S_truths_of : Stmt := topS 23
theorem sc_truths_of : FnScope ["gates", "literal", "code"] ["gates", "literal"] (defScope S_truths_of) := ⟨rfl, rfl, rfl, by decide +kernel, rfl, by decide +kernel, by decide +kernel⟩
abbrev S__law_cell : Stmt := topS 25
theorem sc__law_cell : FnScope ["script", "k"] ["script", "k"] (defScope S__law_cell) := ⟨rfl, rfl, rfl, by decide +kernel, rfl, by decide +kernel, by decide +kernel⟩
abbrev S__law_draw : Stmt := topS 26
theorem sc__law_draw : FnScope ["script", "k", "sizes", "cell", "drawn", "size", "mixed", "j"] ["script", "k", "sizes"] (defScope S__law_draw) := ⟨rfl, rfl, rfl, by decide +kernel, rfl, by decide +kernel, by decide +kernel⟩
abbrev S__law_strictly : Stmt := topS 27
theorem sc__law_strictly : FnScope ["expected", "actual", "place"] ["expected", "actual"] (defScope S__law_strictly) := ⟨rfl, rfl, rfl, by decide +kernel, rfl, by decide +kernel, by decide +kernel⟩
abbrev S__law_codes : Stmt := topS 28
theorem sc__law_codes : FnScope ["bits", "rows", "turn", "found", "row"] ["bits"] (defScope S__law_codes) := ⟨rfl, rfl, rfl, by decide +kernel, rfl, by decide +kernel, by decide +kernel⟩
abbrev S__law_rows : Stmt := topS 29
theorem sc__law_rows : FnScope ["cells", "bits", "rows", "turn", "most", "own", "cell", "variable", "row", "literal", "pair"] ["cells", "bits"] (defScope S__law_rows) := ⟨rfl, rfl, rfl, by decide +kernel, rfl, by decide +kernel, by decide +kernel⟩
abbrev S__law_values : Stmt := topS 30
theorem sc__law_values : FnScope ["rows", "code", "found", "row", "told", "literal"] ["rows", "code"] (defScope S__law_values) := ⟨rfl, rfl, rfl, by decide +kernel, rfl, by decide +kernel, by decide +kernel⟩
abbrev S__law_needed : Stmt := topS 31
theorem sc__law_needed : FnScope ["rows", "bits", "literals", "wanted", "variable", "literal"] ["rows", "bits", "literals"] (defScope S__law_needed) := ⟨rfl, rfl, rfl, by decide +kernel, rfl, by decide +kernel, by decide +kernel⟩
abbrev S__law_bent : Stmt := topS 32
theorem sc__law_bent : FnScope ["rows", "bits", "digit", "place", "most", "row"] ["rows", "bits", "digit", "place"] (defScope S__law_bent) := ⟨rfl, rfl, rfl, by decide +kernel, rfl, by decide +kernel, by decide +kernel⟩
abbrev S_law : Stmt := topS 33
theorem sc_law : FnScope ["script", "digits", "bits", "rows", "gates", "most", "wrong", "literals", "need", "above", "row", "named", "half", "table", "literal", "variable", "code", "digit"] ["script"] (defScope S_law) := ⟨rfl, rfl, rfl, by decide +kernel, rfl, by decide +kernel, by decide +kernel⟩
structure Tx (K : PySem.W.Frag) (mg : Str → Option Value) where
  a_is_integer : Addr
  d_is_integer : FuncData
  F_is_integer : Fun K "is_integer" "is_integer" S_is_integer a_is_integer d_is_integer
  m_is_integer : mg "is_integer" = some (.ref a_is_integer)
  B_is_integer : Binds K d_is_integer ["thing"] []
  a_is_clause : Addr
  d_is_clause : FuncData
  F_is_clause : Fun K "is_clause" "is_clause" S_is_clause a_is_clause d_is_clause
  m_is_clause : mg "is_clause" = some (.ref a_is_clause)
  B_is_clause : Binds K d_is_clause ["thing", "most"] []
  a_is_gates : Addr
  d_is_gates : FuncData
  F_is_gates : Fun K "is_gates" "is_gates" S_is_gates a_is_gates d_is_gates
  m_is_gates : mg "is_gates" = some (.ref a_is_gates)
  B_is_gates : Binds K d_is_gates ["thing"] []
  a_check_gates : Addr
  d_check_gates : FuncData
  F_check_gates : Fun K "check_gates" "check_gates" S_check_gates a_check_gates d_check_gates
  m_check_gates : mg "check_gates" = some (.ref a_check_gates)
  B_check_gates : Binds K d_check_gates ["gates"] []
  a_variables_in : Addr
  d_variables_in : FuncData
  F_variables_in : Fun K "variables_in" "variables_in" S_variables_in a_variables_in d_variables_in
  m_variables_in : mg "variables_in" = some (.ref a_variables_in)
  B_variables_in : Binds K d_variables_in ["gates"] []
  a_is_code : Addr
  d_is_code : FuncData
  F_is_code : Fun K "is_code" "is_code" S_is_code a_is_code d_is_code
  m_is_code : mg "is_code" = some (.ref a_is_code)
  B_is_code : Binds K d_is_code ["thing", "bits"] []
  a_values : Addr
  d_values : FuncData
  F_values : Fun K "values" "values" S_values a_values d_values
  m_values : mg "values" = some (.ref a_values)
  B_values : Binds K d_values ["gates", "code"] []
  a_is_true : Addr
  d_is_true : FuncData
  F_is_true : Fun K "is_true" "is_true" S_is_true a_is_true d_is_true
  m_is_true : mg "is_true" = some (.ref a_is_true)
  B_is_true : Binds K d_is_true ["truths", "literal"] []
  a_is_half : Addr
  d_is_half : FuncData
  F_is_half : Fun K "is_half" "is_half" S_is_half a_is_half d_is_half
  m_is_half : mg "is_half" = some (.ref a_is_half)
  B_is_half : Binds K d_is_half ["thing", "bits"] []
  a_known_literal : Addr
  d_known_literal : FuncData
  F_known_literal : Fun K "known_literal" "known_literal" S_known_literal a_known_literal d_known_literal
  m_known_literal : mg "known_literal" = some (.ref a_known_literal)
  B_known_literal : Binds K d_known_literal ["found", "literal"] []
  a_known_values : Addr
  d_known_values : FuncData
  F_known_values : Fun K "known_values" "known_values" S_known_values a_known_values d_known_values
  m_known_values : mg "known_values" = some (.ref a_known_values)
  B_known_values : Binds K d_known_values ["gates", "half"] []
  a_check_literals : Addr
  d_check_literals : FuncData
  F_check_literals : Fun K "check_literals" "check_literals" S_check_literals a_check_literals d_check_literals
  m_check_literals : mg "check_literals" = some (.ref a_check_literals)
  B_check_literals : Binds K d_check_literals ["gates", "literals"] []
  a_needed : Addr
  d_needed : FuncData
  F_needed : Fun K "needed" "needed" S_needed a_needed d_needed
  m_needed : mg "needed" = some (.ref a_needed)
  B_needed : Binds K d_needed ["gates", "literals"] []
  a_bits_below : Addr
  d_bits_below : FuncData
  F_bits_below : Fun K "bits_below" "bits_below" S_bits_below a_bits_below d_bits_below
  m_bits_below : mg "bits_below" = some (.ref a_bits_below)
  B_bits_below : Binds K d_bits_below ["gates", "literals"] []
  a_levels : Addr
  d_levels : FuncData
  F_levels : Fun K "levels" "levels" S_levels a_levels d_levels
  m_levels : mg "levels" = some (.ref a_levels)
  B_levels : Binds K d_levels ["gates"] []
  a_uses : Addr
  d_uses : FuncData
  F_uses : Fun K "uses" "uses" S_uses a_uses d_uses
  m_uses : mg "uses" = some (.ref a_uses)
  B_uses : Binds K d_uses ["gates"] []
  a_codes : Addr
  d_codes : FuncData
  F_codes : Fun K "codes" "codes" S_codes a_codes d_codes
  m_codes : mg "codes" = some (.ref a_codes)
  B_codes : Binds K d_codes ["bits"] []
  a_truths_of : Addr
  d_truths_of : FuncData
  F_truths_of : Fun K "truths_of" "truths_of" S_truths_of a_truths_of d_truths_of
  m_truths_of : mg "truths_of" = some (.ref a_truths_of)
  B_truths_of : Binds K d_truths_of ["gates", "literal"] []
  a__law_cell : Addr
  d__law_cell : FuncData
  F__law_cell : Fun K "_law_cell" "_law_cell" S__law_cell a__law_cell d__law_cell
  m__law_cell : mg "_law_cell" = some (.ref a__law_cell)
  B__law_cell : Binds K d__law_cell ["script", "k"] []
  a__law_draw : Addr
  d__law_draw : FuncData
  F__law_draw : Fun K "_law_draw" "_law_draw" S__law_draw a__law_draw d__law_draw
  m__law_draw : mg "_law_draw" = some (.ref a__law_draw)
  B__law_draw : Binds K d__law_draw ["script", "k", "sizes"] []
  a__law_strictly : Addr
  d__law_strictly : FuncData
  F__law_strictly : Fun K "_law_strictly" "_law_strictly" S__law_strictly a__law_strictly d__law_strictly
  m__law_strictly : mg "_law_strictly" = some (.ref a__law_strictly)
  B__law_strictly : Binds K d__law_strictly ["expected", "actual"] []
  a__law_codes : Addr
  d__law_codes : FuncData
  F__law_codes : Fun K "_law_codes" "_law_codes" S__law_codes a__law_codes d__law_codes
  m__law_codes : mg "_law_codes" = some (.ref a__law_codes)
  B__law_codes : Binds K d__law_codes ["bits"] []
  a__law_rows : Addr
  d__law_rows : FuncData
  F__law_rows : Fun K "_law_rows" "_law_rows" S__law_rows a__law_rows d__law_rows
  m__law_rows : mg "_law_rows" = some (.ref a__law_rows)
  B__law_rows : Binds K d__law_rows ["cells", "bits"] []
  a__law_values : Addr
  d__law_values : FuncData
  F__law_values : Fun K "_law_values" "_law_values" S__law_values a__law_values d__law_values
  m__law_values : mg "_law_values" = some (.ref a__law_values)
  B__law_values : Binds K d__law_values ["rows", "code"] []
  a__law_needed : Addr
  d__law_needed : FuncData
  F__law_needed : Fun K "_law_needed" "_law_needed" S__law_needed a__law_needed d__law_needed
  m__law_needed : mg "_law_needed" = some (.ref a__law_needed)
  B__law_needed : Binds K d__law_needed ["rows", "bits", "literals"] []
  a__law_bent : Addr
  d__law_bent : FuncData
  F__law_bent : Fun K "_law_bent" "_law_bent" S__law_bent a__law_bent d__law_bent
  m__law_bent : mg "_law_bent" = some (.ref a__law_bent)
  B__law_bent : Binds K d__law_bent ["rows", "bits", "digit", "place"] []
  a_law : Addr
  d_law : FuncData
  F_law : Fun K "law" "law" S_law a_law d_law
  m_law : mg "law" = some (.ref a_law)
  B_law : Binds K d_law ["script"] []
  n_isinstance : mg "isinstance" = none
  n_int : mg "int" = none
  n_bool : mg "bool" = none
  n_tuple : mg "tuple" = none
  n_all : mg "all" = none
  n_abs : mg "abs" = none
  n_range : mg "range" = none
  n_len : mg "len" = none
  n_enumerate : mg "enumerate" = none
  n_set : mg "set" = none
  n_list : mg "list" = none
  n_sorted : mg "sorted" = none
  n_max : mg "max" = none
  n_str : mg "str" = none
  n_zip : mg "zip" = none
  t_MOST_BITS : Tok
  c_MOST_BITS : mg "MOST_BITS" = some (.int 400 t_MOST_BITS)
  t_MOST_GATES : Tok
  c_MOST_GATES : mg "MOST_GATES" = some (.int 20000 t_MOST_GATES)
section
variable {P : Program} {w : World} {K : PySem.W.Frag} {mg : Str → Option Value} {base : Heap}
theorem ok_is_integer (T : Tx K mg) : FnOk P w K mg base CX0 1 T.a_is_integer T.d_is_integer ["thing"] (spR K f_is_integer) := fnOk T.F_is_integer sc_is_integer rfl rfl (fun cdv A outer s H E hr => show PSs _ _ (tS K s_is_integer) from
    (ssOne (sRetE (deAnd (dIsiE .int rfl T.n_isinstance (wn 0) (pe_bltn (v := .ty "int") rfl T.n_int PyProof.Rows.boot_int rfl)) (deOne (deNot (dIsiE .bool rfl T.n_isinstance (wn 0) (pe_bltn (v := .ty "bool") rfl T.n_bool PyProof.Rows.boot_bool rfl))))))))
theorem ok_is_clause (T : Tx K mg) : FnOk P w K mg base CX0 2 T.a_is_clause T.d_is_clause ["thing", "most"] (spR K f_is_clause) := fnOk T.F_is_clause sc_is_clause rfl rfl (fun cdv A outer s H E hr => show PSs _ _ (tS K s_is_clause) from
    (ssCons (sIfE (PW.pt (twOr (teNot (teV (dIsiE .tuple rfl T.n_isinstance (wn 0) (pe_bltn (v := .ty "tuple") rfl T.n_tuple PyProof.Rows.boot_tuple rfl)))) (twOr1 (teNot (teV (dCB (cr_all rfl) oAll T.n_all (by decide +kernel) (wCons (wOf (dOfN (nLcE rfl sc_is_clause.nd (blkOk_by (own := [("one", 3)]) (by kernel_rfl)) (iwOf (iSeqE (dn 0))) (fun _ _ _ _ _ => (gNm 3 sc_is_clause.nd)) (fun _ _ _ _ _ => ptsNil) (fun _ _ _ _ _ => (deAnd (dCall (ok_is_integer T) (hr.mono (by decide)) T.m_is_integer T.F_is_integer.kp T.B_is_integer (aCons (dn 3) aNil)) (deOne (dChain op_le op_le oLe oLe (wOf cInt) (wOf (dCB call_abs oAbs T.n_abs (by decide +kernel) (wCons (wn 3) wNil))) (wn 1))))) (by decide)))) wNil))))))) (ssOne (sRetE cBl)) ssNil)
    (ssOne (sRetE (dCB (cr_all rfl) oAll T.n_all (by decide +kernel) (wCons (wOf (dOfN (nLcE rfl sc_is_clause.nd (blkOk_by (own := [("at", 2)]) (by kernel_rfl)) (iwOf (iRange1 rfl T.n_range (dBin op_sub oSub (wOf (dCB crLen oLen T.n_len PySem.boot_len (wCons (wn 0) wNil))) (wOf cInt)))) (fun _ _ _ _ _ => (gNm 2 sc_is_clause.nd)) (fun _ _ _ _ _ => ptsNil) (fun _ _ _ _ _ => (dCmp op_lt oLt (wOf (dCB call_abs oAbs T.n_abs (by decide +kernel) (wCons (wOf (dIxE ixAll oIx (wn 0) (wn 2) (fun _ _ => rfl))) wNil))) (wOf (dCB call_abs oAbs T.n_abs (by decide +kernel) (wCons (wOf (dIxE ixAll oIx (wn 0) (wOf (dBin opAdd oAdd (wn 2) (wOf cInt))) (fun _ _ => rfl))) wNil))) (nomark _))) (by decide)))) wNil))))))
theorem ok_is_gates (T : Tx K mg) : FnOk P w K mg base CX0 3 T.a_is_gates T.d_is_gates ["thing"] (spR K f_is_gates) := fnOk T.F_is_gates sc_is_gates rfl rfl (fun cdv A outer s H E hr => show PSs _ _ (tS K s_is_gates) from
    (ssCons (sIfE (PW.pt (twOr (teNot (teV (dIsiE .tuple rfl T.n_isinstance (wn 0) (pe_bltn (v := .ty "tuple") rfl T.n_tuple PyProof.Rows.boot_tuple rfl)))) (twOr (teCmp (op_neD hr.units) oNe (wOf (dCB crLen oLen T.n_len PySem.boot_len (wCons (wn 0) wNil))) (wOf cInt) (nomark _)) (twOr (teCmp (op_neD hr.units) oNe (wOf (dIxE ixAll oIx (wn 0) (wOf cInt) (fun _ _ => rfl))) (wOf cStr) (nomark _)) (twOr1 (teNot (teV (dCall (ok_is_integer T) (hr.mono (by decide)) T.m_is_integer T.F_is_integer.kp T.B_is_integer (aCons (dIxE ixAll oIx (wn 0) (wOf cInt) (fun _ _ => rfl)) aNil))))))))) (ssOne (sRetE cBl)) ssNil)
    (ssCons (sIfE (PW.pt (twOr (teNot (teChain op_le op_le oLe oLe (wOf cInt) (wOf (dIxE ixAll oIx (wn 0) (wOf cInt) (fun _ _ => rfl))) (wOf (cGlob rfl T.c_MOST_BITS)))) (twOr (teNot (teV (dIsiE .tuple rfl T.n_isinstance (wOf (dIxE ixAll oIx (wn 0) (wOf cInt) (fun _ _ => rfl))) (pe_bltn (v := .ty "tuple") rfl T.n_tuple PyProof.Rows.boot_tuple rfl)))) (twOr1 (teCmp op_gt oGt (wOf (dCB crLen oLen T.n_len PySem.boot_len (wCons (wOf (dIxE ixAll oIx (wn 0) (wOf cInt) (fun _ _ => rfl))) wNil))) (wOf (cGlob rfl T.c_MOST_GATES)) (nomark _)))))) (ssOne (sRetE cBl)) ssNil)
    (ssCons (sSetE 1 sc_is_gates.nd (dIxE ixAll oIx (wn 0) (wOf cInt) (fun _ _ => rfl)))
    (ssCons (sIfE (teNot (teV (dCB (cr_all rfl) oAll T.n_all (by decide +kernel) (wCons (wOf (dOfN (nLcE rfl sc_is_gates.nd (blkOk_by (own := [("at", 2), ("row", 3)]) (by kernel_rfl)) (iwOf (iEnumE rfl T.n_enumerate (dn 1))) (fun _ _ _ _ _ => (gTp rfl (gsCons 2 sc_is_gates.nd (gsCons 3 sc_is_gates.nd gsNil)))) (fun _ _ _ _ _ => ptsNil) (fun _ _ _ _ _ => (deAnd (dCall (ok_is_clause T) (hr.mono (by decide)) T.m_is_clause T.F_is_clause.kp T.B_is_clause (aCons (dn 3) (aCons (dBin opAdd oAdd (wOf (dIxE ixAll oIx (wn 0) (wOf cInt) (fun _ _ => rfl))) (wn 2)) aNil))) (deOne (dCmp (op_neD hr.units) oNe (wOf (dCB crLen oLen T.n_len PySem.boot_len (wCons (wn 3) wNil))) (wOf cInt) (nomark _))))) (by decide)))) wNil)))) (ssOne (sRetE cBl)) ssNil)
    (ssOne (sRetE (dCmp (op_eqD hr.units) oEq (wOf (dLenSetE rfl hr.units T.n_len T.n_set (dn 1))) (wOf (dCB crLen oLen T.n_len PySem.boot_len (wCons (wn 1) wNil))) (nomark _)))))))))
theorem ok_check_gates (T : Tx K mg) : FnOk P w K mg base CX0 4 T.a_check_gates T.d_check_gates ["gates"] (spR K f_check_gates) := fnOk T.F_check_gates sc_check_gates rfl rfl (fun cdv A outer s H E hr => show PSs _ _ (tS K s_check_gates) from
    (ssOne (sIfE (teNot (teV (dCall (ok_is_gates T) (hr.mono (by decide)) T.m_is_gates T.F_is_gates.kp T.B_is_gates (aCons (dn 0) aNil)))) (ssOne sNeverE) ssNil)))
theorem ok_variables_in (T : Tx K mg) : FnOk P w K mg base CX0 5 T.a_variables_in T.d_variables_in ["gates"] (spR K f_variables_in) := fnOk T.F_variables_in sc_variables_in rfl rfl (fun cdv A outer s H E hr => show PSs _ _ (tS K s_variables_in) from
    (ssCons (sDropE (dCall (ok_check_gates T) (hr.mono (by decide)) T.m_check_gates T.F_check_gates.kp T.B_check_gates (aCons (dn 0) aNil)))
    (ssOne (sRetE (dBin opAdd oAdd (wOf (dIxE ixAll oIx (wn 0) (wOf cInt) (fun _ _ => rfl))) (wOf (dCB crLen oLen T.n_len PySem.boot_len (wCons (wOf (dIxE ixAll oIx (wn 0) (wOf cInt) (fun _ _ => rfl))) wNil))))))))
theorem ok_is_code (T : Tx K mg) : FnOk P w K mg base CX0 1 T.a_is_code T.d_is_code ["thing", "bits"] (spR K f_is_code) := fnOk T.F_is_code sc_is_code rfl rfl (fun cdv A outer s H E hr => show PSs _ _ (tS K s_is_code) from
    (ssOne (sRetE (deAnd (dIsiE .tuple rfl T.n_isinstance (wn 0) (pe_bltn (v := .ty "tuple") rfl T.n_tuple PyProof.Rows.boot_tuple rfl)) (deAnd (dCmp (op_eqD hr.units) oEq (wOf (dCB crLen oLen T.n_len PySem.boot_len (wCons (wn 0) wNil))) (wn 1) (nomark _)) (deOne (dCB (cr_all rfl) oAll T.n_all (by decide +kernel) (wCons (wOf (dOfN (nLcE rfl sc_is_code.nd (blkOk_by (own := [("one", 2)]) (by kernel_rfl)) (iwOf (iSeqE (dn 0))) (fun _ _ _ _ _ => (gNm 2 sc_is_code.nd)) (fun _ _ _ _ _ => ptsNil) (fun _ _ _ _ _ => (dIsiE .bool rfl T.n_isinstance (wn 2) (pe_bltn (v := .ty "bool") rfl T.n_bool PyProof.Rows.boot_bool rfl))) (by decide)))) wNil))))))))
theorem ok_values (T : Tx K mg) : FnOk P w K mg base CX0 5 T.a_values T.d_values ["gates", "code"] (spR K f_values) := fnOk T.F_values sc_values rfl rfl (fun cdv A outer s H E hr => show PSs _ _ (tS K s_values) from
    (ssCons (sDropE (dCall (ok_check_gates T) (hr.mono (by decide)) T.m_check_gates T.F_check_gates.kp T.B_check_gates (aCons (dn 0) aNil)))
    (ssCons (sIfE (teNot (teV (dCall (ok_is_code T) (hr.mono (by decide)) T.m_is_code T.F_is_code.kp T.B_is_code (aCons (dn 1) (aCons (dIxE ixAll oIx (wn 0) (wOf cInt) (fun _ _ => rfl)) aNil))))) (ssOne sNeverE) ssNil)
    (ssCons (sOwnE 2 sc_values.nd (nCT crLst oLstOf T.n_list PyProof.Rows.boot_list (wCons (wn 1) wNil)))
    (ssCons (sForE PassesOwn.never rfl (iSeqE (dIxE ixAll oIx (wn 0) (wOf cInt) (fun _ _ => rfl))) (gNm 3 sc_values.nd) (ssOne (sAppE 2 (dCB (cr_all rfl) oAll T.n_all (by decide +kernel) (wCons (wOf (dOfN (nLcE rfl sc_values.nd (blkOk_by (own := [("literal", 4)]) (by kernel_rfl)) (iwOf (iSeqE (dn 3))) (fun _ _ _ _ _ => (gNm 4 sc_values.nd)) (fun _ _ _ _ _ => ptsNil) (fun _ _ _ _ _ => (dCmp (op_eqD hr.units) oEq (wOf (dIxE ixAll oIx (wn 2) (wOf (dBin op_sub oSub (wOf (dCB call_abs oAbs T.n_abs (by decide +kernel) (wCons (wn 4) wNil))) (wOf cInt))) (fun _ _ => rfl))) (wOf (dCmp op_gt oGt (wn 4) (wOf cInt) (nomark _))) (nomark _))) (by decide)))) wNil)))))
    (ssOne (sRetE (dCT crTup oTupOf T.n_tuple PyProof.Rows.boot_tuple (wCons (wn 2) wNil)))))))))
theorem ok_is_true (T : Tx K mg) : FnOk P w K mg base CX0 1 T.a_is_true T.d_is_true ["truths", "literal"] (spR K f_is_true) := fnOk T.F_is_true sc_is_true rfl rfl (fun cdv A outer s H E hr => show PSs _ _ (tS K s_is_true) from
    (ssOne (sRetE (dCmp (op_eqD hr.units) oEq (wOf (dIxE ixAll oIx (wn 0) (wOf (dBin op_sub oSub (wOf (dCB call_abs oAbs T.n_abs (by decide +kernel) (wCons (wn 1) wNil))) (wOf cInt))) (fun _ _ => rfl))) (wOf (dCmp op_gt oGt (wn 1) (wOf cInt) (nomark _))) (nomark _)))))
theorem ok_is_half (T : Tx K mg) : FnOk P w K mg base CX0 1 T.a_is_half T.d_is_half ["thing", "bits"] (spR K f_is_half) := fnOk T.F_is_half sc_is_half rfl rfl (fun cdv A outer s H E hr => show PSs _ _ (tS K s_is_half) from
    (ssCons (sIfE (PW.pt (twOr (teNot (teV (dIsiE .tuple rfl T.n_isinstance (wn 0) (pe_bltn (v := .ty "tuple") rfl T.n_tuple PyProof.Rows.boot_tuple rfl)))) (twOr1 (teCmp (op_neD hr.units) oNe (wOf (dCB crLen oLen T.n_len PySem.boot_len (wCons (wn 0) wNil))) (wn 1) (nomark _))))) (ssOne (sRetE cBl)) ssNil)
    (ssOne (sRetE (dCB (cr_all rfl) oAll T.n_all (by decide +kernel) (wCons (wOf (dOfN (nLcE rfl sc_is_half.nd (blkOk_by (own := [("one", 2)]) (by kernel_rfl)) (iwOf (iSeqE (dn 0))) (fun _ _ _ _ _ => (gNm 2 sc_is_half.nd)) (fun _ _ _ _ _ => ptsNil) (fun _ _ _ _ _ => (deOr (dCmp op_isN oIsN2 (wn 2) (wOf cNon) (nomark _)) (deOne (dIsiE .bool rfl T.n_isinstance (wn 2) (pe_bltn (v := .ty "bool") rfl T.n_bool PyProof.Rows.boot_bool rfl))))) (by decide)))) wNil))))))
theorem ok_known_literal (T : Tx K mg) : FnOk P w K mg base CX0 1 T.a_known_literal T.d_known_literal ["found", "literal"] (spR K f_known_literal) := fnOk T.F_known_literal sc_known_literal rfl rfl (fun cdv A outer s H E hr => show PSs _ _ (tS K s_known_literal) from
    (ssCons (sSetE 2 sc_known_literal.nd (dIxE ixAll oIx (wn 0) (wOf (dBin op_sub oSub (wOf (dCB call_abs oAbs T.n_abs (by decide +kernel) (wCons (wn 1) wNil))) (wOf cInt))) (fun _ _ => rfl)))
    (ssOne (sRetE (deIf (teCmp op_isN oIsN2 (wn 2) (wOf cNon) (nomark _)) cNon (dCmp (op_eqD hr.units) oEq (wn 2) (wOf (dCmp op_gt oGt (wn 1) (wOf cInt) (nomark _))) (nomark _)))))))
theorem ok_known_values (T : Tx K mg) : FnOk P w K mg base CX0 5 T.a_known_values T.d_known_values ["gates", "half"] (spR K f_known_values) := fnOk T.F_known_values sc_known_values rfl rfl (fun cdv A outer s H E hr => show PSs _ _ (tS K s_known_values) from
    (ssCons (sDropE (dCall (ok_check_gates T) (hr.mono (by decide)) T.m_check_gates T.F_check_gates.kp T.B_check_gates (aCons (dn 0) aNil)))
    (ssCons (sIfE (teNot (teV (dCall (ok_is_half T) (hr.mono (by decide)) T.m_is_half T.F_is_half.kp T.B_is_half (aCons (dn 1) (aCons (dIxE ixAll oIx (wn 0) (wOf cInt) (fun _ _ => rfl)) aNil))))) (ssOne sNeverE) ssNil)
    (ssCons (sOwnE 2 sc_known_values.nd (nCT crLst oLstOf T.n_list PyProof.Rows.boot_list (wCons (wn 1) wNil)))
    (ssCons (sForE PassesOwn.never rfl (iSeqE (dIxE ixAll oIx (wn 0) (wOf cInt) (fun _ _ => rfl))) (gNm 3 sc_known_values.nd) (ssCons (PS.set (sSetLc (i := 4) rfl sc_known_values.nd (blkOk_by (own := [("literal", 5)]) (by kernel_rfl)) (sw_true rfl rfl rfl (by kernel_rfl)) (iwOf (iSeqE (dn 3))) (fun _ _ _ _ _ => (gNm 5 sc_known_values.nd)) (fun _ _ _ _ _ => ptsNil) (fun _ _ _ _ _ => (dCallV (ok_known_literal T) (hr.mono (by decide)) T.m_known_literal T.F_known_literal.kp T.B_known_literal (wCons (wn 2) (wCons (wn 5) wNil)))) (by decide)))
    (ssOne (sAppE 2 (deIf (teCmp (opIn (hr65 hr)) oIn (wOf cBl) (wn 4) (by with_unfolding_all rfl)) cBl (deIf (teCmp (opIn (hr65 hr)) oIn (wOf cNon) (wn 4) (by with_unfolding_all rfl)) cNon cBl))))))
    (ssOne (sRetE (dCT crTup oTupOf T.n_tuple PyProof.Rows.boot_tuple (wCons (wn 2) wNil)))))))))
theorem ok_check_literals (T : Tx K mg) : FnOk P w K mg base CX0 6 T.a_check_literals T.d_check_literals ["gates", "literals"] (spR K f_check_literals) := fnOk T.F_check_literals sc_check_literals rfl rfl (fun cdv A outer s H E hr => show PSs _ _ (tS K s_check_literals) from
    (ssCons (sSetE 2 sc_check_literals.nd (dCall (ok_variables_in T) (hr.mono (by decide)) T.m_variables_in T.F_variables_in.kp T.B_variables_in (aCons (dn 0) aNil)))
    (ssOne (sIfE (PW.pt (twOr (teNot (teV (dIsiE .tuple rfl T.n_isinstance (wn 1) (pe_bltn (v := .ty "tuple") rfl T.n_tuple PyProof.Rows.boot_tuple rfl)))) (twOr1 (teNot (teV (dCB (cr_all rfl) oAll T.n_all (by decide +kernel) (wCons (wOf (dOfN (nLcE rfl sc_check_literals.nd (blkOk_by (own := [("one", 3)]) (by kernel_rfl)) (iwOf (iSeqE (dn 1))) (fun _ _ _ _ _ => (gNm 3 sc_check_literals.nd)) (fun _ _ _ _ _ => ptsNil) (fun _ _ _ _ _ => (dCall (ok_is_clause T) (hr.mono (by decide)) T.m_is_clause T.F_is_clause.kp T.B_is_clause (aCons (dTup (aCons (dn 3) aNil)) (aCons (dn 2) aNil)))) (by decide)))) wNil))))))) (ssOne sNeverE) ssNil))))
theorem ok_needed (T : Tx K mg) : FnOk P w K mg base CX0 7 T.a_needed T.d_needed ["gates", "literals"] (spR K f_needed) := fnOk T.F_needed sc_needed rfl rfl (fun cdv A outer s H E hr => show PSs _ _ (tS K s_needed) from
    (ssCons (sDropE (dCall (ok_check_literals T) (hr.mono (by decide)) T.m_check_literals T.F_check_literals.kp T.B_check_literals (aCons (dn 0) (aCons (dn 1) aNil))))
    (ssCons (sParNKE 2 3 rfl sc_needed.nd (nLcE rfl sc_needed.nd (blkOk_by (own := [("literal", 5)]) (by kernel_rfl)) (iwOf (iSeqE (dn 1))) (fun _ _ _ _ _ => (gNm 5 sc_needed.nd)) (fun _ _ _ _ _ => ptsNil) (fun _ _ _ _ _ => (dCB call_abs oAbs T.n_abs (by decide +kernel) (wCons (wn 5) wNil))) (by decide)) (by rfl))
    (ssCons (sWhileE 200 PassesOwn.never (teU (wn 2)) (ssCons (sPopE 4 2 sc_needed.nd)
    (ssOne (sIfE (teNotInE (hu_of hr) (wn 4) (wn 3)) (ssCons (sPutDE 3 (hu_of hr) cBl (dn 4))
    (ssOne (sIfE (teCmp op_gt oGt (wn 4) (wOf (dIxE ixAll oIx (wn 0) (wOf cInt) (fun _ _ => rfl))) (nomark _)) (ssOne (sExtE 2 sc_needed.nd (dOfN (nLcE rfl sc_needed.nd (blkOk_by (own := [("literal", 5)]) (by kernel_rfl)) (iwOf (iSeqE (dIxE ixAll oIx (wOf (dIxE ixAll oIx (wn 0) (wOf cInt) (fun _ _ => rfl))) (wOf (dBin op_sub oSub (wOf (dBin op_sub oSub (wn 4) (wOf (dIxE ixAll oIx (wn 0) (wOf cInt) (fun _ _ => rfl))))) (wOf cInt))) (fun _ _ => rfl)))) (fun _ _ _ _ _ => (gNm 5 sc_needed.nd)) (fun _ _ _ _ _ => ptsNil) (fun _ _ _ _ _ => (dCB call_abs oAbs T.n_abs (by decide +kernel) (wCons (wn 5) wNil))) (by decide))))) ssNil))) ssNil))))
    (ssOne (sRetE (dCT crTup oTupOf T.n_tuple PyProof.Rows.boot_tuple (wCons (wOf (dOfN (nCB (crSortD rfl) oSortD T.n_sorted PyProof.Rows.boot_sorted (wCons (wn 3) wNil)))) wNil))))))))
theorem ok_bits_below (T : Tx K mg) : FnOk P w K mg base CX0 8 T.a_bits_below T.d_bits_below ["gates", "literals"] (spR K f_bits_below) := fnOk T.F_bits_below sc_bits_below rfl rfl (fun cdv A outer s H E hr => show PSs _ _ (tS K s_bits_below) from
    (ssOne (sRetE (dCT crTup oTupOf T.n_tuple PyProof.Rows.boot_tuple (wCons (wOf (dOfN (nLcE rfl sc_bits_below.nd (blkOk_by (own := [("variable", 2)]) (by kernel_rfl)) (iwOf (iSeqE (dCall (ok_needed T) (hr.mono (by decide)) T.m_needed T.F_needed.kp T.B_needed (aCons (dn 0) (aCons (dn 1) aNil))))) (fun _ _ _ _ _ => (gNm 2 sc_bits_below.nd)) (fun _ _ _ _ _ => (ptsOne (teCmp op_le oLe (wn 2) (wOf (dIxE ixAll oIx (wn 0) (wOf cInt) (fun _ _ => rfl))) (nomark _)))) (fun _ _ _ _ _ => (dBin op_sub oSub (wn 2) (wOf cInt))) (by decide)))) wNil)))))
theorem ok_levels (T : Tx K mg) : FnOk P w K mg base CX0 5 T.a_levels T.d_levels ["gates"] (spR K f_levels) := fnOk T.F_levels sc_levels rfl rfl (fun cdv A outer s H E hr => show PSs _ _ (tS K s_levels) from
    (ssCons (sDropE (dCall (ok_check_gates T) (hr.mono (by decide)) T.m_check_gates T.F_check_gates.kp T.B_check_gates (aCons (dn 0) aNil)))
    (ssCons (sOwnE 1 sc_levels.nd (nBin2 op_rep oRepN (wOf (dOfN (nLstD (aCons cInt aNil)))) (wOf (dIxE ixAll oIx (wn 0) (wOf cInt) (fun _ _ => rfl)))))
    (ssCons (sForE PassesOwn.never rfl (iSeqE (dIxE ixAll oIx (wn 0) (wOf cInt) (fun _ _ => rfl))) (gNm 2 sc_levels.nd) (ssOne (sAppE 1 (dBin opAdd oAdd (wOf cInt) (wOf (dCB (cr_max rfl) oMax T.n_max PyProof.Rows.boot_max (wCons (wOf (dBin opAdd oAdd (wOf (dOfN (nLcE rfl sc_levels.nd (blkOk_by (own := [("literal", 3)]) (by kernel_rfl)) (iwOf (iSeqE (dn 2))) (fun _ _ _ _ _ => (gNm 3 sc_levels.nd)) (fun _ _ _ _ _ => ptsNil) (fun _ _ _ _ _ => (dIxE ixAll oIx (wn 1) (wOf (dBin op_sub oSub (wOf (dCB call_abs oAbs T.n_abs (by decide +kernel) (wCons (wn 3) wNil))) (wOf cInt))) (fun _ _ => rfl))) (by decide)))) (wOf (dOfN (nLstD (aCons cInt aNil)))))) wNil)))))))
    (ssOne (sRetE (dCT crTup oTupOf T.n_tuple PyProof.Rows.boot_tuple (wCons (wn 1) wNil))))))))
theorem ok_uses (T : Tx K mg) : FnOk P w K mg base CX0 6 T.a_uses T.d_uses ["gates"] (spR K f_uses) := fnOk T.F_uses sc_uses rfl rfl (fun cdv A outer s H E hr => show PSs _ _ (tS K s_uses) from
    (ssCons (sOwnE 1 sc_uses.nd (nBin2 op_rep oRepN (wOf (dOfN (nLstD (aCons cInt aNil)))) (wOf (dCall (ok_variables_in T) (hr.mono (by decide)) T.m_variables_in T.F_variables_in.kp T.B_variables_in (aCons (dn 0) aNil)))))
    (ssCons (sForE PassesOwn.never rfl (iSeqE (dIxE ixAll oIx (wn 0) (wOf cInt) (fun _ _ => rfl))) (gNm 2 sc_uses.nd) (ssOne (sForE PassesOwn.never rfl (iSeqE (dn 2)) (gNm 3 sc_uses.nd) (ssOne (sAugLE 1 cInt (dBin op_sub oSub (wOf (dCB call_abs oAbs T.n_abs (by decide +kernel) (wCons (wn 3) wNil))) (wOf cInt)))))))
    (ssOne (sRetE (dCT crTup oTupOf T.n_tuple PyProof.Rows.boot_tuple (wCons (wn 1) wNil)))))))
theorem ok_codes (T : Tx K mg) : FnOk P w K mg base CX0 2 T.a_codes T.d_codes ["bits"] (spR K f_codes) := fnOk T.F_codes sc_codes rfl rfl (fun cdv A outer s H E hr => show PSs _ _ (tS K s_codes) from
    (ssCons (sIfE (PW.pt (twOr (teNot (teV (dCall (ok_is_integer T) (hr.mono (by decide)) T.m_is_integer T.F_is_integer.kp T.B_is_integer (aCons (dn 0) aNil)))) (twOr1 (teNot (teChain op_le op_le oLe oLe (wOf cInt) (wn 0) (wOf cInt)))))) (ssOne sNeverE) ssNil)
    (ssCons (sSetE 1 sc_codes.nd (dOfN (nLstD (aCons (dTup aNil) aNil))))
    (ssCons (sForE PassesOwn.never rfl (iRange1 rfl T.n_range (dn 0)) (gNm 2 sc_codes.nd) (ssOne (PS.set (sSetLc2 (i := 1) (vs1 := [4]) rfl sc_codes.nd (blkOk_by (own := [("code", 3), ("truth", 4)]) (by kernel_rfl)) (by decide) (sw_true rfl rfl rfl (by kernel_rfl)) (iwOf (iSeqE (dn 1))) (fun _ _ _ _ _ => (gNm 3 sc_codes.nd)) (fun _ _ _ _ _ => ptsNil) (fun _ _ _ _ _ => (iSeqE (dTup (aCons cBl (aCons cBl aNil))))) (fun _ _ _ _ _ => (gNm 4 sc_codes.nd)) (fun _ _ _ _ _ => ptsNil) (fun _ _ _ _ _ => (dBin opAdd oAdd (wn 3) (wOf (dTup (aCons (dn 4) aNil))))) (by decide) (by decide)))))
    (ssOne (sRetE (dn 1)))))))
theorem ok_truths_of (T : Tx K mg) : FnOk P w K mg base CX0 7 T.a_truths_of T.d_truths_of ["gates", "literal"] (spR K f_truths_of) := fnOk T.F_truths_of sc_truths_of rfl rfl (fun cdv A outer s H E hr => show PSs _ _ (tS K s_truths_of) from
    (ssCons (sDropE (dCall (ok_check_literals T) (hr.mono (by decide)) T.m_check_literals T.F_check_literals.kp T.B_check_literals (aCons (dn 0) (aCons (dTup (aCons (dn 1) aNil)) aNil))))
    (ssOne (sRetE (dCT crTup oTupOf T.n_tuple PyProof.Rows.boot_tuple (wCons (wOf (dOfN (nLcE rfl sc_truths_of.nd (blkOk_by (own := [("code", 2)]) (by kernel_rfl)) (iwOf (iSeqE (dCall (ok_codes T) (hr.mono (by decide)) T.m_codes T.F_codes.kp T.B_codes (aCons (dIxE ixAll oIx (wn 0) (wOf cInt) (fun _ _ => rfl)) aNil)))) (fun _ _ _ _ _ => (gNm 2 sc_truths_of.nd)) (fun _ _ _ _ _ => ptsNil) (fun _ _ _ _ _ => (dCall (ok_is_true T) (hr.mono (by decide)) T.m_is_true T.F_is_true.kp T.B_is_true (aCons (dCall (ok_values T) (hr.mono (by decide)) T.m_values T.F_values.kp T.B_values (aCons (dn 0) (aCons (dn 2) aNil))) (aCons (dn 1) aNil)))) (by decide)))) wNil))))))
theorem ok__law_cell (T : Tx K mg) : FnOk P w K mg base CX0 1 T.a__law_cell T.d__law_cell ["script", "k"] (spR K f__law_cell) := fnOk T.F__law_cell sc__law_cell rfl rfl (fun cdv A outer s H E hr => show PSs _ _ (tS K s__law_cell) from
    (ssCons (sIfE (teCmp op_lt oLt (wn 1) (wOf (dCB crLen oLen T.n_len PySem.boot_len (wCons (wn 0) wNil))) (nomark _)) (ssOne (sRetE (dIxE ixAll oIx (wn 0) (wn 1) (fun _ _ => rfl)))) ssNil)
    (ssOne (sRetE cInt))))
theorem ok__law_draw (T : Tx K mg) : FnOk P w K mg base CX0 2 T.a__law_draw T.d__law_draw ["script", "k", "sizes"] (spR K f__law_draw) := fnOk T.F__law_draw sc__law_draw rfl rfl (fun cdv A outer s H E hr => show PSs _ _ (tS K s__law_draw) from
    (ssCons (sSetE 3 sc__law_draw.nd (dCall (ok__law_cell T) (hr.mono (by decide)) T.m__law_cell T.F__law_cell.kp T.B__law_cell (aCons (dn 0) (aCons (dn 1) aNil))))
    (ssCons (sIfE (teCmp op_lt oLt (wn 3) (wOf cInt) (nomark _)) (ssOne (sSetE 3 sc__law_draw.nd (dUn un_neg oNeg (wn 3)))) ssNil)
    (ssCons (sOwnE 4 sc__law_draw.nd (nLstD aNil))
    (ssCons (sIfE (teCmp op_ge oGe (wn 3) (wOf (dBin op_pow oPow (wOf cInt) (wOf cInt))) (nomark _)) (ssCons (sSetE 3 sc__law_draw.nd (dBin op_sub oSub (wn 3) (wOf (dBin op_pow oPow (wOf cInt) (wOf cInt)))))
    (ssCons (sForE PassesOwn.never rfl (iSeqE (dn 2)) (gNm 5 sc__law_draw.nd) (ssCons (sAppE 4 (dBin op_mod oMod (wn 3) (wn 5)))
    (ssOne (sSetE 3 sc__law_draw.nd (dBin op_fdiv oDiv (wn 3) (wn 5))))))
    (ssOne (sRetOE 4)))) ssNil)
    (ssCons (sSetE 6 sc__law_draw.nd (dBin op_mod oMod (wOf (dBin opAdd oAdd (wOf (dBin opAdd oAdd (wn 3) (wOf cInt))) (wOf (dBin op_mul oMul (wOf cInt) (wn 1))))) (wOf cInt)))
    (ssCons (sForE PassesOwn.never rfl (iRange1 rfl T.n_range (dCB crLen oLen T.n_len PySem.boot_len (wCons (wn 2) wNil))) (gNm 7 sc__law_draw.nd) (ssCons (sSetE 6 sc__law_draw.nd (dBin op_mod oMod (wOf (dBin opAdd oAdd (wOf (dBin opAdd oAdd (wOf (dBin op_mul oMul (wn 6) (wOf cInt))) (wOf cInt))) (wn 7))) (wOf cInt)))
    (ssCons (sSetE 6 sc__law_draw.nd (dBin op_mod oMod (wOf (dBin opAdd oAdd (wOf (dBin op_mul oMul (wn 6) (wOf cInt))) (wOf cInt))) (wOf cInt)))
    (ssOne (sAppE 4 (dBin op_mod oMod (wOf (dBin op_fdiv oDiv (wn 6) (wOf cInt))) (wOf (dIxE ixAll oIx (wn 2) (wn 7) (fun _ _ => rfl)))))))))
    (ssOne (sRetOE 4)))))))))
theorem ok__law_strictly (T : Tx K mg) : ∀ n, FnOk P w K mg base CX0 n T.a__law_strictly T.d__law_strictly ["expected", "actual"] (spR K (f__law_strictly n))
  | 0 => fnNever
  | k + 1 => by
    have RC : FnOk P w K mg base CX0 k T.a__law_strictly T.d__law_strictly ["expected", "actual"] (spR K (f__law_strictly k)) := ok__law_strictly T k
    exact fnOk T.F__law_strictly sc__law_strictly rfl rfl (fun cdv A outer s H E hr => show PSs _ _ (tS K (s__law_strictly (f__law_strictly k))) from
    (ssCons (sIfE (teCmp op_isN oIsN2 (wn 0) (wOf cNon) (nomark _)) (ssOne (sRetE (dCmp op_isN oIsN2 (wn 1) (wOf cNon) (nomark _)))) ssNil)
    (ssCons (sIfE (teV (dIsiE .bool rfl T.n_isinstance (wn 0) (pe_bltn (v := .ty "bool") rfl T.n_bool PyProof.Rows.boot_bool rfl))) (ssOne (sRetE (deAnd (dIsiE .bool rfl T.n_isinstance (wn 1) (pe_bltn (v := .ty "bool") rfl T.n_bool PyProof.Rows.boot_bool rfl)) (deOne (dCmp (op_eqD hr.units) oEq (wn 1) (wn 0) (nomark _)))))) ssNil)
    (ssCons (sIfE (teV (dIsiE .int rfl T.n_isinstance (wn 0) (pe_bltn (v := .ty "int") rfl T.n_int PyProof.Rows.boot_int rfl))) (ssOne (sRetE (deAnd (dIsiE .int rfl T.n_isinstance (wn 1) (pe_bltn (v := .ty "int") rfl T.n_int PyProof.Rows.boot_int rfl)) (deAnd (deNot (dIsiE .bool rfl T.n_isinstance (wn 1) (pe_bltn (v := .ty "bool") rfl T.n_bool PyProof.Rows.boot_bool rfl))) (deOne (dCmp (op_eqD hr.units) oEq (wn 1) (wn 0) (nomark _))))))) ssNil)
    (ssCons (sIfE (teV (dIsiE .str rfl T.n_isinstance (wn 0) (pe_bltn (v := .ty "str") rfl T.n_str PyProof.Rows.boot_str rfl))) (ssOne (sRetE (deAnd (dIsiE .str rfl T.n_isinstance (wn 1) (pe_bltn (v := .ty "str") rfl T.n_str PyProof.Rows.boot_str rfl)) (deOne (dCmp (op_eqD hr.units) oEq (wn 1) (wn 0) (nomark _)))))) ssNil)
    (ssCons (sIfE (PW.pt (twOr (teCmp (op_neD hr.units) oNe (wOf (dIsiE .tuple rfl T.n_isinstance (wn 0) (pe_bltn (v := .ty "tuple") rfl T.n_tuple PyProof.Rows.boot_tuple rfl))) (wOf (dIsiE .tuple rfl T.n_isinstance (wn 1) (pe_bltn (v := .ty "tuple") rfl T.n_tuple PyProof.Rows.boot_tuple rfl))) (nomark _)) (twOr1 (teCmp (op_neD hr.units) oNe (wOf (dIsiE .list rfl T.n_isinstance (wn 0) (pe_bltn (v := .ty "list") rfl T.n_list PyProof.Rows.boot_list rfl))) (wOf (dIsiE .list rfl T.n_isinstance (wn 1) (pe_bltn (v := .ty "list") rfl T.n_list PyProof.Rows.boot_list rfl))) (nomark _))))) (ssOne (sRetE cBl)) ssNil)
    (ssCons (sIfE (PW.pt (twOr (teV (dIsiE .tuple rfl T.n_isinstance (wn 0) (pe_bltn (v := .ty "tuple") rfl T.n_tuple PyProof.Rows.boot_tuple rfl))) (twOr1 (teV (dIsiE .list rfl T.n_isinstance (wn 0) (pe_bltn (v := .ty "list") rfl T.n_list PyProof.Rows.boot_list rfl)))))) (ssCons (sIfE (teCmp (op_neD hr.units) oNe (wOf (dCB crLen oLen T.n_len PySem.boot_len (wCons (wn 1) wNil))) (wOf (dCB crLen oLen T.n_len PySem.boot_len (wCons (wn 0) wNil))) (nomark _)) (ssOne (sRetE cBl)) ssNil)
    (ssCons (sForE PassesOwn.never rfl (iRange1 rfl T.n_range (dCB crLen oLen T.n_len PySem.boot_len (wCons (wn 0) wNil))) (gNm 2 sc__law_strictly.nd) (ssOne (sIfE (teNot (teV (dCall RC hr T.m__law_strictly T.F__law_strictly.kp T.B__law_strictly (aCons (dIxE ixAll oIx (wn 0) (wn 2) (fun _ _ => rfl)) (aCons (dIxE ixAll oIx (wn 1) (wn 2) (fun _ _ => rfl)) aNil))))) (ssOne (sRetE cBl)) ssNil)))
    (ssOne (sRetE cBl)))) ssNil)
    (ssOne (sRetE (dCmp (op_eqD hr.units) oEq (wn 1) (wn 0) (nomark _)))))))))))
theorem ok__law_codes (T : Tx K mg) : FnOk P w K mg base CX0 1 T.a__law_codes T.d__law_codes ["bits"] (spR K f__law_codes) := fnOk T.F__law_codes sc__law_codes rfl rfl (fun cdv A outer s H E hr => show PSs _ _ (tS K s__law_codes) from
    (ssCons (sSetE 1 sc__law_codes.nd (dOfN (nLstD (aCons (dTup aNil) aNil))))
    (ssCons (sForE PassesOwn.never rfl (iRange1 rfl T.n_range (dn 0)) (gNm 2 sc__law_codes.nd) (ssCons (sSetE 3 sc__law_codes.nd (dOfN (nLstD aNil)))
    (ssCons (sForE PassesOwn.never rfl (iSeqE (dn 1)) (gNm 4 sc__law_codes.nd) (ssOne (sSetE 3 sc__law_codes.nd (dBin opAdd oAdd (wn 3) (wOf (dOfN (nLstD (aCons (dBin opAdd oAdd (wn 4) (wOf (dTup (aCons cBl aNil)))) (aCons (dBin opAdd oAdd (wn 4) (wOf (dTup (aCons cBl aNil)))) aNil)))))))))
    (ssOne (sSetE 1 sc__law_codes.nd (dn 3))))))
    (ssOne (sRetE (dn 1))))))
theorem ok__law_rows (T : Tx K mg) : FnOk P w K mg base CX0 1 T.a__law_rows T.d__law_rows ["cells", "bits"] (spR K f__law_rows) := fnOk T.F__law_rows sc__law_rows rfl rfl (fun cdv A outer s H E hr => show PSs _ _ (tS K s__law_rows) from
    (ssCons (sOwnE 2 sc__law_rows.nd (nLstD aNil))
    (ssCons (sForE PassesOwn.never rfl (iRange1 rfl T.n_range cInt) (gNm 3 sc__law_rows.nd) (ssCons (sParNE 4 5 rfl sc__law_rows.nd (dBin opAdd oAdd (wn 1) (wOf (dCB crLen oLen T.n_len PySem.boot_len (wCons (wn 2) wNil)))) (nLstD aNil) (by rfl))
    (ssCons (sForE PassesOwn.never rfl (iSeqE (dSlE (wn 0) (oSome (dBin op_mul oMul (wOf cInt) (wn 3))) (oSome (dBin opAdd oAdd (wOf (dBin op_mul oMul (wOf cInt) (wn 3))) (wOf cInt))))) (gNm 6 sc__law_rows.nd) (ssCons (sSetE 7 sc__law_rows.nd (dBin opAdd oAdd (wOf cInt) (wOf (dBin op_mod oMod (wn 6) (wn 4)))))
    (ssOne (sIfE (teCmp (opNotIn (hr65 hr)) oNotIn (wn 7) (wOf (dOfN (nLcE rfl sc__law_rows.nd (blkOk_by (own := [("literal", 9)]) (by kernel_rfl)) (iwLst (wn 5)) (fun _ _ _ _ _ => (gNm 9 sc__law_rows.nd)) (fun _ _ _ _ _ => ptsNil) (fun _ _ _ _ _ => (dCB call_abs oAbs T.n_abs (by decide +kernel) (wCons (wn 9) wNil))) (by decide)))) (by with_unfolding_all rfl)) (ssOne (sAppE 5 (deIf (teCmp (op_eqD hr.units) oEq (wOf (dBin op_mod oMod (wOf (dBin op_fdiv oDiv (wn 6) (wOf cInt))) (wOf cInt))) (wOf cInt) (nomark _)) (dn 7) (dUn un_neg oNeg (wn 7))))) ssNil))))
    (ssCons (sSetE 8 sc__law_rows.nd (deIf (teCmp op_gt oGt (wOf (dIxE ixAll oIx (wn 0) (wOf (dBin opAdd oAdd (wOf (dBin op_mul oMul (wOf cInt) (wn 3))) (wOf cInt))) (fun _ _ => rfl))) (wOf cInt) (nomark _)) (dCT crTup oTupOf T.n_tuple PyProof.Rows.boot_tuple (wCons (wOf (dOfN (nLcE rfl sc__law_rows.nd (blkOk_by (own := [("pair", 10)]) (by kernel_rfl)) (iwOf (iSeqE (dOfN (nCB cr_sortedPO oSortP T.n_sorted PyProof.Rows.boot_sorted (wCons (wOf (dOfN (nLcE rfl sc__law_rows.nd (blkOk_by (own := [("literal", 9)]) (by kernel_rfl)) (iwLst (wn 5)) (fun _ _ _ _ _ => (gNm 9 sc__law_rows.nd)) (fun _ _ _ _ _ => ptsNil) (fun _ _ _ _ _ => (dTup (aCons (dCB call_abs oAbs T.n_abs (by decide +kernel) (wCons (wn 9) wNil)) (aCons (dn 9) aNil)))) (by decide)))) wNil))))) (fun _ _ _ _ _ => (gNm 10 sc__law_rows.nd)) (fun _ _ _ _ _ => ptsNil) (fun _ _ _ _ _ => (dIxE ixAll oIx (wn 10) (wOf cInt) (fun _ _ => rfl))) (by decide)))) wNil)) (dTup aNil)))
    (ssOne (sIfE (PW.pt (twAnd (teCmp (op_neD hr.units) oNe (wOf (dCB crLen oLen T.n_len PySem.boot_len (wCons (wn 8) wNil))) (wOf cInt) (nomark _)) (twAnd1 (teCmp (opNotIn (hr65 hr)) oNotIn (wn 8) (wn 2) (by with_unfolding_all rfl))))) (ssOne (sAppE 2 (dn 8))) ssNil))))))
    (ssOne (sRetOE 2)))))
theorem ok__law_values (T : Tx K mg) : FnOk P w K mg base CX0 1 T.a__law_values T.d__law_values ["rows", "code"] (spR K f__law_values) := fnOk T.F__law_values sc__law_values rfl rfl (fun cdv A outer s H E hr => show PSs _ _ (tS K s__law_values) from
    (ssCons (sOwnE 2 sc__law_values.nd (nCT crLst oLstOf T.n_list PyProof.Rows.boot_list (wCons (wn 1) wNil)))
    (ssCons (sForE PassesOwn.never rfl (iSeqE (dn 0)) (gNm 3 sc__law_values.nd) (ssCons (PS.set (sSetLc (i := 4) rfl sc__law_values.nd (blkOk_by (own := [("literal", 5)]) (by kernel_rfl)) (sw_true rfl rfl rfl (by kernel_rfl)) (iwOf (iSeqE (dn 3))) (fun _ _ _ _ _ => (gNm 5 sc__law_values.nd)) (fun _ _ _ _ _ => ptsNil) (fun _ _ _ _ _ => (deIf (teCmp op_isN oIsN2 (wOf (dIxE ixAll oIx (wn 2) (wOf (dBin op_sub oSub (wOf (dCB call_abs oAbs T.n_abs (by decide +kernel) (wCons (wn 5) wNil))) (wOf cInt))) (fun _ _ => rfl))) (wOf cNon) (nomark _)) cNon (dCmp (op_eqD hr.units) oEq (wOf (dIxE ixAll oIx (wn 2) (wOf (dBin op_sub oSub (wOf (dCB call_abs oAbs T.n_abs (by decide +kernel) (wCons (wn 5) wNil))) (wOf cInt))) (fun _ _ => rfl))) (wOf (dCmp op_gt oGt (wn 5) (wOf cInt) (nomark _))) (nomark _)))) (by decide)))
    (ssOne (sAppE 2 (deIf (teCmp (opIn (hr65 hr)) oIn (wOf cBl) (wn 4) (by with_unfolding_all rfl)) cBl (deIf (teCmp (opIn (hr65 hr)) oIn (wOf cNon) (wn 4) (by with_unfolding_all rfl)) cNon cBl))))))
    (ssOne (sRetOE 2)))))
theorem ok__law_needed (T : Tx K mg) : FnOk P w K mg base CX0 1 T.a__law_needed T.d__law_needed ["rows", "bits", "literals"] (spR K f__law_needed) := fnOk T.F__law_needed sc__law_needed rfl rfl (fun cdv A outer s H E hr => show PSs _ _ (tS K s__law_needed) from
    (ssCons (sSetE 3 sc__law_needed.nd (dOfN (nLcE rfl sc__law_needed.nd (blkOk_by (own := [("literal", 5)]) (by kernel_rfl)) (iwOf (iSeqE (dn 2))) (fun _ _ _ _ _ => (gNm 5 sc__law_needed.nd)) (fun _ _ _ _ _ => ptsNil) (fun _ _ _ _ _ => (dCB call_abs oAbs T.n_abs (by decide +kernel) (wCons (wn 5) wNil))) (by decide))))
    (ssCons (sForE PassesOwn.never rfl (iDownE rfl T.n_range (dBin opAdd oAdd (wn 1) (wOf (dCB crLen oLen T.n_len PySem.boot_len (wCons (wn 0) wNil)))) (dn 1) (dUn un_neg oNeg (wOf cInt))) (gNm 4 sc__law_needed.nd) (ssOne (sIfE (teCmp (opIn (hr65 hr)) oIn (wn 4) (wn 3) (by with_unfolding_all rfl)) (ssOne (sSetE 3 sc__law_needed.nd (dBin opAdd oAdd (wn 3) (wOf (dOfN (nLcE rfl sc__law_needed.nd (blkOk_by (own := [("literal", 5)]) (by kernel_rfl)) (iwOf (iSeqE (dIxE ixAll oIx (wn 0) (wOf (dBin op_sub oSub (wOf (dBin op_sub oSub (wn 4) (wn 1))) (wOf cInt))) (fun _ _ => rfl)))) (fun _ _ _ _ _ => (gNm 5 sc__law_needed.nd)) (fun _ _ _ _ _ => ptsNil) (fun _ _ _ _ _ => (dCB call_abs oAbs T.n_abs (by decide +kernel) (wCons (wn 5) wNil))) (by decide))))))) ssNil)))
    (ssOne (sRetE (dCT crTup oTupOf T.n_tuple PyProof.Rows.boot_tuple (wCons (wOf (dOfN (nLcE rfl sc__law_needed.nd (blkOk_by (own := [("variable", 4)]) (by kernel_rfl)) (iwOf (iRange2 rfl T.n_range cInt (dBin opAdd oAdd (wOf (dBin opAdd oAdd (wn 1) (wOf (dCB crLen oLen T.n_len PySem.boot_len (wCons (wn 0) wNil))))) (wOf cInt)))) (fun _ _ _ _ _ => (gNm 4 sc__law_needed.nd)) (fun _ _ _ _ _ => (ptsOne (teCmp (opIn (hr65 hr)) oIn (wn 4) (wn 3) (by with_unfolding_all rfl)))) (fun _ _ _ _ _ => (dn 4)) (by decide)))) wNil)))))))
theorem ok__law_bent (T : Tx K mg) : FnOk P w K mg base CX0 1 T.a__law_bent T.d__law_bent ["rows", "bits", "digit", "place"] (spR K f__law_bent) := fnOk T.F__law_bent sc__law_bent rfl rfl (fun cdv A outer s H E hr => show PSs _ _ (tS K s__law_bent) from
    (ssCons (sSetE 4 sc__law_bent.nd (dBin opAdd oAdd (wn 1) (wOf (dCB crLen oLen T.n_len PySem.boot_len (wCons (wn 0) wNil)))))
    (ssCons (sSetE 5 sc__law_bent.nd (dIxE ixAll oIx (wOf (dOfN (nLstD (aCons (dTup (aCons cInt aNil)) (aCons (dTup (aCons cInt (aCons cInt aNil))) (aCons (dTup (aCons cInt (aCons cInt aNil))) (aCons (dTup (aCons cInt (aCons (dUn un_neg oNeg (wOf cInt)) aNil))) (aCons (dTup (aCons cInt (aCons (dBin opAdd oAdd (wn 4) (wOf cInt)) aNil))) (aCons (dTup (aCons cInt (aCons cInt aNil))) (aCons (dIxE ixAll oIx (wn 0) (wn 3) (fun _ _ => rfl)) (aCons (dTup (aCons cInt (aCons cBl aNil))) (aCons (dOfN (nLstD (aCons cInt (aCons cInt aNil)))) (aCons (dTup (aCons cInt (aCons (dBin op_sub oSub (wOf (dUn un_neg oNeg (wn 4))) (wOf cInt)) aNil))) (aCons cNon (aCons (dTup (aCons cInt (aCons cStr aNil))) (aCons (dTup (aCons (dUn un_neg oNeg (wOf cInt)) aNil)) (aCons (dTup (aCons cInt (aCons cInt (aCons cInt aNil)))) aNil))))))))))))))))) (wn 2) (fun _ _ => rfl)))
    (ssOne (sRetE (dTup (aCons cStr (aCons (dn 1) (aCons (dBin opAdd oAdd (wOf (dCT crTup oTupOf T.n_tuple PyProof.Rows.boot_tuple (wCons (wn 0) wNil))) (wOf (dTup (aCons (dn 5) aNil)))) aNil)))))))))
theorem ok_law (T : Tx K mg) : FnOk P w K mg base CX0 9 T.a_law T.d_law ["script"] (spR K f_law) := fnOk T.F_law sc_law rfl rfl (fun cdv A outer s H E hr => show PSs _ _ (tS K s_law) from
    (ssCons (sSetE 1 sc_law.nd (dBin opAdd oAdd (wOf (dCall (ok__law_draw T) (hr.mono (by decide)) T.m__law_draw T.F__law_draw.kp T.B__law_draw (aCons (dn 0) (aCons cInt (aCons (dOfN (nLstD (aCons cInt (aCons cInt (aCons cInt (aCons cInt (aCons cInt (aCons cInt aNil)))))))) aNil))))) (wOf (dCall (ok__law_draw T) (hr.mono (by decide)) T.m__law_draw T.F__law_draw.kp T.B__law_draw (aCons (dn 0) (aCons cInt (aCons (dOfN (nBin2 op_rep oRepN (wOf (dOfN (nLstD (aCons cInt aNil)))) (wOf cInt))) aNil)))))))
    (ssCons (sSetE 2 sc_law.nd (dBin opAdd oAdd (wOf cInt) (wOf (dIxE ixAll oIx (wn 1) (wOf cInt) (fun _ _ => rfl)))))
    (ssCons (sOwnE 3 sc_law.nd (nCallE (ok__law_rows T) (hr.mono (by decide)) T.m__law_rows T.F__law_rows.kp T.B__law_rows (aCons (dCall (ok__law_draw T) (hr.mono (by decide)) T.m__law_draw T.F__law_draw.kp T.B__law_draw (aCons (dn 0) (aCons cInt (aCons (dOfN (nBin2 op_rep oRepN (wOf (dOfN (nLstD (aCons cInt (aCons cInt (aCons cInt (aCons cInt aNil))))))) (wOf cInt))) aNil)))) (aCons (dn 2) aNil))))
    (ssCons (sIfE (teCmp (opNotIn (hr65 hr)) oNotIn (wOf (dTup (aCons cInt (aCons cInt aNil)))) (wn 3) (by with_unfolding_all rfl)) (ssOne (sAppE 3 (dTup (aCons cInt (aCons cInt aNil))))) ssNil)
    (ssCons (sTgtE (dTup (aCons (dTup (aCons cStr (aCons (dn 2) (aCons (dCT crTup oTupOf T.n_tuple PyProof.Rows.boot_tuple (wCons (wn 3) wNil)) aNil)))) (aCons (dBin opAdd oAdd (wn 2) (wOf (dCB crLen oLen T.n_len PySem.boot_len (wCons (wn 3) wNil)))) aNil))) (gTp rfl (gsCons 4 sc_law.nd (gsCons 5 sc_law.nd gsNil))))
    (ssFreeze 3 (ssCons (sIfE (PW.pt (twOr (teCmp op_isnot_bl oNotB (wOf (dCall (ok_is_gates T) (hr.mono (by decide)) T.m_is_gates T.F_is_gates.kp T.B_is_gates (aCons (dn 4) aNil))) (wOf cBl) (nomark _)) (twOr1 (teCmp op_isnot_bl oNotB (wOf (dCall (ok_is_gates T) (hr.mono (by decide)) T.m_is_gates T.F_is_gates.kp T.B_is_gates (aCons (dCall (ok__law_bent T) (hr.mono (by decide)) T.m__law_bent T.F__law_bent.kp T.B__law_bent (aCons (dn 3) (aCons (dn 2) (aCons (dIxE ixAll oIx (wn 1) (wOf cInt) (fun _ _ => rfl)) (aCons (dBin op_mod oMod (wOf (dIxE ixAll oIx (wn 1) (wOf cInt) (fun _ _ => rfl))) (wOf (dCB crLen oLen T.n_len PySem.boot_len (wCons (wn 3) wNil)))) aNil))))) aNil))) (wOf cBl) (nomark _))))) (ssOne (sRetE cBl)) ssNil)
    (ssCons (sSetE 6 sc_law.nd (dOfN (nLstD (aCons (dTup (aCons cStr (aCons (dBin op_sub oSub (wn 2) (wOf cInt)) (aCons (dCT crTup oTupOf T.n_tuple PyProof.Rows.boot_tuple (wCons (wn 3) wNil)) aNil)))) (aCons (dTup (aCons cStr (aCons (dn 2) (aCons (dn 3) aNil)))) (aCons (dTup (aCons cStr (aCons (dn 2) (aCons (dCT crTup oTupOf T.n_tuple PyProof.Rows.boot_tuple (wCons (wn 3) wNil)) aNil)))) (aCons (dTup (aCons cStr (aCons (dn 2) aNil))) (aCons cNon (aCons (dTup (aCons cStr (aCons cBl (aCons (dTup aNil) aNil)))) (aCons (dTup (aCons cStr (aCons (dn 2) (aCons (dCT crTup oTupOf T.n_tuple PyProof.Rows.boot_tuple (wCons (wn 3) wNil)) (aCons cInt aNil))))) aNil))))))))))
    (ssCons (sIfE (PW.pt (twAnd (teCmp op_gt oGt (wOf (dIxE ixAll oIx (wn 1) (wOf cInt) (fun _ _ => rfl))) (wOf cInt) (nomark _)) (twAnd1 (teCmp op_isnot_bl oNotB (wOf (dCall (ok_is_gates T) (hr.mono (by decide)) T.m_is_gates T.F_is_gates.kp T.B_is_gates (aCons (dIxE ixAll oIx (wn 6) (wOf (dIxE ixAll oIx (wn 1) (wOf cInt) (fun _ _ => rfl))) (fun _ _ => rfl)) aNil))) (wOf cBl) (nomark _))))) (ssOne (sRetE cBl)) ssNil)
    (ssCons (sIfE (PW.pt (twOr (teNot (teV (dCall (ok__law_strictly T 6) (hr.mono (by decide)) T.m__law_strictly T.F__law_strictly.kp T.B__law_strictly (aCons (dn 5) (aCons (dCall (ok_variables_in T) (hr.mono (by decide)) T.m_variables_in T.F_variables_in.kp T.B_variables_in (aCons (dn 4) aNil)) aNil))))) (twOr1 (teNot (teV (dCall (ok__law_strictly T 6) (hr.mono (by decide)) T.m__law_strictly T.F__law_strictly.kp T.B__law_strictly (aCons (dCall (ok__law_codes T) (hr.mono (by decide)) T.m__law_codes T.F__law_codes.kp T.B__law_codes (aCons (dn 2) aNil)) (aCons (dCall (ok_codes T) (hr.mono (by decide)) T.m_codes T.F_codes.kp T.B_codes (aCons (dn 2) aNil)) aNil)))))))) (ssOne (sRetE cBl)) ssNil)
    (ssCons (sSetE 7 sc_law.nd (dCT crTup oTupOf T.n_tuple PyProof.Rows.boot_tuple (wCons (wOf (dOfN (nLstD (aCons (dBin opAdd oAdd (wOf cInt) (wOf (dBin op_mod oMod (wOf (dIxE ixAll oIx (wn 1) (wOf cInt) (fun _ _ => rfl))) (wn 5)))) (aCons (dUn un_neg oNeg (wOf (dBin opAdd oAdd (wOf cInt) (wOf (dBin op_mod oMod (wOf (dIxE ixAll oIx (wn 1) (wOf cInt) (fun _ _ => rfl))) (wn 5)))))) aNil))))) wNil)))
    (ssCons (sSetE 8 sc_law.nd (dCall (ok__law_needed T) (hr.mono (by decide)) T.m__law_needed T.F__law_needed.kp T.B__law_needed (aCons (dn 3) (aCons (dn 2) (aCons (dn 7) aNil)))))
    (ssCons (sIfE (PW.pt (twOr (teNot (teV (dCall (ok__law_strictly T 6) (hr.mono (by decide)) T.m__law_strictly T.F__law_strictly.kp T.B__law_strictly (aCons (dn 8) (aCons (dCall (ok_needed T) (hr.mono (by decide)) T.m_needed T.F_needed.kp T.B_needed (aCons (dn 4) (aCons (dn 7) aNil))) aNil))))) (twOr1 (teNot (teV (dCall (ok__law_strictly T 6) (hr.mono (by decide)) T.m__law_strictly T.F__law_strictly.kp T.B__law_strictly (aCons (dCT crTup oTupOf T.n_tuple PyProof.Rows.boot_tuple (wCons (wOf (dOfN (nLcE rfl sc_law.nd (blkOk_by (own := [("variable", 15)]) (by kernel_rfl)) (iwOf (iSeqE (dn 8))) (fun _ _ _ _ _ => (gNm 15 sc_law.nd)) (fun _ _ _ _ _ => (ptsOne (teCmp op_le oLe (wn 15) (wn 2) (nomark _)))) (fun _ _ _ _ _ => (dBin op_sub oSub (wn 15) (wOf cInt))) (by decide)))) wNil)) (aCons (dCall (ok_bits_below T) (hr.mono (by decide)) T.m_bits_below T.F_bits_below.kp T.B_bits_below (aCons (dn 4) (aCons (dn 7) aNil))) aNil)))))))) (ssOne (sRetE cBl)) ssNil)
    (ssCons (sOwnE 9 sc_law.nd (nBin2 op_rep oRepN (wOf (dOfN (nLstD (aCons cInt aNil)))) (wn 2)))
    (ssCons (sForE PassesOwn.never rfl (iSeqE (dn 3)) (gNm 10 sc_law.nd) (ssOne (sAppE 9 (dBin opAdd oAdd (wOf cInt) (wOf (dCB (cr_max rfl) oMax T.n_max PyProof.Rows.boot_max (wCons (wOf (dBin opAdd oAdd (wOf (dOfN (nLstD (aCons cInt aNil)))) (wOf (dOfN (nLcE rfl sc_law.nd (blkOk_by (own := [("literal", 14)]) (by kernel_rfl)) (iwOf (iSeqE (dn 10))) (fun _ _ _ _ _ => (gNm 14 sc_law.nd)) (fun _ _ _ _ _ => ptsNil) (fun _ _ _ _ _ => (dIxE ixAll oIx (wn 9) (wOf (dBin op_sub oSub (wOf (dCB call_abs oAbs T.n_abs (by decide +kernel) (wCons (wn 14) wNil))) (wOf cInt))) (fun _ _ => rfl))) (by decide)))))) wNil)))))))
    (ssCons (PS.set (sSetLc (i := 11) rfl sc_law.nd (blkOk_by (own := [("variable", 15)]) (by kernel_rfl)) (sw_true rfl rfl rfl (by kernel_rfl)) (iwOf (iRange2 rfl T.n_range cInt (dBin opAdd oAdd (wn 5) (wOf cInt)))) (fun _ _ _ _ _ => (gNm 15 sc_law.nd)) (fun _ _ _ _ _ => ptsNil) (fun _ _ _ _ _ => (dCB crLen oLen T.n_len PySem.boot_len (wCons (wOf (dOfN (nLcE rfl sc_law.nd (blkOk_by (own := [("row", 10)]) (by kernel_rfl)) (iwOf (iSeqE (dn 3))) (fun _ _ _ _ _ => (gNm 10 sc_law.nd)) (fun _ _ _ _ _ => (ptsOne (PW.pt (twOr (teCmp (opIn (hr65 hr)) oIn (wn 15) (wn 10) (by with_unfolding_all rfl)) (twOr1 (teCmp (opIn (hr65 hr)) oIn (wOf (dUn un_neg oNeg (wn 15))) (wn 10) (by with_unfolding_all rfl))))))) (fun _ _ _ _ _ => (dn 10)) (by decide)))) wNil))) (by decide)))
    (ssCons (sIfE (PW.pt (twOr (teNot (teV (dCall (ok__law_strictly T 6) (hr.mono (by decide)) T.m__law_strictly T.F__law_strictly.kp T.B__law_strictly (aCons (dCT crTup oTupOf T.n_tuple PyProof.Rows.boot_tuple (wCons (wn 9) wNil)) (aCons (dCall (ok_levels T) (hr.mono (by decide)) T.m_levels T.F_levels.kp T.B_levels (aCons (dn 4) aNil)) aNil))))) (twOr1 (teNot (teV (dCall (ok__law_strictly T 6) (hr.mono (by decide)) T.m__law_strictly T.F__law_strictly.kp T.B__law_strictly (aCons (dCT crTup oTupOf T.n_tuple PyProof.Rows.boot_tuple (wCons (wn 11) wNil)) (aCons (dCall (ok_uses T) (hr.mono (by decide)) T.m_uses T.F_uses.kp T.B_uses (aCons (dn 4) aNil)) aNil)))))))) (ssOne (sRetE cBl)) ssNil)
    (ssCons (sSetE 12 sc_law.nd (dCT crTup oTupOf T.n_tuple PyProof.Rows.boot_tuple (wCons (wOf (dOfN (nLcE rfl sc_law.nd (blkOk_by (own := [("digit", 17)]) (by kernel_rfl)) (iwOf (iSeqE (dSlE (wn 1) (oSome cInt) (oSome (dBin opAdd oAdd (wOf cInt) (wn 2)))))) (fun _ _ _ _ _ => (gNm 17 sc_law.nd)) (fun _ _ _ _ _ => ptsNil) (fun _ _ _ _ _ => (dIxE ixAll oIx (wOf (dOfN (nLstD (aCons cNon (aCons cBl (aCons cBl aNil)))))) (wn 17) (fun _ _ => rfl))) (by decide)))) wNil)))
    (ssCons (sIfE (teNot (teV (dCall (ok__law_strictly T 6) (hr.mono (by decide)) T.m__law_strictly T.F__law_strictly.kp T.B__law_strictly (aCons (dCT crTup oTupOf T.n_tuple PyProof.Rows.boot_tuple (wCons (wOf (dCall (ok__law_values T) (hr.mono (by decide)) T.m__law_values T.F__law_values.kp T.B__law_values (aCons (dn 3) (aCons (dn 12) aNil)))) wNil)) (aCons (dCall (ok_known_values T) (hr.mono (by decide)) T.m_known_values T.F_known_values.kp T.B_known_values (aCons (dn 4) (aCons (dn 12) aNil))) aNil))))) (ssOne (sRetE cBl)) ssNil)
    (ssCons (PS.set (sSetLc (i := 13) rfl sc_law.nd (blkOk_by (own := [("code", 16)]) (by kernel_rfl)) (sw_true rfl rfl rfl (by kernel_rfl)) (iwOf (iSeqE (dCall (ok__law_codes T) (hr.mono (by decide)) T.m__law_codes T.F__law_codes.kp T.B__law_codes (aCons (dn 2) aNil)))) (fun _ _ _ _ _ => (gNm 16 sc_law.nd)) (fun _ _ _ _ _ => ptsNil) (fun _ _ _ _ _ => (dCall (ok__law_values T) (hr.mono (by decide)) T.m__law_values T.F__law_values.kp T.B__law_values (aCons (dn 3) (aCons (dn 16) aNil)))) (by decide)))
    (ssCons (sForE PassesOwn.never rfl (iSeqE (dn 7)) (gNm 14 sc_law.nd) (ssOne (sIfE (teNot (teV (dCall (ok__law_strictly T 6) (hr.mono (by decide)) T.m__law_strictly T.F__law_strictly.kp T.B__law_strictly (aCons (dCT crTup oTupOf T.n_tuple PyProof.Rows.boot_tuple (wCons (wOf (dOfN (nLcE rfl sc_law.nd (blkOk_by (own := [("row", 10)]) (by kernel_rfl)) (iwOf (iSeqE (dn 13))) (fun _ _ _ _ _ => (gNm 10 sc_law.nd)) (fun _ _ _ _ _ => ptsNil) (fun _ _ _ _ _ => (dCmp (op_eqD hr.units) oEq (wOf (dIxE ixAll oIx (wn 10) (wOf (dBin op_sub oSub (wOf (dCB call_abs oAbs T.n_abs (by decide +kernel) (wCons (wn 14) wNil))) (wOf cInt))) (fun _ _ => rfl))) (wOf (dCmp op_gt oGt (wn 14) (wOf cInt) (nomark _))) (nomark _))) (by decide)))) wNil)) (aCons (dCall (ok_truths_of T) (hr.mono (by decide)) T.m_truths_of T.F_truths_of.kp T.B_truths_of (aCons (dn 4) (aCons (dn 14) aNil))) aNil))))) (ssOne (sRetE cBl)) ssNil)))
    (ssOne (sRetE (dCmp (op_eqD hr.units) oEq (wOf (dCB crLen oLen T.n_len PySem.boot_len (wCons (wOf (dOfN (nLcE rfl sc_law.nd (blkOk_by (own := [("code", 16), ("row", 10)]) (by kernel_rfl)) (iwOf (iZipL rfl T.n_zip (dCall (ok__law_codes T) (hr.mono (by decide)) T.m__law_codes T.F__law_codes.kp T.B__law_codes (aCons (dn 2) aNil)) (dn 13))) (fun _ _ _ _ _ => (gTp rfl (gsCons 16 sc_law.nd (gsCons 10 sc_law.nd gsNil)))) (fun _ _ _ _ _ => (ptsOne (teNot (teV (dCall (ok__law_strictly T 6) (hr.mono (by decide)) T.m__law_strictly T.F__law_strictly.kp T.B__law_strictly (aCons (dCT crTup oTupOf T.n_tuple PyProof.Rows.boot_tuple (wCons (wn 10) wNil)) (aCons (dCall (ok_values T) (hr.mono (by decide)) T.m_values T.F_values.kp T.B_values (aCons (dn 4) (aCons (dn 16) aNil))) aNil))))))) (fun _ _ _ _ _ => cInt) (by decide)))) wNil))) (wOf cInt) (nomark _))))))))))))))))))))))))))
end
end Gk00
end
/-! Gk00End -/
section
set_option Elab.async false
set_option linter.all false
set_option maxRecDepth 100000
namespace Gk00
open PySem PySem.Spec PyProof.Rows L2 DL
theorem all_mk {l : PySem.W.OpenLaw} {w : World} {K : PySem.W.Frag} {h : Heap} {mg : Str → Option Value} {fa : Addr} (X : K.In h) (G : h.Ns mainGlobals mg) (hfa : mg "law" = some (.ref fa))
    {f0 : Addr} {od0 an0 : Option Addr} {sl0 : Array (Option Value)} {oc0 kV0 dc0 pm0 cd0 ct0 : Value}
    (a0 : PySem.W.nsIn K mainGlobals "is_integer" = some (some (.ref f0))) (l0 : K.lookup f0 = some ⟨oc0, od0, .func (PySem.W.fnOf "is_integer" "is_integer" (defArgs S_is_integer) (defBody S_is_integer) (defScope S_is_integer) .none kV0 dc0 pm0 an0 cd0 ct0), sl0⟩) (c0 : PySem.W.codeIn K cd0 "is_integer" = true) (k0 : PySem.W.keepIn K (.ref f0) = true)
    {f1 : Addr} {od1 an1 : Option Addr} {sl1 : Array (Option Value)} {oc1 kV1 dc1 pm1 cd1 ct1 : Value}
    (a1 : PySem.W.nsIn K mainGlobals "is_clause" = some (some (.ref f1))) (l1 : K.lookup f1 = some ⟨oc1, od1, .func (PySem.W.fnOf "is_clause" "is_clause" (defArgs S_is_clause) (defBody S_is_clause) (defScope S_is_clause) .none kV1 dc1 pm1 an1 cd1 ct1), sl1⟩) (c1 : PySem.W.codeIn K cd1 "is_clause" = true) (k1 : PySem.W.keepIn K (.ref f1) = true)
    {f2 : Addr} {od2 an2 : Option Addr} {sl2 : Array (Option Value)} {oc2 kV2 dc2 pm2 cd2 ct2 : Value}
    (a2 : PySem.W.nsIn K mainGlobals "is_gates" = some (some (.ref f2))) (l2 : K.lookup f2 = some ⟨oc2, od2, .func (PySem.W.fnOf "is_gates" "is_gates" (defArgs S_is_gates) (defBody S_is_gates) (defScope S_is_gates) .none kV2 dc2 pm2 an2 cd2 ct2), sl2⟩) (c2 : PySem.W.codeIn K cd2 "is_gates" = true) (k2 : PySem.W.keepIn K (.ref f2) = true)
    {f3 : Addr} {od3 an3 : Option Addr} {sl3 : Array (Option Value)} {oc3 kV3 dc3 pm3 cd3 ct3 : Value}
    (a3 : PySem.W.nsIn K mainGlobals "check_gates" = some (some (.ref f3))) (l3 : K.lookup f3 = some ⟨oc3, od3, .func (PySem.W.fnOf "check_gates" "check_gates" (defArgs S_check_gates) (defBody S_check_gates) (defScope S_check_gates) .none kV3 dc3 pm3 an3 cd3 ct3), sl3⟩) (c3 : PySem.W.codeIn K cd3 "check_gates" = true) (k3 : PySem.W.keepIn K (.ref f3) = true)
    {f4 : Addr} {od4 an4 : Option Addr} {sl4 : Array (Option Value)} {oc4 kV4 dc4 pm4 cd4 ct4 : Value}
    (a4 : PySem.W.nsIn K mainGlobals "variables_in" = some (some (.ref f4))) (l4 : K.lookup f4 = some ⟨oc4, od4, .func (PySem.W.fnOf "variables_in" "variables_in" (defArgs S_variables_in) (defBody S_variables_in) (defScope S_variables_in) .none kV4 dc4 pm4 an4 cd4 ct4), sl4⟩) (c4 : PySem.W.codeIn K cd4 "variables_in" = true) (k4 : PySem.W.keepIn K (.ref f4) = true)
    {f5 : Addr} {od5 an5 : Option Addr} {sl5 : Array (Option Value)} {oc5 kV5 dc5 pm5 cd5 ct5 : Value}
    (a5 : PySem.W.nsIn K mainGlobals "is_code" = some (some (.ref f5))) (l5 : K.lookup f5 = some ⟨oc5, od5, .func (PySem.W.fnOf "is_code" "is_code" (defArgs S_is_code) (defBody S_is_code) (defScope S_is_code) .none kV5 dc5 pm5 an5 cd5 ct5), sl5⟩) (c5 : PySem.W.codeIn K cd5 "is_code" = true) (k5 : PySem.W.keepIn K (.ref f5) = true)
    {f6 : Addr} {od6 an6 : Option Addr} {sl6 : Array (Option Value)} {oc6 kV6 dc6 pm6 cd6 ct6 : Value}
    (a6 : PySem.W.nsIn K mainGlobals "values" = some (some (.ref f6))) (l6 : K.lookup f6 = some ⟨oc6, od6, .func (PySem.W.fnOf "values" "values" (defArgs S_values) (defBody S_values) (defScope S_values) .none kV6 dc6 pm6 an6 cd6 ct6), sl6⟩) (c6 : PySem.W.codeIn K cd6 "values" = true) (k6 : PySem.W.keepIn K (.ref f6) = true)
    {f7 : Addr} {od7 an7 : Option Addr} {sl7 : Array (Option Value)} {oc7 kV7 dc7 pm7 cd7 ct7 : Value}
    (a7 : PySem.W.nsIn K mainGlobals "is_true" = some (some (.ref f7))) (l7 : K.lookup f7 = some ⟨oc7, od7, .func (PySem.W.fnOf "is_true" "is_true" (defArgs S_is_true) (defBody S_is_true) (defScope S_is_true) .none kV7 dc7 pm7 an7 cd7 ct7), sl7⟩) (c7 : PySem.W.codeIn K cd7 "is_true" = true) (k7 : PySem.W.keepIn K (.ref f7) = true)
    {f8 : Addr} {od8 an8 : Option Addr} {sl8 : Array (Option Value)} {oc8 kV8 dc8 pm8 cd8 ct8 : Value}
    (a8 : PySem.W.nsIn K mainGlobals "is_half" = some (some (.ref f8))) (l8 : K.lookup f8 = some ⟨oc8, od8, .func (PySem.W.fnOf "is_half" "is_half" (defArgs S_is_half) (defBody S_is_half) (defScope S_is_half) .none kV8 dc8 pm8 an8 cd8 ct8), sl8⟩) (c8 : PySem.W.codeIn K cd8 "is_half" = true) (k8 : PySem.W.keepIn K (.ref f8) = true)
    {f9 : Addr} {od9 an9 : Option Addr} {sl9 : Array (Option Value)} {oc9 kV9 dc9 pm9 cd9 ct9 : Value}
    (a9 : PySem.W.nsIn K mainGlobals "known_literal" = some (some (.ref f9))) (l9 : K.lookup f9 = some ⟨oc9, od9, .func (PySem.W.fnOf "known_literal" "known_literal" (defArgs S_known_literal) (defBody S_known_literal) (defScope S_known_literal) .none kV9 dc9 pm9 an9 cd9 ct9), sl9⟩) (c9 : PySem.W.codeIn K cd9 "known_literal" = true) (k9 : PySem.W.keepIn K (.ref f9) = true)
    {f10 : Addr} {od10 an10 : Option Addr} {sl10 : Array (Option Value)} {oc10 kV10 dc10 pm10 cd10 ct10 : Value}
    (a10 : PySem.W.nsIn K mainGlobals "known_values" = some (some (.ref f10))) (l10 : K.lookup f10 = some ⟨oc10, od10, .func (PySem.W.fnOf "known_values" "known_values" (defArgs S_known_values) (defBody S_known_values) (defScope S_known_values) .none kV10 dc10 pm10 an10 cd10 ct10), sl10⟩) (c10 : PySem.W.codeIn K cd10 "known_values" = true) (k10 : PySem.W.keepIn K (.ref f10) = true)
    {f11 : Addr} {od11 an11 : Option Addr} {sl11 : Array (Option Value)} {oc11 kV11 dc11 pm11 cd11 ct11 : Value}
    (a11 : PySem.W.nsIn K mainGlobals "check_literals" = some (some (.ref f11))) (l11 : K.lookup f11 = some ⟨oc11, od11, .func (PySem.W.fnOf "check_literals" "check_literals" (defArgs S_check_literals) (defBody S_check_literals) (defScope S_check_literals) .none kV11 dc11 pm11 an11 cd11 ct11), sl11⟩) (c11 : PySem.W.codeIn K cd11 "check_literals" = true) (k11 : PySem.W.keepIn K (.ref f11) = true)
    {f12 : Addr} {od12 an12 : Option Addr} {sl12 : Array (Option Value)} {oc12 kV12 dc12 pm12 cd12 ct12 : Value}
    (a12 : PySem.W.nsIn K mainGlobals "needed" = some (some (.ref f12))) (l12 : K.lookup f12 = some ⟨oc12, od12, .func (PySem.W.fnOf "needed" "needed" (defArgs S_needed) (defBody S_needed) (defScope S_needed) .none kV12 dc12 pm12 an12 cd12 ct12), sl12⟩) (c12 : PySem.W.codeIn K cd12 "needed" = true) (k12 : PySem.W.keepIn K (.ref f12) = true)
    {f13 : Addr} {od13 an13 : Option Addr} {sl13 : Array (Option Value)} {oc13 kV13 dc13 pm13 cd13 ct13 : Value}
    (a13 : PySem.W.nsIn K mainGlobals "bits_below" = some (some (.ref f13))) (l13 : K.lookup f13 = some ⟨oc13, od13, .func (PySem.W.fnOf "bits_below" "bits_below" (defArgs S_bits_below) (defBody S_bits_below) (defScope S_bits_below) .none kV13 dc13 pm13 an13 cd13 ct13), sl13⟩) (c13 : PySem.W.codeIn K cd13 "bits_below" = true) (k13 : PySem.W.keepIn K (.ref f13) = true)
    {f14 : Addr} {od14 an14 : Option Addr} {sl14 : Array (Option Value)} {oc14 kV14 dc14 pm14 cd14 ct14 : Value}
    (a14 : PySem.W.nsIn K mainGlobals "levels" = some (some (.ref f14))) (l14 : K.lookup f14 = some ⟨oc14, od14, .func (PySem.W.fnOf "levels" "levels" (defArgs S_levels) (defBody S_levels) (defScope S_levels) .none kV14 dc14 pm14 an14 cd14 ct14), sl14⟩) (c14 : PySem.W.codeIn K cd14 "levels" = true) (k14 : PySem.W.keepIn K (.ref f14) = true)
    {f15 : Addr} {od15 an15 : Option Addr} {sl15 : Array (Option Value)} {oc15 kV15 dc15 pm15 cd15 ct15 : Value}
    (a15 : PySem.W.nsIn K mainGlobals "uses" = some (some (.ref f15))) (l15 : K.lookup f15 = some ⟨oc15, od15, .func (PySem.W.fnOf "uses" "uses" (defArgs S_uses) (defBody S_uses) (defScope S_uses) .none kV15 dc15 pm15 an15 cd15 ct15), sl15⟩) (c15 : PySem.W.codeIn K cd15 "uses" = true) (k15 : PySem.W.keepIn K (.ref f15) = true)
    {f16 : Addr} {od16 an16 : Option Addr} {sl16 : Array (Option Value)} {oc16 kV16 dc16 pm16 cd16 ct16 : Value}
    (a16 : PySem.W.nsIn K mainGlobals "codes" = some (some (.ref f16))) (l16 : K.lookup f16 = some ⟨oc16, od16, .func (PySem.W.fnOf "codes" "codes" (defArgs S_codes) (defBody S_codes) (defScope S_codes) .none kV16 dc16 pm16 an16 cd16 ct16), sl16⟩) (c16 : PySem.W.codeIn K cd16 "codes" = true) (k16 : PySem.W.keepIn K (.ref f16) = true)
    {f17 : Addr} {od17 an17 : Option Addr} {sl17 : Array (Option Value)} {oc17 kV17 dc17 pm17 cd17 ct17 : Value}
    (a17 : PySem.W.nsIn K mainGlobals "truths_of" = some (some (.ref f17))) (l17 : K.lookup f17 = some ⟨oc17, od17, .func (PySem.W.fnOf "truths_of" "truths_of" (defArgs S_truths_of) (defBody S_truths_of) (defScope S_truths_of) .none kV17 dc17 pm17 an17 cd17 ct17), sl17⟩) (c17 : PySem.W.codeIn K cd17 "truths_of" = true) (k17 : PySem.W.keepIn K (.ref f17) = true)
    {f18 : Addr} {od18 an18 : Option Addr} {sl18 : Array (Option Value)} {oc18 kV18 dc18 pm18 cd18 ct18 : Value}
    (a18 : PySem.W.nsIn K mainGlobals "_law_cell" = some (some (.ref f18))) (l18 : K.lookup f18 = some ⟨oc18, od18, .func (PySem.W.fnOf "_law_cell" "_law_cell" (defArgs S__law_cell) (defBody S__law_cell) (defScope S__law_cell) .none kV18 dc18 pm18 an18 cd18 ct18), sl18⟩) (c18 : PySem.W.codeIn K cd18 "_law_cell" = true) (k18 : PySem.W.keepIn K (.ref f18) = true)
    {f19 : Addr} {od19 an19 : Option Addr} {sl19 : Array (Option Value)} {oc19 kV19 dc19 pm19 cd19 ct19 : Value}
    (a19 : PySem.W.nsIn K mainGlobals "_law_draw" = some (some (.ref f19))) (l19 : K.lookup f19 = some ⟨oc19, od19, .func (PySem.W.fnOf "_law_draw" "_law_draw" (defArgs S__law_draw) (defBody S__law_draw) (defScope S__law_draw) .none kV19 dc19 pm19 an19 cd19 ct19), sl19⟩) (c19 : PySem.W.codeIn K cd19 "_law_draw" = true) (k19 : PySem.W.keepIn K (.ref f19) = true)
    {f20 : Addr} {od20 an20 : Option Addr} {sl20 : Array (Option Value)} {oc20 kV20 dc20 pm20 cd20 ct20 : Value}
    (a20 : PySem.W.nsIn K mainGlobals "_law_strictly" = some (some (.ref f20))) (l20 : K.lookup f20 = some ⟨oc20, od20, .func (PySem.W.fnOf "_law_strictly" "_law_strictly" (defArgs S__law_strictly) (defBody S__law_strictly) (defScope S__law_strictly) .none kV20 dc20 pm20 an20 cd20 ct20), sl20⟩) (c20 : PySem.W.codeIn K cd20 "_law_strictly" = true) (k20 : PySem.W.keepIn K (.ref f20) = true)
    {f21 : Addr} {od21 an21 : Option Addr} {sl21 : Array (Option Value)} {oc21 kV21 dc21 pm21 cd21 ct21 : Value}
    (a21 : PySem.W.nsIn K mainGlobals "_law_codes" = some (some (.ref f21))) (l21 : K.lookup f21 = some ⟨oc21, od21, .func (PySem.W.fnOf "_law_codes" "_law_codes" (defArgs S__law_codes) (defBody S__law_codes) (defScope S__law_codes) .none kV21 dc21 pm21 an21 cd21 ct21), sl21⟩) (c21 : PySem.W.codeIn K cd21 "_law_codes" = true) (k21 : PySem.W.keepIn K (.ref f21) = true)
    {f22 : Addr} {od22 an22 : Option Addr} {sl22 : Array (Option Value)} {oc22 kV22 dc22 pm22 cd22 ct22 : Value}
    (a22 : PySem.W.nsIn K mainGlobals "_law_rows" = some (some (.ref f22))) (l22 : K.lookup f22 = some ⟨oc22, od22, .func (PySem.W.fnOf "_law_rows" "_law_rows" (defArgs S__law_rows) (defBody S__law_rows) (defScope S__law_rows) .none kV22 dc22 pm22 an22 cd22 ct22), sl22⟩) (c22 : PySem.W.codeIn K cd22 "_law_rows" = true) (k22 : PySem.W.keepIn K (.ref f22) = true)
    {f23 : Addr} {od23 an23 : Option Addr} {sl23 : Array (Option Value)} {oc23 kV23 dc23 pm23 cd23 ct23 : Value}
    (a23 : PySem.W.nsIn K mainGlobals "_law_values" = some (some (.ref f23))) (l23 : K.lookup f23 = some ⟨oc23, od23, .func (PySem.W.fnOf "_law_values" "_law_values" (defArgs S__law_values) (defBody S__law_values) (defScope S__law_values) .none kV23 dc23 pm23 an23 cd23 ct23), sl23⟩) (c23 : PySem.W.codeIn K cd23 "_law_values" = true) (k23 : PySem.W.keepIn K (.ref f23) = true)
    {f24 : Addr} {od24 an24 : Option Addr} {sl24 : Array (Option Value)} {oc24 kV24 dc24 pm24 cd24 ct24 : Value}
    (a24 : PySem.W.nsIn K mainGlobals "_law_needed" = some (some (.ref f24))) (l24 : K.lookup f24 = some ⟨oc24, od24, .func (PySem.W.fnOf "_law_needed" "_law_needed" (defArgs S__law_needed) (defBody S__law_needed) (defScope S__law_needed) .none kV24 dc24 pm24 an24 cd24 ct24), sl24⟩) (c24 : PySem.W.codeIn K cd24 "_law_needed" = true) (k24 : PySem.W.keepIn K (.ref f24) = true)
    {f25 : Addr} {od25 an25 : Option Addr} {sl25 : Array (Option Value)} {oc25 kV25 dc25 pm25 cd25 ct25 : Value}
    (a25 : PySem.W.nsIn K mainGlobals "_law_bent" = some (some (.ref f25))) (l25 : K.lookup f25 = some ⟨oc25, od25, .func (PySem.W.fnOf "_law_bent" "_law_bent" (defArgs S__law_bent) (defBody S__law_bent) (defScope S__law_bent) .none kV25 dc25 pm25 an25 cd25 ct25), sl25⟩) (c25 : PySem.W.codeIn K cd25 "_law_bent" = true) (k25 : PySem.W.keepIn K (.ref f25) = true)
    {f26 : Addr} {od26 an26 : Option Addr} {sl26 : Array (Option Value)} {oc26 kV26 dc26 pm26 cd26 ct26 : Value}
    (a26 : PySem.W.nsIn K mainGlobals "law" = some (some (.ref f26))) (l26 : K.lookup f26 = some ⟨oc26, od26, .func (PySem.W.fnOf "law" "law" (defArgs S_law) (defBody S_law) (defScope S_law) .none kV26 dc26 pm26 an26 cd26 ct26), sl26⟩) (c26 : PySem.W.codeIn K cd26 "law" = true) (k26 : PySem.W.keepIn K (.ref f26) = true)
    (n_isinstance : PySem.W.nsIn K mainGlobals "isinstance" = some none)
    (n_int : PySem.W.nsIn K mainGlobals "int" = some none)
    (n_bool : PySem.W.nsIn K mainGlobals "bool" = some none)
    (n_tuple : PySem.W.nsIn K mainGlobals "tuple" = some none)
    (n_all : PySem.W.nsIn K mainGlobals "all" = some none)
    (n_abs : PySem.W.nsIn K mainGlobals "abs" = some none)
    (n_range : PySem.W.nsIn K mainGlobals "range" = some none)
    (n_len : PySem.W.nsIn K mainGlobals "len" = some none)
    (n_enumerate : PySem.W.nsIn K mainGlobals "enumerate" = some none)
    (n_set : PySem.W.nsIn K mainGlobals "set" = some none)
    (n_list : PySem.W.nsIn K mainGlobals "list" = some none)
    (n_sorted : PySem.W.nsIn K mainGlobals "sorted" = some none)
    (n_max : PySem.W.nsIn K mainGlobals "max" = some none)
    (n_str : PySem.W.nsIn K mainGlobals "str" = some none)
    (n_zip : PySem.W.nsIn K mainGlobals "zip" = some none)
    {t_MOST_BITS : Tok} (c_MOST_BITS : PySem.W.nsIn K mainGlobals "MOST_BITS" = some (some (.int 400 t_MOST_BITS)))
    {t_MOST_GATES : Tok} (c_MOST_GATES : PySem.W.nsIn K mainGlobals "MOST_GATES" = some (some (.int 20000 t_MOST_GATES)))
    : ∃ fd : FuncData, (∀ (s : Shared) (v : Value), BindsTo s fd ⟨[v], []⟩ [("script", v)]) ∧ ∀ base : Heap, K.In base → base.Ns mainGlobals mg → FnOk l.prog w K mg base CX0 9 fa fd ["script"] (spR K f_law) := by
  have e := hfa.symm.trans (PySem.W.mg_of X G a26)
  cases e
  let T : Tx K mg := {
    a_is_integer := f0, d_is_integer := _, F_is_integer := fun_mk (st := S_is_integer) l0 c0 k0, m_is_integer := PySem.W.mg_of X G a0, B_is_integer := (fun_mk (st := S_is_integer) l0 c0 k0).binds fun _ _ _ _ _ _ us hl => match us, hl with | [_], _ => rfl,
    a_is_clause := f1, d_is_clause := _, F_is_clause := fun_mk (st := S_is_clause) l1 c1 k1, m_is_clause := PySem.W.mg_of X G a1, B_is_clause := (fun_mk (st := S_is_clause) l1 c1 k1).binds fun _ _ _ _ _ _ us hl => match us, hl with | [_, _], _ => rfl,
    a_is_gates := f2, d_is_gates := _, F_is_gates := fun_mk (st := S_is_gates) l2 c2 k2, m_is_gates := PySem.W.mg_of X G a2, B_is_gates := (fun_mk (st := S_is_gates) l2 c2 k2).binds fun _ _ _ _ _ _ us hl => match us, hl with | [_], _ => rfl,
    a_check_gates := f3, d_check_gates := _, F_check_gates := fun_mk (st := S_check_gates) l3 c3 k3, m_check_gates := PySem.W.mg_of X G a3, B_check_gates := (fun_mk (st := S_check_gates) l3 c3 k3).binds fun _ _ _ _ _ _ us hl => match us, hl with | [_], _ => rfl,
    a_variables_in := f4, d_variables_in := _, F_variables_in := fun_mk (st := S_variables_in) l4 c4 k4, m_variables_in := PySem.W.mg_of X G a4, B_variables_in := (fun_mk (st := S_variables_in) l4 c4 k4).binds fun _ _ _ _ _ _ us hl => match us, hl with | [_], _ => rfl,
    a_is_code := f5, d_is_code := _, F_is_code := fun_mk (st := S_is_code) l5 c5 k5, m_is_code := PySem.W.mg_of X G a5, B_is_code := (fun_mk (st := S_is_code) l5 c5 k5).binds fun _ _ _ _ _ _ us hl => match us, hl with | [_, _], _ => rfl,
    a_values := f6, d_values := _, F_values := fun_mk (st := S_values) l6 c6 k6, m_values := PySem.W.mg_of X G a6, B_values := (fun_mk (st := S_values) l6 c6 k6).binds fun _ _ _ _ _ _ us hl => match us, hl with | [_, _], _ => rfl,
    a_is_true := f7, d_is_true := _, F_is_true := fun_mk (st := S_is_true) l7 c7 k7, m_is_true := PySem.W.mg_of X G a7, B_is_true := (fun_mk (st := S_is_true) l7 c7 k7).binds fun _ _ _ _ _ _ us hl => match us, hl with | [_, _], _ => rfl,
    a_is_half := f8, d_is_half := _, F_is_half := fun_mk (st := S_is_half) l8 c8 k8, m_is_half := PySem.W.mg_of X G a8, B_is_half := (fun_mk (st := S_is_half) l8 c8 k8).binds fun _ _ _ _ _ _ us hl => match us, hl with | [_, _], _ => rfl,
    a_known_literal := f9, d_known_literal := _, F_known_literal := fun_mk (st := S_known_literal) l9 c9 k9, m_known_literal := PySem.W.mg_of X G a9, B_known_literal := (fun_mk (st := S_known_literal) l9 c9 k9).binds fun _ _ _ _ _ _ us hl => match us, hl with | [_, _], _ => rfl,
    a_known_values := f10, d_known_values := _, F_known_values := fun_mk (st := S_known_values) l10 c10 k10, m_known_values := PySem.W.mg_of X G a10, B_known_values := (fun_mk (st := S_known_values) l10 c10 k10).binds fun _ _ _ _ _ _ us hl => match us, hl with | [_, _], _ => rfl,
    a_check_literals := f11, d_check_literals := _, F_check_literals := fun_mk (st := S_check_literals) l11 c11 k11, m_check_literals := PySem.W.mg_of X G a11, B_check_literals := (fun_mk (st := S_check_literals) l11 c11 k11).binds fun _ _ _ _ _ _ us hl => match us, hl with | [_, _], _ => rfl,
    a_needed := f12, d_needed := _, F_needed := fun_mk (st := S_needed) l12 c12 k12, m_needed := PySem.W.mg_of X G a12, B_needed := (fun_mk (st := S_needed) l12 c12 k12).binds fun _ _ _ _ _ _ us hl => match us, hl with | [_, _], _ => rfl,
    a_bits_below := f13, d_bits_below := _, F_bits_below := fun_mk (st := S_bits_below) l13 c13 k13, m_bits_below := PySem.W.mg_of X G a13, B_bits_below := (fun_mk (st := S_bits_below) l13 c13 k13).binds fun _ _ _ _ _ _ us hl => match us, hl with | [_, _], _ => rfl,
    a_levels := f14, d_levels := _, F_levels := fun_mk (st := S_levels) l14 c14 k14, m_levels := PySem.W.mg_of X G a14, B_levels := (fun_mk (st := S_levels) l14 c14 k14).binds fun _ _ _ _ _ _ us hl => match us, hl with | [_], _ => rfl,
    a_uses := f15, d_uses := _, F_uses := fun_mk (st := S_uses) l15 c15 k15, m_uses := PySem.W.mg_of X G a15, B_uses := (fun_mk (st := S_uses) l15 c15 k15).binds fun _ _ _ _ _ _ us hl => match us, hl with | [_], _ => rfl,
    a_codes := f16, d_codes := _, F_codes := fun_mk (st := S_codes) l16 c16 k16, m_codes := PySem.W.mg_of X G a16, B_codes := (fun_mk (st := S_codes) l16 c16 k16).binds fun _ _ _ _ _ _ us hl => match us, hl with | [_], _ => rfl,
    a_truths_of := f17, d_truths_of := _, F_truths_of := fun_mk (st := S_truths_of) l17 c17 k17, m_truths_of := PySem.W.mg_of X G a17, B_truths_of := (fun_mk (st := S_truths_of) l17 c17 k17).binds fun _ _ _ _ _ _ us hl => match us, hl with | [_, _], _ => rfl,
    a__law_cell := f18, d__law_cell := _, F__law_cell := fun_mk (st := S__law_cell) l18 c18 k18, m__law_cell := PySem.W.mg_of X G a18, B__law_cell := (fun_mk (st := S__law_cell) l18 c18 k18).binds fun _ _ _ _ _ _ us hl => match us, hl with | [_, _], _ => rfl,
    a__law_draw := f19, d__law_draw := _, F__law_draw := fun_mk (st := S__law_draw) l19 c19 k19, m__law_draw := PySem.W.mg_of X G a19, B__law_draw := (fun_mk (st := S__law_draw) l19 c19 k19).binds fun _ _ _ _ _ _ us hl => match us, hl with | [_, _, _], _ => rfl,
    a__law_strictly := f20, d__law_strictly := _, F__law_strictly := fun_mk (st := S__law_strictly) l20 c20 k20, m__law_strictly := PySem.W.mg_of X G a20, B__law_strictly := (fun_mk (st := S__law_strictly) l20 c20 k20).binds fun _ _ _ _ _ _ us hl => match us, hl with | [_, _], _ => rfl,
    a__law_codes := f21, d__law_codes := _, F__law_codes := fun_mk (st := S__law_codes) l21 c21 k21, m__law_codes := PySem.W.mg_of X G a21, B__law_codes := (fun_mk (st := S__law_codes) l21 c21 k21).binds fun _ _ _ _ _ _ us hl => match us, hl with | [_], _ => rfl,
    a__law_rows := f22, d__law_rows := _, F__law_rows := fun_mk (st := S__law_rows) l22 c22 k22, m__law_rows := PySem.W.mg_of X G a22, B__law_rows := (fun_mk (st := S__law_rows) l22 c22 k22).binds fun _ _ _ _ _ _ us hl => match us, hl with | [_, _], _ => rfl,
    a__law_values := f23, d__law_values := _, F__law_values := fun_mk (st := S__law_values) l23 c23 k23, m__law_values := PySem.W.mg_of X G a23, B__law_values := (fun_mk (st := S__law_values) l23 c23 k23).binds fun _ _ _ _ _ _ us hl => match us, hl with | [_, _], _ => rfl,
    a__law_needed := f24, d__law_needed := _, F__law_needed := fun_mk (st := S__law_needed) l24 c24 k24, m__law_needed := PySem.W.mg_of X G a24, B__law_needed := (fun_mk (st := S__law_needed) l24 c24 k24).binds fun _ _ _ _ _ _ us hl => match us, hl with | [_, _, _], _ => rfl,
    a__law_bent := f25, d__law_bent := _, F__law_bent := fun_mk (st := S__law_bent) l25 c25 k25, m__law_bent := PySem.W.mg_of X G a25, B__law_bent := (fun_mk (st := S__law_bent) l25 c25 k25).binds fun _ _ _ _ _ _ us hl => match us, hl with | [_, _, _, _], _ => rfl,
    a_law := fa, d_law := _, F_law := fun_mk (st := S_law) l26 c26 k26, m_law := PySem.W.mg_of X G a26, B_law := (fun_mk (st := S_law) l26 c26 k26).binds fun _ _ _ _ _ _ us hl => match us, hl with | [_], _ => rfl,
    n_isinstance := PySem.W.mg_none_of X G n_isinstance,
    n_int := PySem.W.mg_none_of X G n_int,
    n_bool := PySem.W.mg_none_of X G n_bool,
    n_tuple := PySem.W.mg_none_of X G n_tuple,
    n_all := PySem.W.mg_none_of X G n_all,
    n_abs := PySem.W.mg_none_of X G n_abs,
    n_range := PySem.W.mg_none_of X G n_range,
    n_len := PySem.W.mg_none_of X G n_len,
    n_enumerate := PySem.W.mg_none_of X G n_enumerate,
    n_set := PySem.W.mg_none_of X G n_set,
    n_list := PySem.W.mg_none_of X G n_list,
    n_sorted := PySem.W.mg_none_of X G n_sorted,
    n_max := PySem.W.mg_none_of X G n_max,
    n_str := PySem.W.mg_none_of X G n_str,
    n_zip := PySem.W.mg_none_of X G n_zip,
    t_MOST_BITS := t_MOST_BITS, c_MOST_BITS := PySem.W.mg_of X G c_MOST_BITS,
    t_MOST_GATES := t_MOST_GATES, c_MOST_GATES := PySem.W.mg_of X G c_MOST_GATES }
  exact ⟨_, fun s v => .of_eq rfl, fun base _ _ => ok_law T⟩
end Gk00
open PySem PySem.W PyProof.Rows
end
set_option maxRecDepth 100000
set_option maxHeartbeats 0
set_option linter.all false
theorem PySem.Challenge.cw_foundry_k00_gates_from_their_rows_holds : PySem.Challenge.rw_foundry_k00_gates_from_their_rows.Holds := by
  w_on; o_law; k_head; (case hw => w_witness2)
  k_fill
  refine L2.walk_ofK (l := PySem.Challenge.rw_foundry_k00_gates_from_their_rows) (n := 63) (k := 9) (x := "script") (CX := L2.CX0) (sp := fun K => DL.spR K Gk00.f_law) rfl (by decide) rfl ⟨rfl, by decide, by decide⟩ (fun w h Y => PySem.W.kIn_of Y) ?F (fun K H a ns hl _ hS => DL.law_sp Gk00.law_true hl hS _) (fun _ _ _ _ h => h)
  case F =>
    intro w mg fa h KX G hmg
    refine' Gk00.all_mk KX G hmg ?a0 ?l0 ?c0 ?k0 ?a1 ?l1 ?c1 ?k1 ?a2 ?l2 ?c2 ?k2 ?a3 ?l3 ?c3 ?k3 ?a4 ?l4 ?c4 ?k4 ?a5 ?l5 ?c5 ?k5 ?a6 ?l6 ?c6 ?k6 ?a7 ?l7 ?c7 ?k7 ?a8 ?l8 ?c8 ?k8 ?a9 ?l9 ?c9 ?k9 ?a10 ?l10 ?c10 ?k10 ?a11 ?l11 ?c11 ?k11 ?a12 ?l12 ?c12 ?k12 ?a13 ?l13 ?c13 ?k13 ?a14 ?l14 ?c14 ?k14 ?a15 ?l15 ?c15 ?k15 ?a16 ?l16 ?c16 ?k16 ?a17 ?l17 ?c17 ?k17 ?a18 ?l18 ?c18 ?k18 ?a19 ?l19 ?c19 ?k19 ?a20 ?l20 ?c20 ?k20 ?a21 ?l21 ?c21 ?k21 ?a22 ?l22 ?c22 ?k22 ?a23 ?l23 ?c23 ?k23 ?a24 ?l24 ?c24 ?k24 ?a25 ?l25 ?c25 ?k25 ?a26 ?l26 ?c26 ?k26 ?n_isinstance ?n_int ?n_bool ?n_tuple ?n_all ?n_abs ?n_range ?n_len ?n_enumerate ?n_set ?n_list ?n_sorted ?n_max ?n_str ?n_zip ?c_MOST_BITS ?c_MOST_GATES
    (case a0 => k_is); (case l0 => k_is); (case c0 => k_is); (case k0 => k_is); (case a1 => k_is); (case l1 => k_is); (case c1 => k_is); (case k1 => k_is); (case a2 => k_is); (case l2 => k_is); (case c2 => k_is); (case k2 => k_is); (case a3 => k_is); (case l3 => k_is); (case c3 => k_is); (case k3 => k_is); (case a4 => k_is); (case l4 => k_is); (case c4 => k_is); (case k4 => k_is); (case a5 => k_is); (case l5 => k_is); (case c5 => k_is); (case k5 => k_is); (case a6 => k_is); (case l6 => k_is); (case c6 => k_is); (case k6 => k_is); (case a7 => k_is); (case l7 => k_is); (case c7 => k_is); (case k7 => k_is); (case a8 => k_is); (case l8 => k_is); (case c8 => k_is); (case k8 => k_is); (case a9 => k_is); (case l9 => k_is); (case c9 => k_is); (case k9 => k_is); (case a10 => k_is); (case l10 => k_is); (case c10 => k_is); (case k10 => k_is); (case a11 => k_is); (case l11 => k_is); (case c11 => k_is); (case k11 => k_is); (case a12 => k_is); (case l12 => k_is); (case c12 => k_is); (case k12 => k_is); (case a13 => k_is); (case l13 => k_is); (case c13 => k_is); (case k13 => k_is); (case a14 => k_is); (case l14 => k_is); (case c14 => k_is); (case k14 => k_is); (case a15 => k_is); (case l15 => k_is); (case c15 => k_is); (case k15 => k_is); (case a16 => k_is); (case l16 => k_is); (case c16 => k_is); (case k16 => k_is); (case a17 => k_is); (case l17 => k_is); (case c17 => k_is); (case k17 => k_is); (case a18 => k_is); (case l18 => k_is); (case c18 => k_is); (case k18 => k_is); (case a19 => k_is); (case l19 => k_is); (case c19 => k_is); (case k19 => k_is); (case a20 => k_is); (case l20 => k_is); (case c20 => k_is); (case k20 => k_is); (case a21 => k_is); (case l21 => k_is); (case c21 => k_is); (case k21 => k_is); (case a22 => k_is); (case l22 => k_is); (case c22 => k_is); (case k22 => k_is); (case a23 => k_is); (case l23 => k_is); (case c23 => k_is); (case k23 => k_is); (case a24 => k_is); (case l24 => k_is); (case c24 => k_is); (case k24 => k_is); (case a25 => k_is); (case l25 => k_is); (case c25 => k_is); (case k25 => k_is); (case a26 => k_is); (case l26 => k_is); (case c26 => k_is); (case k26 => k_is); (case n_isinstance => k_is); (case n_int => k_is); (case n_bool => k_is); (case n_tuple => k_is); (case n_all => k_is); (case n_abs => k_is); (case n_range => k_is); (case n_len => k_is); (case n_enumerate => k_is); (case n_set => k_is); (case n_list => k_is); (case n_sorted => k_is); (case n_max => k_is); (case n_str => k_is); (case n_zip => k_is); (case c_MOST_BITS => k_is); (case c_MOST_GATES => k_is)
